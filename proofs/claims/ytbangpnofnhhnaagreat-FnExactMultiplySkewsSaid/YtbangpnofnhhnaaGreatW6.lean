/-
  A part of the proof: an evaluator for a small form of the code, its soundness, and contracts of functions over it.
-/
import Derived.Test.YtbangpnofnhhnaaGreatW1
import Derived.Test.YtbangpnofnhhnaaGreatW2
import Derived.Test.YtbangpnofnhhnaaGreatW3
import Derived.Test.YtbangpnofnhhnaaGreatW4
import Derived.Test.YtbangpnofnhhnaaGreatW5

namespace Pe
open Go Gq
variable {T : Nat → Option Fn} {A : Oracle}
section
variable {p : Int}
/-- One place of a list gets more. -/
noncomputable def addAt (Q : List (Fp p)) (n : Nat) (v : Fp p) : List (Fp p) := Q.set n ((Q[n]?).getD 0 + v)
theorem addAt_length (Q : List (Fp p)) (n : Nat) (v : Fp p) : (addAt Q n v).length = Q.length := by unfold addAt; rw [List.length_set]
end
section
variable {p : Int} [IsP p]
noncomputable def byIn (m x : Fp p) (i : Nat) : Nat → List (Fp p) → List (Fp p) → List (Fp p)
  | _, [], Q => Q
  | k, y :: ys, Q => byIn m x i (k + 1) ys (addAt Q (i + k) (x * frIt m (i % (m.len - 1)) y % m))
noncomputable def byOut (m : Fp p) (b : List (Fp p)) : Nat → List (Fp p) → List (Fp p) → List (Fp p)
  | _, [], Q => Q
  | i, x :: xs, Q => byOut m b (i + 1) xs (byIn m x i 0 b Q)
theorem byIn_length (m x : Fp p) (i : Nat) : ∀ (k : Nat) (b Q : List (Fp p)), (byIn m x i k b Q).length = Q.length
  | _, [], _ => rfl
  | k, y :: ys, Q => by
    show (byIn m x i (k + 1) ys (addAt Q (i + k) _)).length = _
    rw [byIn_length, addAt_length]
theorem byOut_length (m : Fp p) (b : List (Fp p)) : ∀ (i : Nat) (a Q : List (Fp p)), (byOut m b i a Q).length = Q.length
  | _, [], _ => rfl
  | i, x :: xs, Q => by
    show (byOut m b (i + 1) xs (byIn m x i 0 b Q)).length = _
    rw [byOut_length, byIn_length]
end
theorem l_sSkDeg {O : Oracle} {p : Int} [IsP p] {S : List (Fp p)} (h8 : S.length = 8) (hS : ∀ a ∈ S, a.len ≤ 64) : ∀ n : Nat, n ≤ 8 →
    dn O 0 (.loop ir_spec_l03Deg_L0) ⟨[(1, .ptr 0 []), (3, (.d (.int .i64 ((n : Int) - 1))))], [.box false (.arr 8 (.arr 64 .leaf) ((skP S).map arr8))]⟩ =
      some (.exit 0, ⟨[(1, .ptr 0 []), (3, (.d (.int .i64 (((stl S n : Nat) : Int) - 1)))), (12, (.d (.bool false)))], [.box false (.arr 8 (.arr 64 .leaf) ((skP S).map arr8))]⟩)
  | 0, _ => by
    refine dn_stop ?_
    show _ = some (_, (⟨[_, (3, (.d (.int .i64 (((0 : Nat) : Int) - 1)))), _], _⟩ : St))
    generalize (skP S).map arr8 = LD at *
    simp -implicitDefEqProofs [ir_spec_l03Deg_L0, dn_cond]
  | n + 1, hn => by
    have hlt : n < S.length := by omega
    have hi8 : n < 8 := by omega
    have hm1 := List.getElem_mem hlt
    have hsl := hS _ hm1
    have hL : ((skP S).map arr8).length = 8 := by rw [List.length_map, List.length_map]; exact h8
    have hx2 : ∀ h : n < ((skP S).map arr8).length, ((skP S).map arr8)[n]'h = (D.arr 64 .leaf (ints .u8 (pad (row S[n])))) := fun h => by rw [List.getElem_map, List.getElem_map]
    have t3 : pad (row S[n]) = pad [] ↔ S[n] = 0 := by
      rw [← row_zero (p := p), pad_row_inj hsl (by rw [Pol.len_zero]; omega)]
    have e4 := beq_P (pad_length (row S[n])) (pad_length [])
    have t0 : ((n + 1 : Nat) : Int) - 1 = (n : Int) := by omega
    have w1 : IntKind.i64.wrap ((n : Int) - 1) = (n : Int) - 1 := w64 (by omega)
    rw [t0]
    unfold stl
    by_cases hz : S[n] = 0
    · rw [if_pos (by rw [List.getElem?_eq_getElem hlt, hz])]
      rw [decide_eq_true (t3.2 hz)] at e4
      refine dn_round ?_ (l_sSkDeg h8 hS n (by omega))
      generalize (skP S).map arr8 = LD at *
      generalize pad (row S[n]) = Pn at *
      simp -implicitDefEqProofs [ir_spec_l03Deg_L0, dn_cond, hi8, hL, hx2, e4, w1]
    · rw [if_neg (by rw [List.getElem?_eq_getElem hlt]; simpa using hz)]
      rw [decide_eq_false (fun h => hz (t3.1 h))] at e4
      rw [t0]
      refine dn_stop ?_
      generalize (skP S).map arr8 = LD at *
      generalize pad (row S[n]) = Pn at *
      simp -implicitDefEqProofs [ir_spec_l03Deg_L0, dn_cond, hi8, hL, hx2, e4]
def K_sSkDeg (O : Oracle) : Prop := ∀ (p : Int) [IsP p] (S : List (Fp p)), S.length = 8 → (∀ a ∈ S, a.len ≤ 64) → ask O F_spec_l03Deg [skwD (skP S)] = some (D.int .i64 (((stl S 8 : Nat) : Int) - 1))
theorem k_sSkDeg (hT : T F_spec_l03Deg = some ir_spec_l03Deg) : K_sSkDeg (den T A) := by
  intro p ip S h8 hS
  have e := l_sSkDeg (O := den T A) h8 hS 8 (Nat.le_refl _)
  have e0 : ((8 : Nat) : Int) - 1 = 7 := rfl
  rw [e0] at e
  have hsk : skwD (skP S) = .arr 8 (.arr 64 .leaf) ((skP S).map arr8) := rfl
  rw [hsk]
  refine ask_of hT rfl ?_
  generalize (skP S).map arr8 = LD at *
  simp -implicitDefEqProofs [ir_spec_l03Deg, ir_spec_l03Deg_B, e]
def K_skDeg (O : Oracle) : Prop := ∀ (p : Int) [IsP p] (S : List (Fp p)), S.length < 100000 → ask O F_impl_skew_degree [skD S] = some (D.int .i64 ((S.length : Int) - 1))
theorem k_skDeg (hT : T F_impl_skew_degree = some ir_impl_skew_degree) : K_skDeg (den T A) := by
  intro p ip S hS
  have w1 : IntKind.i64.wrap ((S.length : Int) - 1) = (S.length : Int) - 1 := w64 (by omega)
  refine ask_of hT rfl ?_
  simp -implicitDefEqProofs [ir_impl_skew_degree, ir_impl_skew_degree_B, w1]
/-- Filled up with zeros to eight. -/
noncomputable def pd8 {p : Int} (S : List (Fp p)) : List (Fp p) := S ++ List.replicate (8 - S.length) 0
theorem l_toldSk {O : Oracle} (hpo : K_poly O) {p : Int} [IsP p] {S : List (Fp p)} (h8 : S.length ≤ 8) (hS : ∀ a ∈ S, a.len ≤ 64) {b0 : Blk} : ∀ (k i : Nat), i + k = S.length →
    dn O 0 (.loop ir_impl_toldSkew_L0) ⟨[(2, .ptr 0 []), (4, .ptr 1 []), (11, .d (skD S)), (12, (.d (.int .i64 S.length))), (13, (.d (.int .i64 i)))], [b0, .box false (.arr 8 (.arr 64 .leaf) ((skP (pd8 (S.take i))).map arr8))]⟩ =
      some (.exit 0, ⟨[(2, .ptr 0 []), (4, .ptr 1 []), (11, .d (skD S)), (12, (.d (.int .i64 S.length))), (13, (.d (.int .i64 S.length))), (14, (.d (.bool false)))], [b0, .box false (.arr 8 (.arr 64 .leaf) ((skP (pd8 S)).map arr8))]⟩)
  | 0, i, hi => by
    obtain rfl : i = S.length := by omega
    rw [List.take_length]
    refine dn_stop ?_
    generalize (skP (pd8 S)).map arr8 = LD at *
    simp -implicitDefEqProofs [ir_impl_toldSkew_L0, dn_cond]
  | k + 1, i, hi => by
    have hlt : i < S.length := by omega
    have hi8 : i < 8 := by omega
    have hm1 := List.getElem_mem hlt
    have e1 := hpo p S[i] (hS _ hm1)
    have w4 : IntKind.i64.wrap ((i : Int) + 1) = ((i + 1 : Nat) : Int) := (w64 (x := (i : Int) + 1) (by omega)).trans (by omega)
    have hnew : (skP (pd8 (S.take (i + 1)))).map arr8 = ((skP (pd8 (S.take i))).map arr8).set i (D.arr 64 .leaf (ints .u8 (pad (row S[i])))) := by
      have hp : pd8 (S.take (i + 1)) = (pd8 (S.take i)).set i S[i] := by
        unfold pd8
        have l1 : (S.take i).length = i := by rw [List.length_take]; omega
        have l2 : (S.take (i + 1)).length = i + 1 := by rw [List.length_take]; omega
        rw [l1, l2, List.set_append_right _ _ (by omega), l1, Nat.sub_self, show 8 - i = (8 - (i + 1)) + 1 by omega, List.replicate_succ, List.set_cons_zero, List.take_succ_eq_append_getElem hlt, List.append_assoc]
        rfl
      rw [hp]
      unfold skP
      rw [List.map_set, List.map_set]
    have hL : ((skP (pd8 (S.take i))).map arr8).length = 8 := by
      rw [List.length_map, List.length_map]
      unfold pd8
      rw [List.length_append, List.length_replicate, List.length_take]; omega
    have hsh : ∀ h : i < ((skP (pd8 (S.take i))).map arr8).length, (((skP (pd8 (S.take i))).map arr8)[i]'h).sh.beq (.arr 64 .leaf) = true := fun h => by rw [List.getElem_map]; rfl
    have ih := l_toldSk hpo h8 hS (b0 := b0) k (i + 1) (by omega)
    rw [hnew] at ih
    refine dn_round ?_ ih
    generalize (skP (pd8 (S.take i))).map arr8 = LD at *
    generalize pad (row S[i]) = Pi at *
    simp -implicitDefEqProofs [ir_impl_toldSkew_L0, dn_cond, hlt, hi8, hL, hsh, e1, w4]
noncomputable def toldSkD {p : Int} (S : List (Fp p)) : D := if S.length ≤ 8 then .tup [skwD (skP (pd8 S)), (D.int .i64 0)] else .tup [skwD (skP (pd8 ([] : List (Fp p)))), (D.int .i64 3)]
theorem z8_eq {p : Int} : z8 = (skP (pd8 ([] : List (Fp p)))).map arr8 := by
  unfold pd8 skP
  rw [List.nil_append, List.map_replicate, List.map_replicate, row_zero]
  rfl
def K_toldSk (O : Oracle) : Prop := ∀ (p : Int) [IsP p] (S : List (Fp p)), S.length < 100000 → (∀ a ∈ S, a.len ≤ 64) → ask O F_impl_toldSkew [skD S] = some (toldSkD S)
theorem k_toldSk (hT : T F_impl_toldSkew = some ir_impl_toldSkew) (hdg : K_skDeg (den T A)) (hpo : K_poly (den T A)) : K_toldSk (den T A) := by
  intro p ip S hl hS
  have e1 := hdg p S hl
  unfold toldSkD
  refine ask_of hT rfl ?_
  by_cases h8 : S.length ≤ 8
  · rw [if_pos h8]
    have e2 := l_toldSk (O := den T A) hpo h8 hS (b0 := .box false (.arr 8 (.arr 64 .leaf) z8)) S.length 0 (Nat.zero_add _)
    have e00 : ((0 : Nat) : Int) = 0 := rfl
    rw [e00, List.take_zero, ← z8_eq] at e2
    have hlt : ¬ ((7 : Int) < (S.length : Int) - 1) := by omega
    have hsk : skwD (skP (pd8 S)) = .arr 8 (.arr 64 .leaf) ((skP (pd8 S)).map arr8) := rfl
    rw [hsk]
    have hsd : skD S = .sl .leaf (S.map fun c => (D.sl .leaf (ints .i64 (row c)))) := rfl
    have hL : (S.map fun c => (D.sl .leaf (ints .i64 (row c)))).length = S.length := List.length_map ..
    rw [hsd] at e1 e2 ⊢
    generalize (skP (pd8 S)).map arr8 = LD at *
    generalize (S.map fun c => (D.sl .leaf (ints .i64 (row c)))) = LR at *
    generalize (S.length : Int) - 1 = m1 at *
    simp -implicitDefEqProofs [ir_impl_toldSkew, ir_impl_toldSkew_B, dn_cond, e1, e2, hlt, hL, List.replicate]
  · rw [if_neg h8]
    have hlt : (7 : Int) < (S.length : Int) - 1 := by omega
    have hsk : skwD (skP (pd8 ([] : List (Fp p)))) = .arr 8 (.arr 64 .leaf) z8 := by rw [z8_eq (p := p)]
    rw [hsk]
    have hsd : skD S = .sl .leaf (S.map fun c => (D.sl .leaf (ints .i64 (row c)))) := rfl
    rw [hsd] at e1 ⊢
    generalize (S.map fun c => (D.sl .leaf (ints .i64 (row c)))) = LR at *
    generalize (S.length : Int) - 1 = m1 at *
    simp -implicitDefEqProofs [ir_impl_toldSkew, ir_impl_toldSkew_B, dn_cond, e1, hlt, List.replicate]
end Pe

namespace Pe
open Go Gq
variable {T : Nat → Option Fn} {A : Oracle}
theorem frIt_1000 {p : Int} [IsP p] {m y : Fp p} (hm : m ≠ 0) (hml : m.len ≤ 64) (hy : y.len ≤ 64) (k : Nat) : (frIt m k y).len ≤ 64 := by
  cases k with
  | zero => exact hy
  | succ k =>
    have := frIt_len hm k (pw y p.toNat % m) (Pol.len_mod _ hm)
    show (frIt m k (pw y p.toNat % m)).len ≤ 64
    omega
theorem l_by0 {O : Oracle} (hfr : K_frob O) (hpr : K_product O) (hco : K_combine2 O) {p : Int} [IsP p] {m x : Fp p} {a b : List (Fp p)} (h2 : 2 ≤ m.len) (hml : m.len ≤ 64) (hx : x.len ≤ 64) (hb : ∀ c ∈ b, c.len ≤ 64) {N i : Nat} (hN : N < 100000) (hi : i + b.length ≤ N) {cp : Option Nat} : ∀ (r k : Nat) (Q : List (Fp p)), k + r = b.length → Q.length = N → (∀ c ∈ Q, c.len ≤ 64) →
    (∀ c ∈ byIn m x i k (b.drop k) Q, c.len ≤ 64) ∧
    dn O 0 (.loop ir_impl_field_by_L0) ⟨[(2, .d (skD b)), (3, .ptr 0 []), (7, .sl 1 [] 0 N cp), (8, (.d (.int .i64 i))), (9, (.d (.sl .leaf (ints .i64 (row x))))), (27, .d (skD a)), (28, (.d (.int .i64 a.length))), (29, (.d (.int .i64 i))), (34, .d (skD b)), (35, (.d (.int .i64 b.length))), (36, (.d (.int .i64 k)))], [.box false (fldD m), .sl false .leaf (Q.map fun c => (D.sl .leaf (ints .i64 (row c))))]⟩ =
      some (.exit 2, ⟨[(2, .d (skD b)), (3, .ptr 0 []), (7, .sl 1 [] 0 N cp), (8, (.d (.int .i64 i))), (9, (.d (.sl .leaf (ints .i64 (row x))))), (27, .d (skD a)), (28, (.d (.int .i64 a.length))), (29, (.d (.int .i64 i))), (34, .d (skD b)), (35, (.d (.int .i64 b.length))), (36, (.d (.int .i64 b.length))), (37, (.d (.bool false)))], [.box false (fldD m), .sl false .leaf ((byIn m x i k (b.drop k) Q).map fun c => (D.sl .leaf (ints .i64 (row c))))]⟩)
  | 0, k, Q, hk, hq, hQ => by
    obtain rfl : k = b.length := by omega
    rw [List.drop_length]
    refine ⟨hQ, dn_stop ?_⟩
    show _ = some (_, (⟨_, [_, .sl false .leaf (Q.map fun c => (D.sl .leaf (ints .i64 (row c))))]⟩ : St))
    generalize (Q.map fun c => (D.sl .leaf (ints .i64 (row c)))) = LQ at *
    simp -implicitDefEqProofs [ir_impl_field_by_L0, dn_cond]
  | r + 1, k, Q, hk, hq, hQ => by
    have hm : m ≠ 0 := fun h => by rw [h, Pol.len_zero] at h2; omega
    have hlt : k < b.length := by omega
    have hm1 := List.getElem_mem hlt
    have hbk := hb _ hm1
    have hik : i + k < N := by omega
    have hikQ : i + k < Q.length := by omega
    have hq1 := hQ _ (List.getElem_mem hikQ)
    have w0 : IntKind.i64.wrap ((i : Int) + k) = ((i + k : Nat) : Int) := (w64 (x := (i : Int) + k) (by omega)).trans (by omega)
    have hs0 : (0 : Int) ≤ (i : Int) + k := by omega
    have hs1 : ((i : Int) + k).toNat = i + k := by omega
    have w4 : IntKind.i64.wrap ((k : Int) + 1) = ((k + 1 : Nat) : Int) := (w64 (x := (k : Int) + 1) (by omega)).trans (by omega)
    have e1 := hfr p m b[k] i h2 hml (by omega) (by omega)
    have hfl := frIt_1000 hm hml hbk (i % (m.len - 1))
    have e2 := hpr p m x (frIt m (i % (m.len - 1)) b[k]) hm hml (by omega) (by omega)
    have hl := Pol.len_mod (x * frIt m (i % (m.len - 1)) b[k]) hm
    have e3 := hco p Q[i + k] (x * frIt m (i % (m.len - 1)) b[k] % m) (by omega) (by omega)
    have hl2 := Pol.len_add_le (a := Q[i + k]) (b := x * frIt m (i % (m.len - 1)) b[k] % m) (n := 64) hq1 (by omega)
    have hadd : addAt Q (i + k) (x * frIt m (i % (m.len - 1)) b[k] % m) = Q.set (i + k) (Q[i + k] + x * frIt m (i % (m.len - 1)) b[k] % m) := by
      unfold addAt; rw [List.getElem?_eq_getElem hikQ]; rfl
    have hQ' : ∀ c ∈ addAt Q (i + k) (x * frIt m (i % (m.len - 1)) b[k] % m), c.len ≤ 64 := fun c hc => by
      rw [hadd] at hc
      rcases List.mem_or_eq_of_mem_set hc with h | rfl
      · exact hQ c h
      · exact hl2
    obtain ⟨g1, ih⟩ := l_by0 hfr hpr hco (a := a) h2 hml hx hb hN hi (cp := cp) r (k + 1) (addAt Q (i + k) (x * frIt m (i % (m.len - 1)) b[k] % m)) (by omega) (by rw [addAt_length]; exact hq) hQ'
    have hby : byIn m x i k (b.drop k) Q = byIn m x i (k + 1) (b.drop (k + 1)) (addAt Q (i + k) (x * frIt m (i % (m.len - 1)) b[k] % m)) := by
      rw [List.drop_eq_getElem_cons hlt]; rfl
    rw [hby]
    refine ⟨g1, dn_round ?_ ih⟩
    have hset : ((addAt Q (i + k) (x * frIt m (i % (m.len - 1)) b[k] % m)).map fun c => (D.sl .leaf (ints .i64 (row c)))) = (Q.map fun c => (D.sl .leaf (ints .i64 (row c)))).set (i + k) (D.sl .leaf (ints .i64 (row (Q[i + k] + x * frIt m (i % (m.len - 1)) b[k] % m)))) := by
      rw [hadd, List.map_set]
    rw [hset]
    have hLQ : (Q.map fun c => (D.sl .leaf (ints .i64 (row c)))).length = N := by rw [List.length_map]; exact hq
    have hx2 : ∀ h : i + k < (Q.map fun c => (D.sl .leaf (ints .i64 (row c)))).length, (Q.map fun c => (D.sl .leaf (ints .i64 (row c))))[i + k]'h = (D.sl .leaf (ints .i64 (row Q[i + k]))) := fun h => by rw [List.getElem_map]
    generalize row (Q[i + k] + x * frIt m (i % (m.len - 1)) b[k] % m) = R1 at *
    generalize row (x * frIt m (i % (m.len - 1)) b[k] % m) = R2 at *
    generalize row (frIt m (i % (m.len - 1)) b[k]) = R3 at *
    generalize row Q[i + k] = R4 at *
    generalize (Q.map fun c => (D.sl .leaf (ints .i64 (row c)))) = LQ at *
    simp -implicitDefEqProofs [ir_impl_field_by_L0, dn_cond, hlt, hik, hs0, hs1, hLQ, hx2, e1, e2, e3, w0, w4]
theorem l_by1 {O : Oracle} (hfr : K_frob O) (hpr : K_product O) (hco : K_combine2 O) {p : Int} [IsP p] {m : Fp p} {a b : List (Fp p)} (h2 : 2 ≤ m.len) (hml : m.len ≤ 64) (ha : ∀ c ∈ a, c.len ≤ 64) (hb : ∀ c ∈ b, c.len ≤ 64) {N : Nat} (hN : N < 100000) (hab : a.length + b.length ≤ N + 1) (hb1 : 1 ≤ b.length) {cp : Option Nat} : ∀ (r i : Nat) (Q : List (Fp p)), i + r = a.length → Q.length = N → (∀ c ∈ Q, c.len ≤ 64) →
    (∀ c ∈ byOut m b i (a.drop i) Q, c.len ≤ 64) ∧
    dn O 0 (.loop ir_impl_field_by_L1) ⟨[(2, .d (skD b)), (3, .ptr 0 []), (7, .sl 1 [] 0 N cp), (27, .d (skD a)), (28, (.d (.int .i64 a.length))), (29, (.d (.int .i64 i)))], [.box false (fldD m), .sl false .leaf (Q.map fun c => (D.sl .leaf (ints .i64 (row c))))]⟩ =
      some (.exit 0, ⟨[(2, .d (skD b)), (3, .ptr 0 []), (7, .sl 1 [] 0 N cp), (27, .d (skD a)), (28, (.d (.int .i64 a.length))), (29, (.d (.int .i64 a.length))), (30, (.d (.bool false)))], [.box false (fldD m), .sl false .leaf ((byOut m b i (a.drop i) Q).map fun c => (D.sl .leaf (ints .i64 (row c))))]⟩)
  | 0, i, Q, hi, hq, hQ => by
    obtain rfl : i = a.length := by omega
    rw [List.drop_length]
    refine ⟨hQ, dn_stop ?_⟩
    show _ = some (_, (⟨_, [_, .sl false .leaf (Q.map fun c => (D.sl .leaf (ints .i64 (row c))))]⟩ : St))
    generalize (Q.map fun c => (D.sl .leaf (ints .i64 (row c)))) = LQ at *
    simp -implicitDefEqProofs [ir_impl_field_by_L1, dn_cond]
  | r + 1, i, Q, hi, hq, hQ => by
    have hlt : i < a.length := by omega
    have hm1 := List.getElem_mem hlt
    have w4 : IntKind.i64.wrap ((i : Int) + 1) = ((i + 1 : Nat) : Int) := (w64 (x := (i : Int) + 1) (by omega)).trans (by omega)
    obtain ⟨g1, e1⟩ := l_by0 hfr hpr hco (a := a) h2 hml (ha _ hm1) hb hN (i := i) (by omega) (cp := cp) b.length 0 Q (Nat.zero_add _) hq hQ
    have e00 : ((0 : Nat) : Int) = 0 := rfl
    rw [e00, List.drop_zero] at e1
    rw [List.drop_zero] at g1
    obtain ⟨g2, ih⟩ := l_by1 hfr hpr hco h2 hml ha hb hN hab hb1 (cp := cp) r (i + 1) (byIn m a[i] i 0 b Q) (by omega) (by rw [byIn_length]; exact hq) g1
    have hby : byOut m b i (a.drop i) Q = byOut m b (i + 1) (a.drop (i + 1)) (byIn m a[i] i 0 b Q) := by
      rw [List.drop_eq_getElem_cons hlt]; rfl
    rw [hby]
    refine ⟨g2, dn_round ?_ ih⟩
    generalize ((byIn m a[i] i 0 b Q).map fun c => (D.sl .leaf (ints .i64 (row c)))) = LQ2 at *
    generalize (Q.map fun c => (D.sl .leaf (ints .i64 (row c)))) = LQ at *
    simp -implicitDefEqProofs [ir_impl_field_by_L1, dn_cond, hlt, e1, w4]
/-- The product, not trimmed. -/
noncomputable def mulS {p : Int} [IsP p] (m : Fp p) (a b : List (Fp p)) : List (Fp p) := byOut m b 0 a (List.replicate (a.length + b.length - 1) 0)
def K_by (O : Oracle) : Prop := ∀ (p : Int) [IsP p] (m : Fp p) (a b : List (Fp p)), 2 ≤ m.len → m.len ≤ 64 → (∀ c ∈ a, c.len ≤ 64) → (∀ c ∈ b, c.len ≤ 64) → a.length < 10000 → b.length < 10000 →
  ask O F_impl_field_by [fldD m, skD a, skD b] = some (if a.length = 0 ∨ b.length = 0 then skD ([] : List (Fp p)) else skD (trimS (mulS m a b)))
theorem k_by (hT : T F_impl_field_by = some ir_impl_field_by) (hfr : K_frob (den T A)) (hpr : K_product (den T A)) (hco : K_combine2 (den T A)) (htr : K_sktrim (den T A)) : K_by (den T A) := by
  intro p ip m a b h2 hml ha hb hal hbl
  have hsa : skD a = .sl .leaf (a.map fun c => (D.sl .leaf (ints .i64 (row c)))) := rfl
  have hsb : skD b = .sl .leaf (b.map fun c => (D.sl .leaf (ints .i64 (row c)))) := rfl
  have hLa : (a.map fun c => (D.sl .leaf (ints .i64 (row c)))).length = a.length := List.length_map ..
  have hLb : (b.map fun c => (D.sl .leaf (ints .i64 (row c)))).length = b.length := List.length_map ..
  by_cases h0 : a.length = 0 ∨ b.length = 0
  · rw [if_pos h0, hsa, hsb]
    refine ask_of hT rfl ?_
    generalize (a.map fun c => (D.sl .leaf (ints .i64 (row c)))) = LA at *
    generalize (b.map fun c => (D.sl .leaf (ints .i64 (row c)))) = LB at *
    rcases h0 with h0 | h0
    · rw [h0] at hLa
      simp -implicitDefEqProofs [ir_impl_field_by, ir_impl_field_by_B, dn_cond, hLa, hLb, List.replicate]
    · rw [h0] at hLb
      by_cases h1 : LA.length = 0
      · simp -implicitDefEqProofs [ir_impl_field_by, ir_impl_field_by_B, dn_cond, h1, hLb, List.replicate]
      · simp -implicitDefEqProofs [ir_impl_field_by, ir_impl_field_by_B, dn_cond, h1, hLb, List.replicate]
  · rw [if_neg h0]
    have ha1 : 1 ≤ a.length := by omega
    have hb1 : 1 ≤ b.length := by omega
    have hz : ((List.replicate (a.length + b.length - 1) (0 : Fp p)).map fun c => (D.sl .leaf (ints .i64 (row c)))) = List.replicate (a.length + b.length - 1) (.sl .leaf []) := by rw [List.map_replicate, row_zero, ints_nil]
    have hl0 : ∀ c ∈ List.replicate (a.length + b.length - 1) (0 : Fp p), c.len ≤ 64 := fun c hc => by rw [List.eq_of_mem_replicate hc, Pol.len_zero]; omega
    obtain ⟨g1, e1⟩ := l_by1 (O := den T A) hfr hpr hco h2 hml ha hb (N := a.length + b.length - 1) (by omega) (by omega) hb1 (cp := some (a.length + b.length - 1)) a.length 0 (List.replicate (a.length + b.length - 1) 0) (Nat.zero_add _) (List.length_replicate ..) hl0
    have e00 : ((0 : Nat) : Int) = 0 := rfl
    have em : byOut m b 0 (a.drop 0) (List.replicate (a.length + b.length - 1) 0) = mulS m a b := by rw [List.drop_zero]; rfl
    rw [e00, em, hz] at e1
    have hml2 : (mulS m a b).length = a.length + b.length - 1 := by unfold mulS; rw [byOut_length, List.length_replicate]
    have e2 := htr p (mulS m a b) (by omega)
    have hsm : skD (mulS m a b) = .sl .leaf ((mulS m a b).map fun c => (D.sl .leaf (ints .i64 (row c)))) := rfl
    have hLm : ((mulS m a b).map fun c => (D.sl .leaf (ints .i64 (row c)))).length = a.length + b.length - 1 := by rw [List.length_map]; exact hml2
    have ht : ((mulS m a b).map fun c => (D.sl .leaf (ints .i64 (row c)))).take (a.length + b.length - 1) = ((mulS m a b).map fun c => (D.sl .leaf (ints .i64 (row c)))) := List.take_of_length_le (by omega)
    rw [hsm] at e2
    have n1 : ¬ ((a.length : Int) = 0) := by omega
    have n2 : ¬ ((b.length : Int) = 0) := by omega
    have n1' : a.length ≠ 0 := by omega
    have n2' : b.length ≠ 0 := by omega
    have w1 : IntKind.i64.wrap ((a.length : Int) + b.length) = (a.length : Int) + b.length := w64 (by omega)
    have w2 : IntKind.i64.wrap ((a.length : Int) + b.length - 1) = ((a.length + b.length - 1 : Nat) : Int) := (w64 (by omega)).trans (by omega)
    have h24 : (a.length + b.length - 1) * 24 ≤ 1099511627776 := by omega
    generalize skD (trimS (mulS m a b)) = TD at *
    rw [hsa, hsb] at e1 ⊢
    refine ask_of hT rfl ?_
    generalize ((mulS m a b).map fun c => (D.sl .leaf (ints .i64 (row c)))) = LM at *
    generalize (a.map fun c => (D.sl .leaf (ints .i64 (row c)))) = LA at *
    generalize (b.map fun c => (D.sl .leaf (ints .i64 (row c)))) = LB at *
    generalize a.length + b.length - 1 = N at *
    simp -implicitDefEqProofs [ir_impl_field_by, ir_impl_field_by_B, dn_cond, hLa, hLb, n1, n2, n1', n2', w1, w2, h24, e1, e2, hLm, ht, List.replicate, ints_nil]
end Pe

namespace Pe
open Go Gq
variable {T : Nat → Option Fn} {A : Oracle}
theorem skP_get {p : Int} {S : List (Fp p)} {i : Nat} (hi : i < S.length) : ∀ h : i < ((skP S).map arr8).length, ((skP S).map arr8)[i]'h = (D.arr 64 .leaf (ints .u8 (pad (row S[i])))) := fun h => by rw [List.getElem_map, List.getElem_map]
theorem skP_len {p : Int} (S : List (Fp p)) : ((skP S).map arr8).length = S.length := by rw [List.length_map, List.length_map]
theorem l_sBy0 {O : Oracle} (hfr : K_sFrob O) (hmm : K_sMulMod O) (had : K_sAdd O) {p : Int} [IsP p] {m : Fp p} {S R : List (Fp p)} {z : List D} {vn : V} (hvn : vn.refs = []) (h2 : 2 ≤ m.len) (hml : m.len ≤ 64) (hS8 : S.length = 8) (hR8 : R.length = 8) (hS : ∀ c ∈ S, c.len < m.len) (hR : ∀ c ∈ R, c.len < m.len) {i nb : Nat} (hi : i < 8) (hnb : i + nb ≤ 8) (hnb1 : 1 ≤ nb) {x : Fp p} (hx : S[i]? = some x) : ∀ (r j : Nat) (Q : List (Fp p)), j + r = nb → Q.length = 8 → (∀ c ∈ Q, c.len < m.len) →
    (∀ c ∈ byIn m x i j ((R.take nb).drop j) Q, c.len < m.len) ∧
    dn O 0 (.loop ir_spec_l03Times_L0) ⟨[(0, (.d (.int .i64 p))), (5, .ptr 0 []), (6, .ptr 1 []), (7, .ptr 2 []), (8, .ptr 3 []), (10, vn), (11, (.d (.int .i64 (((nb - 1 : Nat) : Int))))), (12, .ptr 4 []), (13, (.d (.int .i64 i))), (14, (.d (.int .i64 j)))], [.box false (D.arr 64 .leaf (ints .u8 (pad (row m)))), .box false (.arr 8 (.arr 64 .leaf) ((skP S).map arr8)), .box false (.arr 8 (.arr 64 .leaf) ((skP R).map arr8)), .box false (.arr 8 (.arr 64 .leaf) z), .box false (.arr 8 (.arr 64 .leaf) ((skP Q).map arr8)), .hole]⟩ =
      some (.exit 2, ⟨[(0, (.d (.int .i64 p))), (5, .ptr 0 []), (6, .ptr 1 []), (7, .ptr 2 []), (8, .ptr 3 []), (10, vn), (11, (.d (.int .i64 (((nb - 1 : Nat) : Int))))), (12, .ptr 4 []), (13, (.d (.int .i64 i))), (14, (.d (.int .i64 nb))), (40, (.d (.bool false)))], [.box false (D.arr 64 .leaf (ints .u8 (pad (row m)))), .box false (.arr 8 (.arr 64 .leaf) ((skP S).map arr8)), .box false (.arr 8 (.arr 64 .leaf) ((skP R).map arr8)), .box false (.arr 8 (.arr 64 .leaf) z), .box false (.arr 8 (.arr 64 .leaf) ((skP (byIn m x i j ((R.take nb).drop j) Q)).map arr8)), .hole]⟩)
  | 0, j, Q, hj, hq, hQ => by
    obtain rfl : j = nb := by omega
    rw [List.drop_eq_nil_of_le (by rw [List.length_take]; omega)]
    have hlt : ¬ (j : Int) ≤ ((j - 1 : Nat) : Int) := by omega
    refine ⟨hQ, dn_stop ?_⟩
    show _ = some (_, (⟨_, [_, _, _, _, .box false (.arr 8 (.arr 64 .leaf) ((skP Q).map arr8)), _]⟩ : St))
    generalize ((j - 1 : Nat) : Int) = k1 at *
    generalize (skP S).map arr8 = LS at *
    generalize (skP R).map arr8 = LR at *
    generalize (skP Q).map arr8 = LQ at *
    generalize pad (row m) = Pm at *
    simp -implicitDefEqProofs [ir_spec_l03Times_L0, dn_cond, hlt, hvn]
  | r + 1, j, Q, hj, hq, hQ => by
    have hm : m ≠ 0 := fun h => by rw [h, Pol.len_zero] at h2; omega
    have hj8 : j < 8 := by omega
    have hij : i + j < 8 := by omega
    have hjR : j < R.length := by omega
    have hiS : i < S.length := by omega
    have hikQ : i + j < Q.length := by omega
    have hRj := hR _ (List.getElem_mem hjR)
    have hxe : S[i] = x := by rw [List.getElem?_eq_getElem hiS] at hx; exact Option.some.inj hx
    have hxl : x.len < m.len := by rw [← hxe]; exact hS _ (List.getElem_mem hiS)
    have hq1 := hQ _ (List.getElem_mem hikQ)
    have hle : (j : Int) ≤ ((nb - 1 : Nat) : Int) := by omega
    have w0 : IntKind.i64.wrap ((i : Int) + j) = ((i + j : Nat) : Int) := (w64 (x := (i : Int) + j) (by omega)).trans (by omega)
    have hs0 : (0 : Int) ≤ (i : Int) + j := by omega
    have hs1 : ((i : Int) + j).toNat = i + j := by omega
    have w4 : IntKind.i64.wrap ((j : Int) + 1) = ((j + 1 : Nat) : Int) := (w64 (x := (j : Int) + 1) (by omega)).trans (by omega)
    have e1 := hfr p m R[j] i h2 hml (by omega) (by omega)
    have hfl := frIt_len hm (i % (m.len - 1)) R[j] hRj
    have e2 := hmm p x (frIt m (i % (m.len - 1)) R[j]) m hm hml (by omega) (by omega)
    have hl := Pol.len_mod (x * frIt m (i % (m.len - 1)) R[j]) hm
    have e3 := had p 1 Q[i + j] (x * frIt m (i % (m.len - 1)) R[j] % m) (by omega) (by omega) (by omega) (by omega)
    rw [zp_one, Pol.C_one, Gq.one_mul] at e3
    have hl2 := Pol.len_add_le (a := Q[i + j]) (b := x * frIt m (i % (m.len - 1)) R[j] % m) (n := m.len - 1) (by omega) (by omega)
    have hadd : addAt Q (i + j) (x * frIt m (i % (m.len - 1)) R[j] % m) = Q.set (i + j) (Q[i + j] + x * frIt m (i % (m.len - 1)) R[j] % m) := by
      unfold addAt; rw [List.getElem?_eq_getElem hikQ]; rfl
    have hQ' : ∀ c ∈ addAt Q (i + j) (x * frIt m (i % (m.len - 1)) R[j] % m), c.len < m.len := fun c hc => by
      rw [hadd] at hc
      rcases List.mem_or_eq_of_mem_set hc with h | rfl
      · exact hQ c h
      · omega
    obtain ⟨g1, ih⟩ := l_sBy0 hfr hmm had (z := z) hvn h2 hml hS8 hR8 hS hR hi hnb hnb1 hx r (j + 1) (addAt Q (i + j) (x * frIt m (i % (m.len - 1)) R[j] % m)) (by omega) (by rw [addAt_length]; exact hq) hQ'
    have hby : byIn m x i j ((R.take nb).drop j) Q = byIn m x i (j + 1) ((R.take nb).drop (j + 1)) (addAt Q (i + j) (x * frIt m (i % (m.len - 1)) R[j] % m)) := by
      rw [List.drop_eq_getElem_cons (by rw [List.length_take]; omega), List.getElem_take]; rfl
    rw [hby]
    refine ⟨g1, dn_round ?_ ih⟩
    have hset : (skP (addAt Q (i + j) (x * frIt m (i % (m.len - 1)) R[j] % m))).map arr8 = ((skP Q).map arr8).set (i + j) (D.arr 64 .leaf (ints .u8 (pad (row (Q[i + j] + x * frIt m (i % (m.len - 1)) R[j] % m))))) := by
      rw [hadd]; unfold skP; rw [List.map_set, List.map_set]
    rw [hset]
    have hLS := skP_len S
    have hLR := skP_len R
    have hLQ := skP_len Q
    rw [hS8] at hLS
    rw [hR8] at hLR
    rw [hq] at hLQ
    have hxS := skP_get hiS
    rw [hxe] at hxS
    have hxR := skP_get hjR
    have hxQ := skP_get hikQ
    generalize pad (row (Q[i + j] + x * frIt m (i % (m.len - 1)) R[j] % m)) = P1 at *
    generalize pad (row (x * frIt m (i % (m.len - 1)) R[j] % m)) = P2 at *
    generalize pad (row (frIt m (i % (m.len - 1)) R[j])) = P3 at *
    generalize pad (row Q[i + j]) = P4 at *
    generalize pad (row R[j]) = P5 at *
    generalize pad (row x) = P6 at *
    generalize (skP S).map arr8 = LS at *
    generalize (skP R).map arr8 = LR at *
    generalize (skP Q).map arr8 = LQ at *
    generalize pad (row m) = Pm at *
    generalize ((nb - 1 : Nat) : Int) = k1 at *
    simp -implicitDefEqProofs [ir_spec_l03Times_L0, dn_cond, hle, hi, hj8, hij, hs0, hs1, hLS, hLR, hLQ, hxS, hxR, hxQ, e1, e2, e3, w0, w4, hvn]
end Pe

namespace Pe
open Go Gq
variable {T : Nat → Option Fn} {A : Oracle}
theorem l_sBy1 {O : Oracle} (hfr : K_sFrob O) (hmm : K_sMulMod O) (had : K_sAdd O) {p : Int} [IsP p] {m : Fp p} {S R : List (Fp p)} {z : List D} (h2 : 2 ≤ m.len) (hml : m.len ≤ 64) (hS8 : S.length = 8) (hR8 : R.length = 8) (hS : ∀ c ∈ S, c.len < m.len) (hR : ∀ c ∈ R, c.len < m.len) {na nb : Nat} (hna : 1 ≤ na) (hnb : 1 ≤ nb) (hab : na + nb ≤ 9) : ∀ (r i : Nat) (Q : List (Fp p)), i + r = na → Q.length = 8 → (∀ c ∈ Q, c.len < m.len) →
    (∀ c ∈ byOut m (R.take nb) i ((S.take na).drop i) Q, c.len < m.len) ∧
    dn O 0 (.loop ir_spec_l03Times_L1) ⟨[(0, (.d (.int .i64 p))), (5, .ptr 0 []), (6, .ptr 1 []), (7, .ptr 2 []), (8, .ptr 3 []), (10, (.d (.int .i64 (((na - 1 : Nat) : Int))))), (11, (.d (.int .i64 (((nb - 1 : Nat) : Int))))), (12, .ptr 4 []), (13, (.d (.int .i64 i)))], [.box false (D.arr 64 .leaf (ints .u8 (pad (row m)))), .box false (.arr 8 (.arr 64 .leaf) ((skP S).map arr8)), .box false (.arr 8 (.arr 64 .leaf) ((skP R).map arr8)), .box false (.arr 8 (.arr 64 .leaf) z), .box false (.arr 8 (.arr 64 .leaf) ((skP Q).map arr8)), .hole]⟩ =
      some (.exit 0, ⟨[(0, (.d (.int .i64 p))), (5, .ptr 0 []), (6, .ptr 1 []), (7, .ptr 2 []), (8, .ptr 3 []), (10, (.d (.int .i64 (((na - 1 : Nat) : Int))))), (11, (.d (.int .i64 (((nb - 1 : Nat) : Int))))), (12, .ptr 4 []), (13, (.d (.int .i64 na))), (35, (.d (.bool false)))], [.box false (D.arr 64 .leaf (ints .u8 (pad (row m)))), .box false (.arr 8 (.arr 64 .leaf) ((skP S).map arr8)), .box false (.arr 8 (.arr 64 .leaf) ((skP R).map arr8)), .box false (.arr 8 (.arr 64 .leaf) z), .box false (.arr 8 (.arr 64 .leaf) ((skP (byOut m (R.take nb) i ((S.take na).drop i) Q)).map arr8)), .hole]⟩)
  | 0, i, Q, hi, hq, hQ => by
    obtain rfl : i = na := by omega
    rw [List.drop_eq_nil_of_le (by rw [List.length_take]; omega)]
    have hlt : ¬ (i : Int) ≤ ((i - 1 : Nat) : Int) := by omega
    refine ⟨hQ, dn_stop ?_⟩
    show _ = some (_, (⟨_, [_, _, _, _, .box false (.arr 8 (.arr 64 .leaf) ((skP Q).map arr8)), _]⟩ : St))
    generalize ((i - 1 : Nat) : Int) = k1 at *
    generalize ((nb - 1 : Nat) : Int) = k2 at *
    generalize (skP S).map arr8 = LS at *
    generalize (skP R).map arr8 = LR at *
    generalize (skP Q).map arr8 = LQ at *
    generalize pad (row m) = Pm at *
    simp -implicitDefEqProofs [ir_spec_l03Times_L1, dn_cond, hlt]
  | r + 1, i, Q, hi, hq, hQ => by
    have hin : i < (S.take na).length := by rw [List.length_take]; omega
    have hiS : i < S.length := by omega
    have hle : (i : Int) ≤ ((na - 1 : Nat) : Int) := by omega
    have w4 : IntKind.i64.wrap ((i : Int) + 1) = ((i + 1 : Nat) : Int) := (w64 (x := (i : Int) + 1) (by omega)).trans (by omega)
    obtain ⟨g1, e1⟩ := l_sBy0 (O := O) hfr hmm had (z := z) (vn := (.d (.int .i64 (((na - 1 : Nat) : Int))))) rfl h2 hml hS8 hR8 hS hR (i := i) (nb := nb) (by omega) (by omega) hnb (x := S[i]) (List.getElem?_eq_getElem hiS) nb 0 Q (Nat.zero_add _) hq hQ
    have e00 : ((0 : Nat) : Int) = 0 := rfl
    rw [e00, List.drop_zero] at e1
    rw [List.drop_zero] at g1
    obtain ⟨g2, ih⟩ := l_sBy1 hfr hmm had (z := z) h2 hml hS8 hR8 hS hR hna hnb hab r (i + 1) (byIn m S[i] i 0 (R.take nb) Q) (by omega) (by rw [byIn_length]; exact hq) g1
    have hby : byOut m (R.take nb) i ((S.take na).drop i) Q = byOut m (R.take nb) (i + 1) ((S.take na).drop (i + 1)) (byIn m S[i] i 0 (R.take nb) Q) := by
      rw [List.drop_eq_getElem_cons hin, List.getElem_take]; rfl
    rw [hby]
    refine ⟨g2, dn_round ?_ ih⟩
    generalize (skP (byIn m S[i] i 0 (R.take nb) Q)).map arr8 = LQ2 at *
    generalize (skP S).map arr8 = LS at *
    generalize (skP R).map arr8 = LR at *
    generalize (skP Q).map arr8 = LQ at *
    generalize pad (row m) = Pm at *
    generalize ((nb - 1 : Nat) : Int) = k1 at *
    generalize ((na - 1 : Nat) : Int) = k2 at *
    simp -implicitDefEqProofs [ir_spec_l03Times_L1, dn_cond, hle, e1, w4]
noncomputable def zs8 {p : Int} : List (Fp p) := List.replicate 8 0
/-- What the reference's product answers. -/
noncomputable def timesD {p : Int} [IsP p] (m : Fp p) (S R : List (Fp p)) : D :=
  if (trimS S).length = 0 ∨ (trimS R).length = 0 then .tup [skwD (skP (zs8 (p := p))), (D.bool true)]
  else if 9 < (trimS S).length + (trimS R).length then .tup [skwD (skP (zs8 (p := p))), (D.bool false)]
  else .tup [skwD (skP (byOut m (trimS R) 0 (trimS S) zs8)), (D.bool true)]
theorem trimS_8 {p : Int} {S : List (Fp p)} (h : S.length = 8) : trimS S = S.take (stl S 8) := by unfold trimS; rw [h]
theorem trimS_len8 {p : Int} {S : List (Fp p)} (h : S.length = 8) : (trimS S).length = stl S 8 := by
  rw [trimS_8 h, List.length_take]; have := stl_le S 8; omega
def K_sTimes3 (O : Oracle) : Prop := ∀ (p : Int) [IsP p] (m : Fp p) (S R : List (Fp p)), 2 ≤ m.len → m.len ≤ 64 → S.length = 8 → R.length = 8 → (∀ c ∈ S, c.len < m.len) → (∀ c ∈ R, c.len < m.len) → ask O F_spec_l03Times [(D.int .i64 p), (D.arr 64 .leaf (ints .u8 (pad (row m)))), skwD (skP S), skwD (skP R)] = some (timesD m S R)
theorem z8_zs {p : Int} : (skP (zs8 (p := p))).map arr8 = z8 := by
  unfold skP zs8
  rw [List.map_replicate, List.map_replicate, row_zero]
  rfl
theorem k_sTimes3 (hT : T F_spec_l03Times = some ir_spec_l03Times) (hdg : K_sSkDeg (den T A)) (hfr : K_sFrob (den T A)) (hmm : K_sMulMod (den T A)) (had : K_sAdd (den T A)) : K_sTimes3 (den T A) := by
  intro p ip m S R h2 hml hS8 hR8 hS hR
  have e1 := hdg p S hS8 (fun a ha => by have := hS a ha; omega)
  have e2 := hdg p R hR8 (fun a ha => by have := hR a ha; omega)
  unfold timesD
  rw [trimS_len8 hS8, trimS_len8 hR8, trimS_8 hS8, trimS_8 hR8]
  have l1 := stl_le S 8
  have l2 := stl_le R 8
  generalize stl S 8 = na at *
  generalize stl R 8 = nb at *
  have hskS : skwD (skP S) = .arr 8 (.arr 64 .leaf) ((skP S).map arr8) := rfl
  have hskR : skwD (skP R) = .arr 8 (.arr 64 .leaf) ((skP R).map arr8) := rfl
  have hskZ : skwD (skP (zs8 (p := p))) = .arr 8 (.arr 64 .leaf) z8 := by rw [← z8_zs (p := p)]
  have w1 : IntKind.i64.wrap ((na : Int) - 1 + (nb - 1)) = (na : Int) - 1 + (nb - 1) := w64 (by omega)
  rw [hskS] at e1 ⊢
  rw [hskR] at e2 ⊢
  by_cases h0 : na = 0 ∨ nb = 0
  · rw [if_pos h0, hskZ]
    refine ask_of hT rfl ?_
    rcases h0 with rfl | rfl
    · generalize (skP S).map arr8 = LS at *
      generalize (skP R).map arr8 = LR at *
      generalize pad (row m) = Pm at *
      simp -implicitDefEqProofs [ir_spec_l03Times, ir_spec_l03Times_B, dn_cond, e1, e2, List.replicate]
    · generalize (skP S).map arr8 = LS at *
      generalize (skP R).map arr8 = LR at *
      generalize pad (row m) = Pm at *
      by_cases hn : na = 0
      · subst hn
        simp -implicitDefEqProofs [ir_spec_l03Times, ir_spec_l03Times_B, dn_cond, e1, e2, List.replicate]
      · have hlt : ¬ ((na : Int) - 1 < 0) := by omega
        have hlt2 : na ≠ 0 := hn
        have hlt3 : (1 : Int) ≤ na := by omega
        have hlt4 : ¬ ((na : Int) < 1) := by omega
        simp -implicitDefEqProofs [ir_spec_l03Times, ir_spec_l03Times_B, dn_cond, e1, e2, hlt, List.replicate]
  · rw [if_neg h0]
    have a1 : ((na : Int) - 1) = ((na - 1 : Nat) : Int) := by omega
    have a2 : ((nb : Int) - 1) = ((nb - 1 : Nat) : Int) := by omega
    rw [a1, a2] at w1
    rw [a1] at e1
    rw [a2] at e2
    have hn1 : ¬ ((na - 1 : Nat) : Int) < 0 := by omega
    have hn2 : ¬ ((nb - 1 : Nat) : Int) < 0 := by omega
    by_cases h9 : 9 < na + nb
    · rw [if_pos h9, hskZ]
      have hgt : (7 : Int) < ((na - 1 : Nat) : Int) + ((nb - 1 : Nat) : Int) := by omega
      refine ask_of hT rfl ?_
      generalize (skP S).map arr8 = LS at *
      generalize (skP R).map arr8 = LR at *
      generalize pad (row m) = Pm at *
      generalize na - 1 = k1 at *
      generalize nb - 1 = k2 at *
      simp -implicitDefEqProofs [ir_spec_l03Times, ir_spec_l03Times_B, dn_cond, e1, e2, w1, hgt, hn1, hn2, List.replicate]
    · rw [if_neg h9]
      have hgt : ¬ (7 : Int) < ((na - 1 : Nat) : Int) + ((nb - 1 : Nat) : Int) := by omega
      obtain ⟨_, e3⟩ := l_sBy1 (O := den T A) hfr hmm had (z := z8) h2 hml hS8 hR8 hS hR (na := na) (nb := nb) (by omega) (by omega) (by omega) na 0 zs8 (Nat.zero_add _) rfl (fun c hc => by rw [List.eq_of_mem_replicate hc, Pol.len_zero]; omega)
      have e00 : ((0 : Nat) : Int) = 0 := rfl
      rw [e00, List.drop_zero, z8_zs] at e3
      have hskQ : skwD (skP (byOut m (R.take nb) 0 (S.take na) zs8)) = .arr 8 (.arr 64 .leaf) ((skP (byOut m (R.take nb) 0 (S.take na) zs8)).map arr8) := rfl
      rw [hskQ]
      refine ask_of hT rfl ?_
      generalize (skP (byOut m (R.take nb) 0 (S.take na) zs8)).map arr8 = LQ at *
      generalize (skP S).map arr8 = LS at *
      generalize (skP R).map arr8 = LR at *
      generalize pad (row m) = Pm at *
      generalize na - 1 = k1 at *
      generalize nb - 1 = k2 at *
      simp -implicitDefEqProofs [ir_spec_l03Times, ir_spec_l03Times_B, dn_cond, e1, e2, e3, w1, hgt, hn1, hn2, List.replicate]
section
variable {p : Int}
theorem addAt_get_ne {Q : List (Fp p)} {n j : Nat} {v : Fp p} (h : n ≠ j) : (addAt Q n v)[j]? = Q[j]? := by
  unfold addAt; rw [List.getElem?_set_ne h]
theorem addAt_app {Q Z : List (Fp p)} {n : Nat} {v : Fp p} (h : n < Q.length) : addAt (Q ++ Z) n v = addAt Q n v ++ Z := by
  unfold addAt
  rw [List.getElem?_append_left h, List.set_append_left _ _ h]
theorem pd8_nil : pd8 ([] : List (Fp p)) = zs8 := rfl
end
section
variable {p : Int} [IsP p]
theorem byIn_get_ge {m x : Fp p} {i n : Nat} : ∀ (k : Nat) (b Q : List (Fp p)), i + k + b.length ≤ n → (byIn m x i k b Q)[n]? = Q[n]?
  | _, [], _, _ => rfl
  | k, y :: ys, Q, h => by
    rw [List.length_cons] at h
    show (byIn m x i (k + 1) ys (addAt Q (i + k) _))[n]? = _
    rw [byIn_get_ge (k + 1) ys _ (by omega), addAt_get_ne (by omega)]
theorem byOut_get_ge {m : Fp p} {b : List (Fp p)} {n : Nat} : ∀ (i : Nat) (a Q : List (Fp p)), i + a.length + b.length ≤ n + 1 → (byOut m b i a Q)[n]? = Q[n]?
  | _, [], _, _ => rfl
  | i, x :: xs, Q, h => by
    rw [List.length_cons] at h
    show (byOut m b (i + 1) xs (byIn m x i 0 b Q))[n]? = _
    rw [byOut_get_ge (i + 1) xs _ (by omega), byIn_get_ge 0 b Q (by omega)]
theorem byIn_snoc {m x y : Fp p} {i : Nat} : ∀ (k : Nat) (b Q : List (Fp p)), byIn m x i k (b ++ [y]) Q = addAt (byIn m x i k b Q) (i + (k + b.length)) (x * frIt m (i % (m.len - 1)) y % m)
  | _, [], _ => rfl
  | k, z :: zs, Q => by
    show byIn m x i (k + 1) (zs ++ [y]) (addAt Q (i + k) _) = addAt (byIn m x i (k + 1) zs (addAt Q (i + k) _)) _ _
    rw [byIn_snoc (k + 1) zs, List.length_cons, show i + (k + 1 + zs.length) = i + (k + (zs.length + 1)) by omega]
theorem byOut_snoc {m x : Fp p} {b : List (Fp p)} : ∀ (i : Nat) (a Q : List (Fp p)), byOut m b i (a ++ [x]) Q = byIn m x (i + a.length) 0 b (byOut m b i a Q)
  | _, [], _ => rfl
  | i, z :: zs, Q => by
    show byOut m b (i + 1) (zs ++ [x]) (byIn m z i 0 b Q) = byIn m x _ 0 b (byOut m b (i + 1) zs (byIn m z i 0 b Q))
    rw [byOut_snoc (i + 1) zs, List.length_cons, show i + 1 + zs.length = i + (zs.length + 1) by omega]
theorem byIn_app {m x : Fp p} {i : Nat} {Z : List (Fp p)} : ∀ (k : Nat) (b Q : List (Fp p)), i + k + b.length ≤ Q.length → byIn m x i k b (Q ++ Z) = byIn m x i k b Q ++ Z
  | _, [], _, _ => rfl
  | k, y :: ys, Q, h => by
    rw [List.length_cons] at h
    show byIn m x i (k + 1) ys (addAt (Q ++ Z) (i + k) _) = byIn m x i (k + 1) ys (addAt Q (i + k) _) ++ Z
    rw [addAt_app (by omega), byIn_app (k + 1) ys _ (by rw [addAt_length]; omega)]
theorem byOut_app {m : Fp p} {b Z : List (Fp p)} : ∀ (i : Nat) (a Q : List (Fp p)), i + a.length + b.length ≤ Q.length + 1 → byOut m b i a (Q ++ Z) = byOut m b i a Q ++ Z
  | _, [], _, _ => rfl
  | i, x :: xs, Q, h => by
    rw [List.length_cons] at h
    show byOut m b (i + 1) xs (byIn m x i 0 b (Q ++ Z)) = byOut m b (i + 1) xs (byIn m x i 0 b Q) ++ Z
    rw [byIn_app 0 b Q (by omega), byOut_app (i + 1) xs _ (by rw [byIn_length]; omega)]
theorem mul_mod_ne {m x y : Fp p} (hi : Irr m) (hx : x ≠ 0) (hxl : x.len < m.len) (hy : y ≠ 0) (hyl : y.len < m.len) : x * y % m ≠ 0 := fun h => by
  rcases hi.prime ((dv_iff_mod hi.ne).2 h) with h | h
  · have := Dv.len h hx; omega
  · have := Dv.len h hy; omega
theorem frIt_ne {m : Fp p} (hm : Fld m) : ∀ (k : Nat) (y : Fp p), y ≠ 0 → y.len < m.len → frIt m k y ≠ 0
  | 0, _, h, _ => h
  | k + 1, y, h, hl => by
    obtain ⟨h1, h2⟩ := pw_res hm h hl p.toNat
    exact frIt_ne hm k _ h1 h2
end
section
variable {p : Int}
theorem stl_last {S : List (Fp p)} : ∀ (n k : Nat), stl S n = k + 1 → S[k]? ≠ some 0
  | 0, k, h => by cases h
  | n + 1, k, h => by
    unfold stl at h
    split at h
    · exact stl_last n k h
    · rename_i h0
      obtain rfl : n = k := by omega
      exact h0
theorem stl_top {S : List (Fp p)} {n : Nat} (h : S[n]? ≠ some 0) : stl S (n + 1) = n + 1 := by
  unfold stl; rw [if_neg h]
theorem trimS_form {S : List (Fp p)} (h : (trimS S).length ≠ 0) : ∃ a x, trimS S = a ++ [x] ∧ x ≠ 0 := by
  have hle := stl_le S S.length
  have hl : (trimS S).length = stl S S.length := by unfold trimS; rw [List.length_take]; omega
  obtain ⟨k, hk⟩ : ∃ k, stl S S.length = k + 1 := ⟨stl S S.length - 1, by omega⟩
  have h1 := stl_last _ _ hk
  have hlt : k < S.length := by omega
  rw [List.getElem?_eq_getElem hlt] at h1
  refine ⟨S.take k, S[k], ?_, fun h => h1 (by rw [h])⟩
  unfold trimS
  rw [hk, List.take_succ_eq_append_getElem hlt]
theorem trimS_top {S : List (Fp p)} {n : Nat} (hl : S.length = n + 1) (h : S[n]? ≠ some 0) : trimS S = S := by
  unfold trimS
  rw [hl, stl_top h, ← hl, List.take_length]
end
section
variable {p : Int} [IsP p]
theorem mulS_top {m x y : Fp p} (hm : Fld m) {a b : List (Fp p)} (hx : x ≠ 0) (hxl : x.len < m.len) (hy : y ≠ 0) (hyl : y.len < m.len) : trimS (mulS m (a ++ [x]) (b ++ [y])) = mulS m (a ++ [x]) (b ++ [y]) := by
  have hl : (mulS m (a ++ [x]) (b ++ [y])).length = a.length + b.length + 1 := by
    unfold mulS
    rw [byOut_length, List.length_replicate, List.length_append, List.length_append]
    simp only [List.length_cons, List.length_nil]; omega
  refine trimS_top hl ?_
  have hfy : frIt m (a.length % (m.len - 1)) y ≠ 0 := frIt_ne hm _ y hy hyl
  have hfl := frIt_len hm.mon.2 (a.length % (m.len - 1)) y hyl
  have hne := mul_mod_ne hm.irr hx hxl hfy hfl
  unfold mulS
  rw [byOut_snoc, byIn_snoc]
  unfold addAt
  rw [byIn_get_ge _ _ _ (by omega), byOut_get_ge _ _ _ (by rw [List.length_append, List.length_cons, List.length_nil]; omega)]
  have hN : 0 + a.length + (0 + b.length) = a.length + b.length := by omega
  rw [hN, List.getElem?_set_self (by rw [byIn_length, byOut_length, List.length_replicate, List.length_append, List.length_append]; simp only [List.length_cons, List.length_nil]; omega)]
  rw [List.getElem?_replicate, if_pos (by rw [List.length_append, List.length_append]; simp only [List.length_cons, List.length_nil]; omega)]
  show some ((0 : Fp p) + _) ≠ some 0
  rw [Gq.zero_add, show 0 + a.length = a.length by omega]
  exact fun h => hne (Option.some.inj h)
/-- The product, trimmed. -/
noncomputable def prodS (m : Fp p) (a b : List (Fp p)) : List (Fp p) := if a.length = 0 ∨ b.length = 0 then [] else trimS (mulS m a b)
theorem pd8_mulS {m : Fp p} {a b : List (Fp p)} (ha : 1 ≤ a.length) (hb : 1 ≤ b.length) (h : a.length + b.length ≤ 9) : pd8 (mulS m a b) = byOut m b 0 a zs8 := by
  unfold pd8 mulS zs8
  rw [byOut_length, List.length_replicate, ← byOut_app _ _ _ (by rw [List.length_replicate]; omega), List.replicate_append_replicate, show a.length + b.length - 1 + (8 - (a.length + b.length - 1)) = 8 by omega]
/-- The reference's answer and the program's. -/
theorem times_told {m : Fp p} (hm : Fld m) {S R : List (Fp p)} (hS : ∀ c ∈ S, c.len < m.len) (hR : ∀ c ∈ R, c.len < m.len) :
    (∃ Q : List (Fp p), timesD m S R = .tup [skwD (skP Q), (D.bool true)] ∧ toldSkD (prodS m (trimS S) (trimS R)) = .tup [skwD (skP Q), (D.int .i64 0)]) ∨
    ((∃ Q, timesD m S R = .tup [skwD Q, (D.bool false)]) ∧ toldSkD (prodS m (trimS S) (trimS R)) = .tup [skwD (skP (zs8 (p := p))), (D.int .i64 3)]) := by
  unfold timesD prodS
  by_cases h0 : (trimS S).length = 0 ∨ (trimS R).length = 0
  · rw [if_pos h0, if_pos h0]
    exact .inl ⟨zs8, rfl, by unfold toldSkD; rw [if_pos (by simp), pd8_nil]⟩
  · rw [if_neg h0, if_neg h0]
    obtain ⟨a, x, ea, hx⟩ := trimS_form (S := S) (by omega)
    obtain ⟨b, y, eb, hy⟩ := trimS_form (S := R) (by omega)
    have hxl : x.len < m.len := hS x (List.mem_of_mem_take (by rw [show S.take _ = trimS S from rfl, ea]; simp))
    have hyl : y.len < m.len := hR y (List.mem_of_mem_take (by rw [show R.take _ = trimS R from rfl, eb]; simp))
    have ht := mulS_top hm (a := a) (b := b) hx hxl hy hyl
    rw [← ea, ← eb] at ht
    rw [ht]
    have hl : (mulS m (trimS S) (trimS R)).length = (trimS S).length + (trimS R).length - 1 := by unfold mulS; rw [byOut_length, List.length_replicate]
    by_cases h9 : 9 < (trimS S).length + (trimS R).length
    · rw [if_pos h9]
      refine .inr ⟨⟨_, rfl⟩, ?_⟩
      unfold toldSkD
      rw [if_neg (by omega), pd8_nil]
    · rw [if_neg h9]
      refine .inl ⟨_, rfl, ?_⟩
      unfold toldSkD
      rw [if_pos (by omega), pd8_mulS (by omega) (by omega) (by omega)]
end
end Pe

namespace Pe
open Go Gq
variable {T : Nat → Option Fn} {A : Oracle}
section
variable {p : Int} [IsP p]
theorem addAt_lens {N n : Nat} {Q : List (Fp p)} {v : Fp p} (hQ : ∀ c ∈ Q, c.len ≤ N) (hv : v.len ≤ N) : ∀ c ∈ addAt Q n v, c.len ≤ N := fun c hc => by
  unfold addAt at hc
  rcases List.mem_or_eq_of_mem_set hc with h | rfl
  · exact hQ c h
  · refine Pol.len_add_le ?_ hv
    cases he : Q[n]? with
    | none => show (0 : Fp p).len ≤ N; rw [Pol.len_zero]; omega
    | some w => exact hQ w (List.mem_of_getElem? he)
theorem byIn_lens {m x : Fp p} {i N : Nat} (hm : m ≠ 0) (hN : m.len ≤ N) : ∀ (k : Nat) (b Q : List (Fp p)), (∀ c ∈ Q, c.len ≤ N) → ∀ c ∈ byIn m x i k b Q, c.len ≤ N
  | _, [], _, h => h
  | k, y :: ys, Q, h => byIn_lens hm hN (k + 1) ys _ (addAt_lens h (by have := Pol.len_mod (x * frIt m (i % (m.len - 1)) y) hm; omega))
theorem byOut_lens {m : Fp p} {b : List (Fp p)} {N : Nat} (hm : m ≠ 0) (hN : m.len ≤ N) : ∀ (i : Nat) (a Q : List (Fp p)), (∀ c ∈ Q, c.len ≤ N) → ∀ c ∈ byOut m b i a Q, c.len ≤ N
  | _, [], _, h => h
  | i, x :: xs, Q, h => byOut_lens hm hN (i + 1) xs _ (byIn_lens hm hN 0 b Q h)
theorem prodS_lens {m : Fp p} {a b : List (Fp p)} {N : Nat} (hm : m ≠ 0) (hN : m.len ≤ N) : ∀ c ∈ prodS m a b, c.len ≤ N := fun c hc => by
  unfold prodS at hc
  split at hc
  · cases hc
  · have h1 : c ∈ mulS m a b := List.mem_of_mem_take hc
    exact byOut_lens hm hN 0 a _ (fun c hc => by rw [List.eq_of_mem_replicate hc, Pol.len_zero]; omega) c h1
theorem prodS_length {m : Fp p} {a b : List (Fp p)} : (prodS m a b).length ≤ a.length + b.length := by
  unfold prodS
  split
  · exact Nat.zero_le _
  · unfold trimS mulS
    rw [List.length_take, byOut_length, List.length_replicate]; omega
end
/-- What is asked of two skew polynomials. -/
def MsOk (p : Int) (l : List Int) (ls ks : List (List Int)) : Prop := ∃ (_ : IsP p) (m : Fp p), l = pad (row m) ∧ Fld m ∧ IsSk m ls ∧ IsSk m ks
open Classical in
noncomputable def msD (p : Int) (l : List Int) (ls ks : List (List Int)) : D :=
  if h : MsOk p l ls ks then
    haveI : IsP p := h.choose
    toldSkD (prodS (polOf p l) (trimS (ls.map (polOf p))) (trimS (ks.map (polOf p))))
  else .tup [skwD (List.replicate 8 (pad [])), (D.int .i64 1)]
theorem msD_good {p : Int} [IsP p] {m : Fp p} {S R : List (Fp p)} (h : MsOk p (pad (row m)) (skP S) (skP R)) (hm : m.len ≤ 64) (hS : ∀ a ∈ S, a.len ≤ 64) (hR : ∀ a ∈ R, a.len ≤ 64) : msD p (pad (row m)) (skP S) (skP R) = toldSkD (prodS m (trimS S) (trimS R)) := by
  unfold msD
  rw [dif_pos h, polOf_pad hm, map_polOf hS, map_polOf hR]
theorem msD_bad {p : Int} {l : List Int} {ls ks : List (List Int)} (h : ¬ MsOk p l ls ks) : msD p l ls ks = .tup [skwD (List.replicate 8 (pad [])), (D.int .i64 1)] := by
  unfold msD; rw [dif_neg h]
theorem z8_pad : skwD (List.replicate 8 (pad [])) = .arr 8 (.arr 64 .leaf) z8 := rfl
theorem codes_ms {p : Int} {l : List Int} {ls ks : List (List Int)} : codeSk p l [ls, ks] = 0 ↔ MsOk p l ls ks := by
  unfold codeSk
  constructor
  · intro h1
    split at h1
    · rename_i g1
      obtain ⟨ip, m, e1, f1, s1⟩ := g1
      exact ⟨ip, m, e1, f1, s1 _ (by simp), s1 _ (by simp)⟩
    · cases h1
  · rintro ⟨ip, m, e, f, s, r⟩
    refine if_pos ⟨ip, m, e, f, fun x hx => ?_⟩
    simp at hx
    rcases hx with rfl | rfl
    · exact s
    · exact r
def K_MultiplySkews (O : Oracle) (F : Nat) : Prop := ∀ (p : Int) (l : List Int) (ls ks : List (List Int)), Bytes l → l.length = 64 → Sk8 ls → Sk8 ks → ask O F [(D.int .i64 p), (D.arr 64 .leaf (ints .u8 l)), skwD ls, skwD ks] = some (msD p l ls ks)
theorem k_MultiplySkews (hT : T F_impl_MultiplySkews = some ir_impl_MultiplySkews) (hsc : C_skewsCode (den T A) F_impl_skewsCode) (hfo : K_fieldOf (den T A)) (hsk : K_skewOf (den T A)) (hby : K_by (den T A)) (hto : K_toldSk (den T A)) : K_MultiplySkews (den T A) F_impl_MultiplySkews := by
  intro p l ls ks bl gl h8 k8
  have e1 := hsc p l [ls, ks] bl gl (by intro x hx; simp at hx; rcases hx with rfl | rfl <;> assumption) (by simp)
  rw [show List.map skwD [ls, ks] = [skwD ls, skwD ks] from rfl] at e1
  have hskd : skwD ls = .arr 8 (.arr 64 .leaf) (ls.map arr8) := rfl
  have hskk : skwD ks = .arr 8 (.arr 64 .leaf) (ks.map arr8) := rfl
  rw [hskd, hskk] at e1 ⊢
  by_cases h : MsOk p l ls ks
  · rw [codes_ms.2 h] at e1
    have h' := h
    obtain ⟨ip, m, rfl, hm, hs, hr⟩ := h
    obtain ⟨S, rfl, hS⟩ := sk_of hs
    obtain ⟨R, rfl, hR⟩ := sk_of hr
    have h5 := hm.five
    have h2 := hm.two
    have hS8 : S.length = 8 := by have := h8.2; rwa [List.length_map] at this
    have hR8 : R.length = 8 := by have := k8.2; rwa [List.length_map] at this
    have hS64 : ∀ a ∈ S, a.len ≤ 64 := fun a ha => by have := hS a ha; omega
    have hR64 : ∀ a ∈ R, a.len ≤ 64 := fun a ha => by have := hR a ha; omega
    rw [msD_good h' (by omega) hS64 hR64]
    have hsl : (trimS S).length ≤ 8 := by rw [trimS_len8 hS8]; exact stl_le S 8
    have hrl : (trimS R).length ≤ 8 := by rw [trimS_len8 hR8]; exact stl_le R 8
    have e3 := hfo p m (by omega)
    have e4 := hsk p S hS8 hS64
    have e5 := hsk p R hR8 hR64
    have e6 := hby p m (trimS S) (trimS R) h2 (by omega) (fun c hc => hS64 c (List.mem_of_mem_take hc)) (fun c hc => hR64 c (List.mem_of_mem_take hc)) (by omega) (by omega)
    have hp : (if (trimS S).length = 0 ∨ (trimS R).length = 0 then skD ([] : List (Fp p)) else skD (trimS (mulS m (trimS S) (trimS R)))) = skD (prodS m (trimS S) (trimS R)) := by
      unfold prodS; split <;> rfl
    rw [hp] at e6
    have hpl := prodS_length (m := m) (a := trimS S) (b := trimS R)
    have e7 := hto p (prodS m (trimS S) (trimS R)) (by omega) (prodS_lens hm.mon.2 (by omega))
    have hts : skD (trimS S) = .sl .leaf ((trimS S).map fun c => (D.sl .leaf (ints .i64 (row c)))) := rfl
    have htr : skD (trimS R) = .sl .leaf ((trimS R).map fun c => (D.sl .leaf (ints .i64 (row c)))) := rfl
    have htp : skD (prodS m (trimS S) (trimS R)) = .sl .leaf ((prodS m (trimS S) (trimS R)).map fun c => (D.sl .leaf (ints .i64 (row c)))) := rfl
    rw [htp] at e6 e7
    rw [hts] at e4 e6
    rw [htr] at e5 e6
    obtain ⟨Q, k, eq⟩ : ∃ (Q : List (Fp p)) (k : Int), toldSkD (prodS m (trimS S) (trimS R)) = .tup [skwD (skP Q), (D.int .i64 k)] := by
      unfold toldSkD; split
      · exact ⟨_, _, rfl⟩
      · exact ⟨_, _, rfl⟩
    rw [eq] at e7 ⊢
    have hskq : skwD (skP Q) = .arr 8 (.arr 64 .leaf) ((skP Q).map arr8) := rfl
    have hflq := flats_arr8 (skP Q)
    rw [hskq] at e7 ⊢
    rw [show skwD (skP S) = .arr 8 (.arr 64 .leaf) ((skP S).map arr8) from rfl] at e4
    rw [show skwD (skP R) = .arr 8 (.arr 64 .leaf) ((skP R).map arr8) from rfl] at e5
    refine ask_of hT rfl ?_
    generalize ((trimS S).map fun c => (D.sl .leaf (ints .i64 (row c)))) = TS at *
    generalize ((trimS R).map fun c => (D.sl .leaf (ints .i64 (row c)))) = TR at *
    generalize ((prodS m (trimS S) (trimS R)).map fun c => (D.sl .leaf (ints .i64 (row c)))) = TP at *
    generalize (skP S).map arr8 = LS at *
    generalize (skP R).map arr8 = LR at *
    generalize (skP Q).map arr8 = LQ at *
    generalize pad (row m) = Pm at *
    simp -implicitDefEqProofs [ir_impl_MultiplySkews, ir_impl_MultiplySkews_B, dn_cond, e1, e3, e4, e5, e6, e7, hflq, List.replicate]
  · rw [msD_bad h, z8_pad]
    have c1 : codeSk p l [ls, ks] = 1 := by
      rcases codeSk_01 p l [ls, ks] with c | c
      · exact absurd (codes_ms.1 c) h
      · exact c
    rw [c1] at e1
    refine ask_of hT rfl ?_
    generalize ls.map arr8 = LD at *
    generalize ks.map arr8 = LK at *
    simp -implicitDefEqProofs [ir_impl_MultiplySkews, ir_impl_MultiplySkews_B, dn_cond, e1, List.replicate]
theorem k_sMultiplySkews (hT : T F_spec_MultiplySkews = some ir_spec_MultiplySkews) (hsc : C_skewsCode (den T A) F_spec_l03Code) (hti : K_sTimes3 (den T A)) : K_MultiplySkews (den T A) F_spec_MultiplySkews := by
  intro p l ls ks bl gl h8 k8
  have e1 := hsc p l [ls, ks] bl gl (by intro x hx; simp at hx; rcases hx with rfl | rfl <;> assumption) (by simp)
  rw [show List.map skwD [ls, ks] = [skwD ls, skwD ks] from rfl] at e1
  have hskd : skwD ls = .arr 8 (.arr 64 .leaf) (ls.map arr8) := rfl
  have hskk : skwD ks = .arr 8 (.arr 64 .leaf) (ks.map arr8) := rfl
  rw [hskd, hskk] at e1 ⊢
  by_cases h : MsOk p l ls ks
  · rw [codes_ms.2 h] at e1
    have h' := h
    obtain ⟨ip, m, rfl, hm, hs, hr⟩ := h
    obtain ⟨S, rfl, hS⟩ := sk_of hs
    obtain ⟨R, rfl, hR⟩ := sk_of hr
    have h5 := hm.five
    have h2 := hm.two
    have hS8 : S.length = 8 := by have := h8.2; rwa [List.length_map] at this
    have hR8 : R.length = 8 := by have := k8.2; rwa [List.length_map] at this
    have hS64 : ∀ a ∈ S, a.len ≤ 64 := fun a ha => by have := hS a ha; omega
    have hR64 : ∀ a ∈ R, a.len ≤ 64 := fun a ha => by have := hR a ha; omega
    rw [msD_good h' (by omega) hS64 hR64]
    have e3 := hti p m S R h2 (by omega) hS8 hR8 hS hR
    rw [show skwD (skP S) = .arr 8 (.arr 64 .leaf) ((skP S).map arr8) from rfl, show skwD (skP R) = .arr 8 (.arr 64 .leaf) ((skP R).map arr8) from rfl] at e3
    rcases times_told hm hS hR with ⟨Q, q1, q2⟩ | ⟨⟨Q, q1⟩, q2⟩
    · rw [q1] at e3
      rw [q2]
      have hskq : skwD (skP Q) = .arr 8 (.arr 64 .leaf) ((skP Q).map arr8) := rfl
      have hflq := flats_arr8 (skP Q)
      rw [hskq] at e3 ⊢
      refine ask_of hT rfl ?_
      generalize (skP S).map arr8 = LS at *
      generalize (skP R).map arr8 = LR at *
      generalize (skP Q).map arr8 = LQ at *
      generalize pad (row m) = Pm at *
      simp -implicitDefEqProofs [ir_spec_MultiplySkews, ir_spec_MultiplySkews_B, dn_cond, e1, e3, hflq, List.replicate]
    · rw [q1] at e3
      rw [q2]
      have hskq : skwD Q = .arr 8 (.arr 64 .leaf) (Q.map arr8) := rfl
      have hskz : skwD (skP (zs8 (p := p))) = .arr 8 (.arr 64 .leaf) z8 := by rw [← z8_zs (p := p)]
      have hflq := flats_arr8 Q
      rw [hskq] at e3
      rw [hskz]
      refine ask_of hT rfl ?_
      generalize (skP S).map arr8 = LS at *
      generalize (skP R).map arr8 = LR at *
      generalize Q.map arr8 = LQ at *
      generalize pad (row m) = Pm at *
      simp -implicitDefEqProofs [ir_spec_MultiplySkews, ir_spec_MultiplySkews_B, dn_cond, e1, e3, hflq, List.replicate]
  · rw [msD_bad h, z8_pad]
    have c1 : codeSk p l [ls, ks] = 1 := by
      rcases codeSk_01 p l [ls, ks] with c | c
      · exact absurd (codes_ms.1 c) h
      · exact c
    rw [c1] at e1
    refine ask_of hT rfl ?_
    generalize ls.map arr8 = LD at *
    generalize ks.map arr8 = LK at *
    simp -implicitDefEqProofs [ir_spec_MultiplySkews, ir_spec_MultiplySkews_B, dn_cond, e1, List.replicate]
/-- Eight lists of 64 places. -/
def Sh8 (ls : List (List Int)) : Prop := ls.length = 8 ∧ ∀ l ∈ ls, l.length = 64
theorem sh8_skP {p : Int} {S : List (Fp p)} (h : S.length = 8) : Sh8 (skP S) := ⟨by unfold skP; rw [List.length_map]; exact h, fun l hl => by
  obtain ⟨a, _, rfl⟩ := List.mem_map.1 hl
  exact pad_length _⟩
theorem l_eqSk {O : Oracle} (he : C_eqPoly O) {ls : List (List Int)} (h : Sh8 ls) : ∀ (k i : Nat), i + k = 8 →
    dn O 0 (.loop ir_laws_eqSkew_L0) ⟨[(2, .ptr 0 []), (3, .ptr 1 []), (5, (.d (.int .i64 i)))], [.box false (.arr 8 (.arr 64 .leaf) (ls.map arr8)), .box false (.arr 8 (.arr 64 .leaf) (ls.map arr8))]⟩ =
      some (.exit 0, ⟨[(2, .ptr 0 []), (3, .ptr 1 []), (5, (.d (.int .i64 8))), (7, (.d (.bool false)))], [.box false (.arr 8 (.arr 64 .leaf) (ls.map arr8)), .box false (.arr 8 (.arr 64 .leaf) (ls.map arr8))]⟩)
  | 0, i, hi => by
    obtain rfl : i = 8 := by omega
    refine dn_stop ?_
    generalize ls.map arr8 = LD at *
    simp -implicitDefEqProofs [ir_laws_eqSkew_L0, dn_cond]
  | k + 1, i, hi => by
    have hi8 : i < 8 := by omega
    have hi8' : (i : Int) < 8 := by omega
    have hlt : i < ls.length := by rw [h.1]; exact hi8
    have e1 := he ls[i] (h.2 _ (List.getElem_mem hlt))
    have hL : (ls.map arr8).length = 8 := by rw [List.length_map]; exact h.1
    have hx2 : ∀ h : i < (ls.map arr8).length, (ls.map arr8)[i]'h = (D.arr 64 .leaf (ints .u8 (ls[i]))) := fun h => by rw [List.getElem_map]
    have w4 : IntKind.i64.wrap ((i : Int) + 1) = ((i + 1 : Nat) : Int) := (w64 (x := (i : Int) + 1) (by omega)).trans (by omega)
    refine dn_round ?_ (l_eqSk he h k (i + 1) (by omega))
    generalize ls[i] = li at *
    generalize ls.map arr8 = LD at *
    simp -implicitDefEqProofs [ir_laws_eqSkew_L0, dn_cond, hi8, hi8', hL, hx2, e1, w4]
def C_eqSk (O : Oracle) : Prop := ∀ ls : List (List Int), Sh8 ls → ask O F_laws_eqSkew [skwD ls, skwD ls] = some (D.bool true)
theorem c_eqSk (hT : T F_laws_eqSkew = some ir_laws_eqSkew) (he : C_eqPoly (den T A)) : C_eqSk (den T A) := by
  intro ls h
  have e := l_eqSk (O := den T A) he h 8 0 rfl
  have e00 : ((0 : Nat) : Int) = 0 := rfl
  rw [e00] at e
  have hskd : skwD ls = .arr 8 (.arr 64 .leaf) (ls.map arr8) := rfl
  rw [hskd]
  refine ask_of hT rfl ?_
  generalize ls.map arr8 = LD at *
  simp -implicitDefEqProofs [ir_laws_eqSkew, ir_laws_eqSkew_B, e]
theorem toldSkD_form {p : Int} (S : List (Fp p)) : ∃ (r : List (List Int)) (k : Int), toldSkD S = .tup [skwD r, (D.int .i64 k)] ∧ Sh8 r := by
  unfold toldSkD
  split
  · exact ⟨_, _, rfl, sh8_skP (by unfold pd8; rw [List.length_append, List.length_replicate]; omega)⟩
  · exact ⟨_, _, rfl, sh8_skP (by unfold pd8; rw [List.length_append, List.length_replicate]; rfl)⟩
theorem sh8_zero : Sh8 (List.replicate 8 (pad [])) := ⟨rfl, fun l hl => by rw [List.eq_of_mem_replicate hl]; rfl⟩
theorem msD_form (p : Int) (l : List Int) (ls ks : List (List Int)) : ∃ (r : List (List Int)) (k : Int), msD p l ls ks = .tup [skwD r, (D.int .i64 k)] ∧ Sh8 r := by
  unfold msD
  split
  · exact toldSkD_form _
  · exact ⟨_, _, rfl, sh8_zero⟩
def L_MultiplySkews (O : Oracle) : Prop := ∀ (p : Int) (l : List Int), Bytes l → l.length = 64 → ∀ (ls : List (List Int)), Arrs ls → ls.length = 8 → ∀ (ks : List (List Int)), Arrs ks → ks.length = 8 → ask O F_laws_FnExactMultiplySkews [(D.int .i64 p), (D.arr 64 .leaf (ints .u8 l)), skwD ls, skwD ks] = some (D.bool true)
theorem law_MultiplySkews (hT : T F_laws_FnExactMultiplySkews = some ir_laws_FnExactMultiplySkews) (hp : C_toPoly (den T A)) (hk : C_toSk (den T A)) (he : C_eqSk (den T A)) (hi : K_MultiplySkews (den T A) F_impl_MultiplySkews) (hs : K_MultiplySkews (den T A) F_spec_MultiplySkews) : L_MultiplySkews (den T A) := by
  intro p l bl gl ls ha h8 ks ka k8
  have e1 := hp l bl gl
  have e2 := hk ls ⟨ha, h8⟩
  have e2' := hk ks ⟨ka, k8⟩
  have e3 := hi p l ls ks bl gl ⟨ha, h8⟩ ⟨ka, k8⟩
  have e4 := hs p l ls ks bl gl ⟨ha, h8⟩ ⟨ka, k8⟩
  obtain ⟨r, k, e5, g1⟩ := msD_form p l ls ks
  rw [e5] at e3 e4
  have e6 := he r g1
  have hskd : skwD ls = .arr 8 (.arr 64 .leaf) (ls.map arr8) := rfl
  have hskk : skwD ks = .arr 8 (.arr 64 .leaf) (ks.map arr8) := rfl
  have hskr : skwD r = .arr 8 (.arr 64 .leaf) (r.map arr8) := rfl
  rw [hskr] at e3 e4 e6
  rw [hskd] at e2 e3 e4 ⊢
  rw [hskk] at e2' e3 e4 ⊢
  have hfl := flats_arr8 ls
  have hfl2 := flats_arr8 ks
  have hflr := flats_arr8 r
  refine ask_of hT rfl ?_
  generalize ls.map arr8 = LD at *
  generalize ks.map arr8 = LK at *
  generalize r.map arr8 = LR at *
  simp -implicitDefEqProofs [ir_laws_FnExactMultiplySkews, ir_laws_FnExactMultiplySkews_B, dn_cond, e1, e2, e2', e3, e4, e6, hfl, hfl2, hflr, List.replicate]
end Pe

namespace Pe
open Go
abbrev tyS : Ty := .arr 8 tyP
theorem has_polys : ∀ (xs : List D), (∀ x ∈ xs, tyP.has x) → ∃ ls : List (List Int), xs = ls.map arr8 ∧ Arrs ls
  | [], _ => ⟨[], rfl, fun _ h => by cases h⟩
  | x :: xs, h => by
    obtain ⟨ls, rfl, hb⟩ := has_polys xs fun y hy => h y (List.mem_cons_of_mem _ hy)
    obtain ⟨l, rfl, b, g⟩ := has_P (h x (by simp))
    refine ⟨l :: ls, rfl, fun y hy => ?_⟩
    rcases List.mem_cons.1 hy with rfl | hy
    · exact ⟨g, b⟩
    · exact hb y hy
theorem has_S {d : D} (h : tyS.has d) : ∃ ls : List (List Int), d = skwD ls ∧ Arrs ls ∧ ls.length = 8 := by
  cases d <;> simp only [Ty.has] at h
  obtain ⟨rfl, rfl, h1, h2⟩ := h
  obtain ⟨ls, rfl, hb⟩ := has_polys _ h2
  exact ⟨ls, rfl, hb, by simpa using h1⟩
end Pe
