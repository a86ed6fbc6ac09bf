/-
  A part of the proof: an evaluator for a small form of the code, its soundness, and contracts of functions over it.
-/
import Derived.Test.YtbangpnofnhhnaaGreatW1
import Derived.Test.YtbangpnofnhhnaaGreatW2
import Derived.Test.YtbangpnofnhhnaaGreatW3
import Derived.Test.YtbangpnofnhhnaaGreatW4
import Derived.Test.YtbangpnofnhhnaaGreatW5

namespace Pe
open Go Gq
variable {T : Nat → Option Fn} {A : Oracle}
theorem frIt_1000 {p : Int} [IsP p] {m y : Fp p} (hm : m ≠ 0) (hml : m.len ≤ 64) (hy : y.len ≤ 64) (k : Nat) : (frIt m k y).len ≤ 64 := by
  cases k with
  | zero => exact hy
  | succ k =>
    have := frIt_len hm k (pw y p.toNat % m) (Pol.len_mod _ hm)
    show (frIt m k (pw y p.toNat % m)).len ≤ 64
    omega
theorem l_by0 {O : Oracle} (hfr : K_frob O) (hpr : K_product O) (hco : K_combine2 O) {p : Int} [IsP p] {m x : Fp p} {a b : List (Fp p)} (h2 : 2 ≤ m.len) (hml : m.len ≤ 64) (hx : x.len ≤ 64) (hb : ∀ c ∈ b, c.len ≤ 64) {N i : Nat} (hN : N < 100000) (hi : i + b.length ≤ N) {cp : Option Nat} : ∀ (r k : Nat) (Q : List (Fp p)), k + r = b.length → Q.length = N → (∀ c ∈ Q, c.len ≤ 64) →
    (∀ c ∈ byIn m x i k (b.drop k) Q, c.len ≤ 64) ∧
    dn O 0 (.loop ir_impl_field_by_L0) ⟨[(2, .d (skD b)), (3, .ptr 0 []), (7, .sl 1 [] 0 N cp), (8, (.d (.int .i64 i))), (9, (.d (.sl .leaf (ints .i64 (row x))))), (27, .d (skD a)), (28, (.d (.int .i64 a.length))), (29, (.d (.int .i64 i))), (34, .d (skD b)), (35, (.d (.int .i64 b.length))), (36, (.d (.int .i64 k)))], [.box false (fldD m), .sl false .leaf (Q.map fun c => (D.sl .leaf (ints .i64 (row c))))]⟩ =
      some (.exit 2, ⟨[(2, .d (skD b)), (3, .ptr 0 []), (7, .sl 1 [] 0 N cp), (8, (.d (.int .i64 i))), (9, (.d (.sl .leaf (ints .i64 (row x))))), (27, .d (skD a)), (28, (.d (.int .i64 a.length))), (29, (.d (.int .i64 i))), (34, .d (skD b)), (35, (.d (.int .i64 b.length))), (36, (.d (.int .i64 b.length))), (37, (.d (.bool false)))], [.box false (fldD m), .sl false .leaf ((byIn m x i k (b.drop k) Q).map fun c => (D.sl .leaf (ints .i64 (row c))))]⟩)
  | 0, k, Q, hk, hq, hQ => by
    obtain rfl : k = b.length := by omega
    rw [List.drop_length]
    refine ⟨hQ, dn_stop ?_⟩
    show _ = some (_, (⟨_, [_, .sl false .leaf (Q.map fun c => (D.sl .leaf (ints .i64 (row c))))]⟩ : St))
    generalize (Q.map fun c => (D.sl .leaf (ints .i64 (row c)))) = LQ at *
    simp -implicitDefEqProofs [ir_impl_field_by_L0, dn_cond]
  | r + 1, k, Q, hk, hq, hQ => by
    have hm : m ≠ 0 := fun h => by rw [h, Pol.len_zero] at h2; omega
    have hlt : k < b.length := by omega
    have hm1 := List.getElem_mem hlt
    have hbk := hb _ hm1
    have hik : i + k < N := by omega
    have hikQ : i + k < Q.length := by omega
    have hq1 := hQ _ (List.getElem_mem hikQ)
    have w0 : IntKind.i64.wrap ((i : Int) + k) = ((i + k : Nat) : Int) := (w64 (x := (i : Int) + k) (by omega)).trans (by omega)
    have hs0 : (0 : Int) ≤ (i : Int) + k := by omega
    have hs1 : ((i : Int) + k).toNat = i + k := by omega
    have w4 : IntKind.i64.wrap ((k : Int) + 1) = ((k + 1 : Nat) : Int) := (w64 (x := (k : Int) + 1) (by omega)).trans (by omega)
    have e1 := hfr p m b[k] i h2 hml (by omega) (by omega)
    have hfl := frIt_1000 hm hml hbk (i % (m.len - 1))
    have e2 := hpr p m x (frIt m (i % (m.len - 1)) b[k]) hm hml (by omega) (by omega)
    have hl := Pol.len_mod (x * frIt m (i % (m.len - 1)) b[k]) hm
    have e3 := hco p Q[i + k] (x * frIt m (i % (m.len - 1)) b[k] % m) (by omega) (by omega)
    have hl2 := Pol.len_add_le (a := Q[i + k]) (b := x * frIt m (i % (m.len - 1)) b[k] % m) (n := 64) hq1 (by omega)
    have hadd : addAt Q (i + k) (x * frIt m (i % (m.len - 1)) b[k] % m) = Q.set (i + k) (Q[i + k] + x * frIt m (i % (m.len - 1)) b[k] % m) := by
      unfold addAt; rw [List.getElem?_eq_getElem hikQ]; rfl
    have hQ' : ∀ c ∈ addAt Q (i + k) (x * frIt m (i % (m.len - 1)) b[k] % m), c.len ≤ 64 := fun c hc => by
      rw [hadd] at hc
      rcases List.mem_or_eq_of_mem_set hc with h | rfl
      · exact hQ c h
      · exact hl2
    obtain ⟨g1, ih⟩ := l_by0 hfr hpr hco (a := a) h2 hml hx hb hN hi (cp := cp) r (k + 1) (addAt Q (i + k) (x * frIt m (i % (m.len - 1)) b[k] % m)) (by omega) (by rw [addAt_length]; exact hq) hQ'
    have hby : byIn m x i k (b.drop k) Q = byIn m x i (k + 1) (b.drop (k + 1)) (addAt Q (i + k) (x * frIt m (i % (m.len - 1)) b[k] % m)) := by
      rw [List.drop_eq_getElem_cons hlt]; rfl
    rw [hby]
    refine ⟨g1, dn_round ?_ ih⟩
    have hset : ((addAt Q (i + k) (x * frIt m (i % (m.len - 1)) b[k] % m)).map fun c => (D.sl .leaf (ints .i64 (row c)))) = (Q.map fun c => (D.sl .leaf (ints .i64 (row c)))).set (i + k) (D.sl .leaf (ints .i64 (row (Q[i + k] + x * frIt m (i % (m.len - 1)) b[k] % m)))) := by
      rw [hadd, List.map_set]
    rw [hset]
    have hLQ : (Q.map fun c => (D.sl .leaf (ints .i64 (row c)))).length = N := by rw [List.length_map]; exact hq
    have hx2 : ∀ h : i + k < (Q.map fun c => (D.sl .leaf (ints .i64 (row c)))).length, (Q.map fun c => (D.sl .leaf (ints .i64 (row c))))[i + k]'h = (D.sl .leaf (ints .i64 (row Q[i + k]))) := fun h => by rw [List.getElem_map]
    generalize row (Q[i + k] + x * frIt m (i % (m.len - 1)) b[k] % m) = R1 at *
    generalize row (x * frIt m (i % (m.len - 1)) b[k] % m) = R2 at *
    generalize row (frIt m (i % (m.len - 1)) b[k]) = R3 at *
    generalize row Q[i + k] = R4 at *
    generalize (Q.map fun c => (D.sl .leaf (ints .i64 (row c)))) = LQ at *
    simp -implicitDefEqProofs [ir_impl_field_by_L0, dn_cond, hlt, hik, hs0, hs1, hLQ, hx2, e1, e2, e3, w0, w4]
theorem l_by1 {O : Oracle} (hfr : K_frob O) (hpr : K_product O) (hco : K_combine2 O) {p : Int} [IsP p] {m : Fp p} {a b : List (Fp p)} (h2 : 2 ≤ m.len) (hml : m.len ≤ 64) (ha : ∀ c ∈ a, c.len ≤ 64) (hb : ∀ c ∈ b, c.len ≤ 64) {N : Nat} (hN : N < 100000) (hab : a.length + b.length ≤ N + 1) (hb1 : 1 ≤ b.length) {cp : Option Nat} : ∀ (r i : Nat) (Q : List (Fp p)), i + r = a.length → Q.length = N → (∀ c ∈ Q, c.len ≤ 64) →
    (∀ c ∈ byOut m b i (a.drop i) Q, c.len ≤ 64) ∧
    dn O 0 (.loop ir_impl_field_by_L1) ⟨[(2, .d (skD b)), (3, .ptr 0 []), (7, .sl 1 [] 0 N cp), (27, .d (skD a)), (28, (.d (.int .i64 a.length))), (29, (.d (.int .i64 i)))], [.box false (fldD m), .sl false .leaf (Q.map fun c => (D.sl .leaf (ints .i64 (row c))))]⟩ =
      some (.exit 0, ⟨[(2, .d (skD b)), (3, .ptr 0 []), (7, .sl 1 [] 0 N cp), (27, .d (skD a)), (28, (.d (.int .i64 a.length))), (29, (.d (.int .i64 a.length))), (30, (.d (.bool false)))], [.box false (fldD m), .sl false .leaf ((byOut m b i (a.drop i) Q).map fun c => (D.sl .leaf (ints .i64 (row c))))]⟩)
  | 0, i, Q, hi, hq, hQ => by
    obtain rfl : i = a.length := by omega
    rw [List.drop_length]
    refine ⟨hQ, dn_stop ?_⟩
    show _ = some (_, (⟨_, [_, .sl false .leaf (Q.map fun c => (D.sl .leaf (ints .i64 (row c))))]⟩ : St))
    generalize (Q.map fun c => (D.sl .leaf (ints .i64 (row c)))) = LQ at *
    simp -implicitDefEqProofs [ir_impl_field_by_L1, dn_cond]
  | r + 1, i, Q, hi, hq, hQ => by
    have hlt : i < a.length := by omega
    have hm1 := List.getElem_mem hlt
    have w4 : IntKind.i64.wrap ((i : Int) + 1) = ((i + 1 : Nat) : Int) := (w64 (x := (i : Int) + 1) (by omega)).trans (by omega)
    obtain ⟨g1, e1⟩ := l_by0 hfr hpr hco (a := a) h2 hml (ha _ hm1) hb hN (i := i) (by omega) (cp := cp) b.length 0 Q (Nat.zero_add _) hq hQ
    have e00 : ((0 : Nat) : Int) = 0 := rfl
    rw [e00, List.drop_zero] at e1
    rw [List.drop_zero] at g1
    obtain ⟨g2, ih⟩ := l_by1 hfr hpr hco h2 hml ha hb hN hab hb1 (cp := cp) r (i + 1) (byIn m a[i] i 0 b Q) (by omega) (by rw [byIn_length]; exact hq) g1
    have hby : byOut m b i (a.drop i) Q = byOut m b (i + 1) (a.drop (i + 1)) (byIn m a[i] i 0 b Q) := by
      rw [List.drop_eq_getElem_cons hlt]; rfl
    rw [hby]
    refine ⟨g2, dn_round ?_ ih⟩
    generalize ((byIn m a[i] i 0 b Q).map fun c => (D.sl .leaf (ints .i64 (row c)))) = LQ2 at *
    generalize (Q.map fun c => (D.sl .leaf (ints .i64 (row c)))) = LQ at *
    simp -implicitDefEqProofs [ir_impl_field_by_L1, dn_cond, hlt, e1, w4]
/-- The product, not trimmed. -/
noncomputable def mulS {p : Int} [IsP p] (m : Fp p) (a b : List (Fp p)) : List (Fp p) := byOut m b 0 a (List.replicate (a.length + b.length - 1) 0)
def K_by (O : Oracle) : Prop := ∀ (p : Int) [IsP p] (m : Fp p) (a b : List (Fp p)), 2 ≤ m.len → m.len ≤ 64 → (∀ c ∈ a, c.len ≤ 64) → (∀ c ∈ b, c.len ≤ 64) → a.length < 10000 → b.length < 10000 →
  ask O F_impl_field_by [fldD m, skD a, skD b] = some (if a.length = 0 ∨ b.length = 0 then skD ([] : List (Fp p)) else skD (trimS (mulS m a b)))
theorem k_by (hT : T F_impl_field_by = some ir_impl_field_by) (hfr : K_frob (den T A)) (hpr : K_product (den T A)) (hco : K_combine2 (den T A)) (htr : K_sktrim (den T A)) : K_by (den T A) := by
  intro p ip m a b h2 hml ha hb hal hbl
  have hsa : skD a = .sl .leaf (a.map fun c => (D.sl .leaf (ints .i64 (row c)))) := rfl
  have hsb : skD b = .sl .leaf (b.map fun c => (D.sl .leaf (ints .i64 (row c)))) := rfl
  have hLa : (a.map fun c => (D.sl .leaf (ints .i64 (row c)))).length = a.length := List.length_map ..
  have hLb : (b.map fun c => (D.sl .leaf (ints .i64 (row c)))).length = b.length := List.length_map ..
  by_cases h0 : a.length = 0 ∨ b.length = 0
  · rw [if_pos h0, hsa, hsb]
    refine ask_of hT rfl ?_
    generalize (a.map fun c => (D.sl .leaf (ints .i64 (row c)))) = LA at *
    generalize (b.map fun c => (D.sl .leaf (ints .i64 (row c)))) = LB at *
    rcases h0 with h0 | h0
    · rw [h0] at hLa
      simp -implicitDefEqProofs [ir_impl_field_by, ir_impl_field_by_B, dn_cond, hLa, hLb, List.replicate]
    · rw [h0] at hLb
      by_cases h1 : LA.length = 0
      · simp -implicitDefEqProofs [ir_impl_field_by, ir_impl_field_by_B, dn_cond, h1, hLb, List.replicate]
      · simp -implicitDefEqProofs [ir_impl_field_by, ir_impl_field_by_B, dn_cond, h1, hLb, List.replicate]
  · rw [if_neg h0]
    have ha1 : 1 ≤ a.length := by omega
    have hb1 : 1 ≤ b.length := by omega
    have hz : ((List.replicate (a.length + b.length - 1) (0 : Fp p)).map fun c => (D.sl .leaf (ints .i64 (row c)))) = List.replicate (a.length + b.length - 1) (.sl .leaf []) := by rw [List.map_replicate, row_zero, ints_nil]
    have hl0 : ∀ c ∈ List.replicate (a.length + b.length - 1) (0 : Fp p), c.len ≤ 64 := fun c hc => by rw [List.eq_of_mem_replicate hc, Pol.len_zero]; omega
    obtain ⟨g1, e1⟩ := l_by1 (O := den T A) hfr hpr hco h2 hml ha hb (N := a.length + b.length - 1) (by omega) (by omega) hb1 (cp := some (a.length + b.length - 1)) a.length 0 (List.replicate (a.length + b.length - 1) 0) (Nat.zero_add _) (List.length_replicate ..) hl0
    have e00 : ((0 : Nat) : Int) = 0 := rfl
    have em : byOut m b 0 (a.drop 0) (List.replicate (a.length + b.length - 1) 0) = mulS m a b := by rw [List.drop_zero]; rfl
    rw [e00, em, hz] at e1
    have hml2 : (mulS m a b).length = a.length + b.length - 1 := by unfold mulS; rw [byOut_length, List.length_replicate]
    have e2 := htr p (mulS m a b) (by omega)
    have hsm : skD (mulS m a b) = .sl .leaf ((mulS m a b).map fun c => (D.sl .leaf (ints .i64 (row c)))) := rfl
    have hLm : ((mulS m a b).map fun c => (D.sl .leaf (ints .i64 (row c)))).length = a.length + b.length - 1 := by rw [List.length_map]; exact hml2
    have ht : ((mulS m a b).map fun c => (D.sl .leaf (ints .i64 (row c)))).take (a.length + b.length - 1) = ((mulS m a b).map fun c => (D.sl .leaf (ints .i64 (row c)))) := List.take_of_length_le (by omega)
    rw [hsm] at e2
    have n1 : ¬ ((a.length : Int) = 0) := by omega
    have n2 : ¬ ((b.length : Int) = 0) := by omega
    have n1' : a.length ≠ 0 := by omega
    have n2' : b.length ≠ 0 := by omega
    have w1 : IntKind.i64.wrap ((a.length : Int) + b.length) = (a.length : Int) + b.length := w64 (by omega)
    have w2 : IntKind.i64.wrap ((a.length : Int) + b.length - 1) = ((a.length + b.length - 1 : Nat) : Int) := (w64 (by omega)).trans (by omega)
    have h24 : (a.length + b.length - 1) * 24 ≤ 1099511627776 := by omega
    generalize skD (trimS (mulS m a b)) = TD at *
    rw [hsa, hsb] at e1 ⊢
    refine ask_of hT rfl ?_
    generalize ((mulS m a b).map fun c => (D.sl .leaf (ints .i64 (row c)))) = LM at *
    generalize (a.map fun c => (D.sl .leaf (ints .i64 (row c)))) = LA at *
    generalize (b.map fun c => (D.sl .leaf (ints .i64 (row c)))) = LB at *
    generalize a.length + b.length - 1 = N at *
    simp -implicitDefEqProofs [ir_impl_field_by, ir_impl_field_by_B, dn_cond, hLa, hLb, n1, n2, n1', n2', w1, w2, h24, e1, e2, hLm, ht, List.replicate, ints_nil]
end Pe

namespace Pe
open Go Gq
variable {T : Nat → Option Fn} {A : Oracle}
end Pe

namespace Pe
open Go Gq
variable {T : Nat → Option Fn} {A : Oracle}
section
variable {p : Int}
theorem addAt_get_ne {Q : List (Fp p)} {n j : Nat} {v : Fp p} (h : n ≠ j) : (addAt Q n v)[j]? = Q[j]? := by
  unfold addAt; rw [List.getElem?_set_ne h]
end
section
variable {p : Int} [IsP p]
theorem byIn_get_ge {m x : Fp p} {i n : Nat} : ∀ (k : Nat) (b Q : List (Fp p)), i + k + b.length ≤ n → (byIn m x i k b Q)[n]? = Q[n]?
  | _, [], _, _ => rfl
  | k, y :: ys, Q, h => by
    rw [List.length_cons] at h
    show (byIn m x i (k + 1) ys (addAt Q (i + k) _))[n]? = _
    rw [byIn_get_ge (k + 1) ys _ (by omega), addAt_get_ne (by omega)]
theorem byOut_get_ge {m : Fp p} {b : List (Fp p)} {n : Nat} : ∀ (i : Nat) (a Q : List (Fp p)), i + a.length + b.length ≤ n + 1 → (byOut m b i a Q)[n]? = Q[n]?
  | _, [], _, _ => rfl
  | i, x :: xs, Q, h => by
    rw [List.length_cons] at h
    show (byOut m b (i + 1) xs (byIn m x i 0 b Q))[n]? = _
    rw [byOut_get_ge (i + 1) xs _ (by omega), byIn_get_ge 0 b Q (by omega)]
theorem byIn_snoc {m x y : Fp p} {i : Nat} : ∀ (k : Nat) (b Q : List (Fp p)), byIn m x i k (b ++ [y]) Q = addAt (byIn m x i k b Q) (i + (k + b.length)) (x * frIt m (i % (m.len - 1)) y % m)
  | _, [], _ => rfl
  | k, z :: zs, Q => by
    show byIn m x i (k + 1) (zs ++ [y]) (addAt Q (i + k) _) = addAt (byIn m x i (k + 1) zs (addAt Q (i + k) _)) _ _
    rw [byIn_snoc (k + 1) zs, List.length_cons, show i + (k + 1 + zs.length) = i + (k + (zs.length + 1)) by omega]
theorem byOut_snoc {m x : Fp p} {b : List (Fp p)} : ∀ (i : Nat) (a Q : List (Fp p)), byOut m b i (a ++ [x]) Q = byIn m x (i + a.length) 0 b (byOut m b i a Q)
  | _, [], _ => rfl
  | i, z :: zs, Q => by
    show byOut m b (i + 1) (zs ++ [x]) (byIn m z i 0 b Q) = byIn m x _ 0 b (byOut m b (i + 1) zs (byIn m z i 0 b Q))
    rw [byOut_snoc (i + 1) zs, List.length_cons, show i + 1 + zs.length = i + (zs.length + 1) by omega]
theorem mul_mod_ne {m x y : Fp p} (hi : Irr m) (hx : x ≠ 0) (hxl : x.len < m.len) (hy : y ≠ 0) (hyl : y.len < m.len) : x * y % m ≠ 0 := fun h => by
  rcases hi.prime ((dv_iff_mod hi.ne).2 h) with h | h
  · have := Dv.len h hx; omega
  · have := Dv.len h hy; omega
theorem frIt_ne {m : Fp p} (hm : Fld m) : ∀ (k : Nat) (y : Fp p), y ≠ 0 → y.len < m.len → frIt m k y ≠ 0
  | 0, _, h, _ => h
  | k + 1, y, h, hl => by
    obtain ⟨h1, h2⟩ := pw_res hm h hl p.toNat
    exact frIt_ne hm k _ h1 h2
end
section
variable {p : Int}
theorem stl_last {S : List (Fp p)} : ∀ (n k : Nat), stl S n = k + 1 → S[k]? ≠ some 0
  | 0, k, h => by cases h
  | n + 1, k, h => by
    unfold stl at h
    split at h
    · exact stl_last n k h
    · rename_i h0
      obtain rfl : n = k := by omega
      exact h0
theorem stl_top {S : List (Fp p)} {n : Nat} (h : S[n]? ≠ some 0) : stl S (n + 1) = n + 1 := by
  unfold stl; rw [if_neg h]
theorem trimS_form {S : List (Fp p)} (h : (trimS S).length ≠ 0) : ∃ a x, trimS S = a ++ [x] ∧ x ≠ 0 := by
  have hle := stl_le S S.length
  have hl : (trimS S).length = stl S S.length := by unfold trimS; rw [List.length_take]; omega
  obtain ⟨k, hk⟩ : ∃ k, stl S S.length = k + 1 := ⟨stl S S.length - 1, by omega⟩
  have h1 := stl_last _ _ hk
  have hlt : k < S.length := by omega
  rw [List.getElem?_eq_getElem hlt] at h1
  refine ⟨S.take k, S[k], ?_, fun h => h1 (by rw [h])⟩
  unfold trimS
  rw [hk, List.take_succ_eq_append_getElem hlt]
theorem trimS_top {S : List (Fp p)} {n : Nat} (hl : S.length = n + 1) (h : S[n]? ≠ some 0) : trimS S = S := by
  unfold trimS
  rw [hl, stl_top h, ← hl, List.take_length]
end
section
variable {p : Int} [IsP p]
theorem mulS_top {m x y : Fp p} (hm : Fld m) {a b : List (Fp p)} (hx : x ≠ 0) (hxl : x.len < m.len) (hy : y ≠ 0) (hyl : y.len < m.len) : trimS (mulS m (a ++ [x]) (b ++ [y])) = mulS m (a ++ [x]) (b ++ [y]) := by
  have hl : (mulS m (a ++ [x]) (b ++ [y])).length = a.length + b.length + 1 := by
    unfold mulS
    rw [byOut_length, List.length_replicate, List.length_append, List.length_append]
    simp only [List.length_cons, List.length_nil]; omega
  refine trimS_top hl ?_
  have hfy : frIt m (a.length % (m.len - 1)) y ≠ 0 := frIt_ne hm _ y hy hyl
  have hfl := frIt_len hm.mon.2 (a.length % (m.len - 1)) y hyl
  have hne := mul_mod_ne hm.irr hx hxl hfy hfl
  unfold mulS
  rw [byOut_snoc, byIn_snoc]
  unfold addAt
  rw [byIn_get_ge _ _ _ (by omega), byOut_get_ge _ _ _ (by rw [List.length_append, List.length_cons, List.length_nil]; omega)]
  have hN : 0 + a.length + (0 + b.length) = a.length + b.length := by omega
  rw [hN, List.getElem?_set_self (by rw [byIn_length, byOut_length, List.length_replicate, List.length_append, List.length_append]; simp only [List.length_cons, List.length_nil]; omega)]
  rw [List.getElem?_replicate, if_pos (by rw [List.length_append, List.length_append]; simp only [List.length_cons, List.length_nil]; omega)]
  show some ((0 : Fp p) + _) ≠ some 0
  rw [Gq.zero_add, show 0 + a.length = a.length by omega]
  exact fun h => hne (Option.some.inj h)
/-- The product, trimmed. -/
noncomputable def prodS (m : Fp p) (a b : List (Fp p)) : List (Fp p) := if a.length = 0 ∨ b.length = 0 then [] else trimS (mulS m a b)
end
end Pe

namespace Pe
open Go Gq
variable {T : Nat → Option Fn} {A : Oracle}
section
variable {p : Int} [IsP p]
theorem addAt_lens {N n : Nat} {Q : List (Fp p)} {v : Fp p} (hQ : ∀ c ∈ Q, c.len ≤ N) (hv : v.len ≤ N) : ∀ c ∈ addAt Q n v, c.len ≤ N := fun c hc => by
  unfold addAt at hc
  rcases List.mem_or_eq_of_mem_set hc with h | rfl
  · exact hQ c h
  · refine Pol.len_add_le ?_ hv
    cases he : Q[n]? with
    | none => show (0 : Fp p).len ≤ N; rw [Pol.len_zero]; omega
    | some w => exact hQ w (List.mem_of_getElem? he)
end
end Pe



namespace Pe
open Go Gq
variable {T : Nat → Option Fn} {A : Oracle}
abbrev z6 : List Int := List.replicate 6 0
section
variable {p : Int} [IsP p]
noncomputable def mono (p : Int) (i : Nat) : Fp p := numP p (p ^ i)
end
end Pe

namespace Pe
open Go Gq
variable {T : Nat → Option Fn} {A : Oracle}
section
variable {O : Oracle} {g : Nat} {first caps : List D}
/-- A comparison of a list's elements. -/
structure CmpRow (O : Oracle) (g : Nat) (first caps : List D) (f : D → Int) (s : Sh) (cs : List D) : Prop where
  nf : noTup first
  nc : noTup caps
  nx : noTup cs
  sh : AllSh s cs
  ask : ∀ x ∈ cs, ∀ y ∈ cs, ∃ v : Int, ask O g (first ++ [x, y] ++ caps) = some (D.int .i64 v) ∧ (v < 0 ↔ f x < f y)
theorem CmpRow.perm {f : D → Int} {s : Sh} {cs ds : List D} (h : CmpRow O g first caps f s cs) (p : ds.Perm cs) : CmpRow O g first caps f s ds :=
  ⟨h.nf, h.nc, fun x hx => h.nx x (p.subset hx), fun x hx => h.sh x (p.subset hx), fun x hx y hy => h.ask x (p.subset hx) y (p.subset hy)⟩
theorem CmpRow.call {f : D → Int} {s : Sh} {cs : List D} (h : CmpRow O g first caps f s cs) {hp : Heap} {np : Nat} {news : List Nat} {x y : D} (hx : x ∈ cs) (hy : y ∈ cs) :
    ∃ v : Int, kCall O np hp .flat news (g, first.map .d, caps.map .d) [.d x, .d y] = some (.d (D.int .i64 v), hp) ∧ (v < 0 ↔ f x < f y) := by
  have e : toDs hp (first.map .d ++ [.d x, .d y] ++ caps.map .d) = some (first ++ [x, y] ++ caps) :=
    toDs_app hp (toDs_app hp (toDs_map hp h.nf) (toDs_map hp (ds := [x, y]) (by intro z hz; simp at hz; rcases hz with rfl | rfl; exact h.nx _ hx; exact h.nx _ hy))) (toDs_map hp h.nc)
  obtain ⟨v, e1, e2⟩ := h.ask x hx y hy
  refine ⟨v, ?_, e2⟩
  rw [kCall_flat, e, Option.bind_some, kAsk_ask, e1, Option.bind_some, kAns_flat, show (D.int IntKind.i64 v).flat = true from rfl, if_pos rfl]
end
end Pe

namespace Pe
open Go Gq
variable {T : Nat → Option Fn} {A : Oracle}
section
variable {p : Int}
/-- b without its part at the degree of a. -/
noncomputable def elim (a b : Fp p) : Fp p := b + Pol.C (-(b.c (a.len - 1))) * a
noncomputable abbrev rowD (a : Fp p) : D := (D.sl .leaf (ints .i64 (row a)))
end
section
variable {p : Int} [IsP p]
/-- Strictly descending degrees, all monic. -/
structure Desc (N : Nat) (L : List (Fp p)) : Prop where
  pw : L.Pairwise fun x y => y.len < x.len
  mon : ∀ b ∈ L, Monic b
  le : ∀ b ∈ L, b.len ≤ N
theorem Desc.nil (N : Nat) : Desc N ([] : List (Fp p)) := ⟨List.Pairwise.nil, (fun _ h => by cases h), (fun _ h => by cases h)⟩
theorem Desc.tail {N : Nat} {b : Fp p} {L : List (Fp p)} (h : Desc N (b :: L)) : Desc N L ∧ ∀ c ∈ L, c.len < b.len :=
  ⟨⟨h.pw.tail, fun c hc => h.mon c (by simp [hc]), fun c hc => h.le c (by simp [hc])⟩, (List.pairwise_cons.1 h.pw).1⟩
theorem Desc.length : ∀ {N : Nat} {L : List (Fp p)}, Desc N L → L.length ≤ N
  | N, [], _ => Nat.zero_le _
  | N, b :: L, h => by
    obtain ⟨h1, h2⟩ := h.tail
    have hb := Pol.len_pos (h.mon b (by simp)).2
    have hle := h.le b (by simp)
    have := Desc.length (N := b.len - 1) ⟨h1.pw, h1.mon, fun c hc => by have := h2 c hc; omega⟩
    rw [List.length_cons]; omega
end
section
variable {p : Int}
end
end Pe

namespace Pe
open Go Gq
variable {T : Nat → Option Fn} {A : Oracle}
section
variable {p : Int} [IsP p]
end
end Pe


namespace Pe
open Go Gq
variable {T : Nat → Option Fn} {A : Oracle}
noncomputable abbrev padD {p : Int} (a : Fp p) : D := (D.arr 64 .leaf (ints .u8 (pad (row a))))
theorem map_padD {p : Int} (xs : List (Fp p)) : (skP xs).map arr8 = xs.map padD := by unfold skP; rw [List.map_map]; rfl
section
variable {p : Int} [IsP p]
theorem l_rows {O : Oracle} (hro : K_rowOf O) {xs : List (Fp p)} (hl : xs.length < 2000000) (hx : ∀ x ∈ xs, x.len ≤ 64) : ∀ (r i : Nat) (cp : Option Nat), i + r = xs.length → ∃ cp' : Option Nat,
    dn O 0 (.loop ir_impl_rows_L0) ⟨[(3, .sl 0 [] 0 i cp), (6, .d (.sl (.arr 64 .leaf) (xs.map padD))), (7, (.d (.int .i64 xs.length))), (8, (.d (.int .i64 i)))], [.sl false .leaf ((xs.take i).map rowD), .hole, .hole, .hole]⟩ =
      some (.exit 0, ⟨[(3, .sl 0 [] 0 xs.length cp'), (6, .d (.sl (.arr 64 .leaf) (xs.map padD))), (7, (.d (.int .i64 xs.length))), (8, (.d (.int .i64 xs.length))), (9, (.d (.bool false)))], [.sl false .leaf (xs.map rowD), .hole, .hole, .hole]⟩)
  | 0, i, cp, hi => by
    obtain rfl : i = xs.length := by omega
    rw [List.take_length]
    refine ⟨cp, dn_stop ?_⟩
    generalize xs.map padD = XD at *
    generalize xs.map rowD = RD at *
    simp -implicitDefEqProofs [ir_impl_rows_L0, dn_cond]
  | r + 1, i, cp, hi => by
    have hlt : i < xs.length := by omega
    have hm := List.getElem_mem hlt
    have e1 := hro p xs[i] (hx _ hm)
    have hXD : (xs.map padD).length = xs.length := List.length_map ..
    have hxi : ∀ h : i < (xs.map padD).length, (xs.map padD)[i]'h = (D.arr 64 .leaf (ints .u8 (pad (row xs[i])))) := fun h => by rw [List.getElem_map]
    have w4 : IntKind.i64.wrap ((i : Int) + 1) = ((i + 1 : Nat) : Int) := (w64 (x := (i : Int) + 1) (by omega)).trans (by omega)
    have h24 : (i + 1) * 24 ≤ 1099511627776 := by omega
    have htk : (xs.take (i + 1)).map rowD = (xs.take i).map rowD ++ [(D.sl .leaf (ints .i64 (row xs[i])))] := by rw [List.take_succ_eq_append_getElem hlt, List.map_append]; rfl
    have hL : ((xs.take i).map rowD).length = i := by rw [List.length_map, List.length_take]; omega
    have htt : ((xs.take i).map rowD).take i = (xs.take i).map rowD := List.take_of_length_le (by omega)
    obtain ⟨cp', ih⟩ := l_rows hro hl hx r (i + 1) none (by omega)
    refine ⟨cp', dn_round ?_ ih⟩
    rw [htk]
    generalize pad (row xs[i]) = Pi at *
    generalize row xs[i] = Ri at *
    generalize (xs.take i).map rowD = TD at *
    generalize xs.map padD = XD at *
    simp -implicitDefEqProofs [ir_impl_rows_L0, dn_cond, hlt, hXD, hxi, e1, h24, hL, htt, w4, List.replicate]
def K_rows (O : Oracle) : Prop := ∀ (p : Int) [IsP p] (xs : List (Fp p)), xs.length < 2000000 → (∀ x ∈ xs, x.len ≤ 64) → ask O F_impl_rows [.sl (.arr 64 .leaf) (xs.map padD)] = some (.sl .leaf (xs.map rowD))
end
theorem k_rows (hT : T F_impl_rows = some ir_impl_rows) (hro : K_rowOf (den T A)) : K_rows (den T A) := by
  intro p ip xs hl hx
  obtain ⟨cp, e⟩ := l_rows (O := den T A) hro hl hx xs.length 0 (some 0) (Nat.zero_add _)
  have e00 : ((0 : Nat) : Int) = 0 := rfl
  rw [e00, List.take_zero, List.map_nil] at e
  have h1 : (xs.map rowD).length = xs.length := List.length_map ..
  have h2 : (xs.map padD).length = xs.length := List.length_map ..
  have htk : (xs.map rowD).take xs.length = xs.map rowD := List.take_of_length_le (by omega)
  refine ask_of hT rfl ?_
  generalize xs.map padD = XD at *
  generalize xs.map rowD = RD at *
  simp -implicitDefEqProofs [ir_impl_rows, ir_impl_rows_B, h1, h2, htk, e]
end Pe


namespace Pe
open Go Gq
variable {T : Nat → Option Fn} {A : Oracle}
section
variable {p : Int}
end
section
variable {p : Int} [IsP p]
end
end Pe

namespace Pe
open Go Gq
variable {T : Nat → Option Fn} {A : Oracle}
theorem l_toPs {O : Oracle} (hp : C_toPoly O) {ls : List (List Int)} (h : Arrs ls) (hl : ls.length < 2000000) : ∀ (k i : Nat) (Q : List D), i + k = ls.length → Q.length = ls.length → (∀ d ∈ Q, d.sh.beq (.arr 64 .leaf) = true) → Q.take i = (ls.map arr8).take i →
    dn O 0 (.loop ir_laws_toPolyS_L0) ⟨[(0, .d (.sl (.arr 64 .leaf) (ls.map arr8))), (3, .sl 0 [] 0 ls.length (some ls.length)), (4, (.d (.int .i64 i)))], [.sl false (.arr 64 .leaf) Q]⟩ =
      some (.exit 0, ⟨[(0, .d (.sl (.arr 64 .leaf) (ls.map arr8))), (3, .sl 0 [] 0 ls.length (some ls.length)), (4, (.d (.int .i64 ls.length))), (11, (.d (.bool false)))], [.sl false (.arr 64 .leaf) (ls.map arr8)]⟩)
  | 0, i, Q, hi, hq, hQ, ht => by
    obtain rfl : i = ls.length := by omega
    have hL : (ls.map arr8).length = ls.length := List.length_map ..
    rw [List.take_of_length_le (by omega), List.take_of_length_le (by omega)] at ht
    subst ht
    refine dn_stop ?_
    generalize ls.map arr8 = LD at *
    simp -implicitDefEqProofs [ir_laws_toPolyS_L0, dn_cond, hL]
  | k + 1, i, Q, hi, hq, hQ, ht => by
    have hlt : i < ls.length := by omega
    have hm1 := List.getElem_mem hlt
    have hsh : ∀ h : i < Q.length, (Q[i]'h).sh.beq (.arr 64 .leaf) = true := fun h => hQ _ (List.getElem_mem h)
    have e1 := hp ls[i] (h _ hm1).2 (h _ hm1).1
    have hL : (ls.map arr8).length = ls.length := List.length_map ..
    have hx2 : ∀ h : i < (ls.map arr8).length, (ls.map arr8)[i]'h = (D.arr 64 .leaf (ints .u8 (ls[i]))) := fun h => by rw [List.getElem_map]
    have w4 : IntKind.i64.wrap ((i : Int) + 1) = ((i + 1 : Nat) : Int) := (w64 (x := (i : Int) + 1) (by omega)).trans (by omega)
    refine dn_round ?_ (l_toPs hp h hl k (i + 1) (Q.set i (D.arr 64 .leaf (ints .u8 (ls[i])))) (by omega) (by rw [List.length_set]; exact hq) (fun d hd => by
      rcases List.mem_or_eq_of_mem_set hd with h1 | rfl
      · exact hQ d h1
      · rfl) (by
      rw [List.take_succ_eq_append_getElem (show i < (ls.map arr8).length by omega), List.take_succ_eq_append_getElem (by rw [List.length_set]; omega), List.getElem_set_self, List.take_set, List.set_eq_of_length_le (by rw [List.length_take]; omega), ht, hx2]))
    generalize ls[i] = li at *
    generalize ls.map arr8 = LD at *
    simp -implicitDefEqProofs [ir_laws_toPolyS_L0, dn_cond, hlt, hL, hx2, hq, hsh, e1, w4]
def C_toPs (O : Oracle) : Prop := ∀ ls : List (List Int), Arrs ls → ls.length < 2000000 → ask O F_laws_toPolyS [.sl (.arr 64 .leaf) (ls.map arr8)] = some (.sl (.arr 64 .leaf) (ls.map arr8))
theorem c_toPs (hT : T F_laws_toPolyS = some ir_laws_toPolyS) (hp : C_toPoly (den T A)) : C_toPs (den T A) := by
  intro ls h hl
  have e := l_toPs (O := den T A) hp h hl ls.length 0 (List.replicate ls.length (D.arr 64 .leaf (ints .u8 (pad [])))) (Nat.zero_add _) (List.length_replicate ..) (fun d hd => by rw [List.eq_of_mem_replicate hd]; rfl) (by rw [List.take_zero, List.take_zero])
  have e00 : ((0 : Nat) : Int) = 0 := rfl
  rw [e00] at e
  have hL : (ls.map arr8).length = ls.length := List.length_map ..
  have htk : (ls.map arr8).take ls.length = ls.map arr8 := List.take_of_length_le (by omega)
  have h64 : ls.length * 64 ≤ 1099511627776 := by omega
  refine ask_of hT rfl ?_
  generalize ls.map arr8 = LD at *
  generalize ls.length = n at *
  simp -implicitDefEqProofs [ir_laws_toPolyS, ir_laws_toPolyS_B, e, hL, htk, h64]
theorem l_eqPs {O : Oracle} (he : C_eqPoly O) {ls : List (List Int)} (h : ∀ l ∈ ls, l.length = 64) (hl : ls.length < 2000000) : ∀ (k i : Nat), i + k = ls.length →
    dn O 0 (.loop ir_laws_eqPolyS_L0) ⟨[(0, .d (.sl (.arr 64 .leaf) (ls.map arr8))), (1, .d (.sl (.arr 64 .leaf) (ls.map arr8))), (5, (.d (.int .i64 i)))], []⟩ =
      some (.exit 0, ⟨[(0, .d (.sl (.arr 64 .leaf) (ls.map arr8))), (1, .d (.sl (.arr 64 .leaf) (ls.map arr8))), (5, (.d (.int .i64 ls.length))), (14, (.d (.bool false)))], []⟩)
  | 0, i, hi => by
    obtain rfl : i = ls.length := by omega
    have hL : (ls.map arr8).length = ls.length := List.length_map ..
    refine dn_stop ?_
    generalize ls.map arr8 = LD at *
    simp -implicitDefEqProofs [ir_laws_eqPolyS_L0, dn_cond, hL]
  | k + 1, i, hi => by
    have hlt : i < ls.length := by omega
    have e1 := he ls[i] (h _ (List.getElem_mem hlt))
    have hL : (ls.map arr8).length = ls.length := List.length_map ..
    have hx2 : ∀ h : i < (ls.map arr8).length, (ls.map arr8)[i]'h = (D.arr 64 .leaf (ints .u8 (ls[i]))) := fun h => by rw [List.getElem_map]
    have w4 : IntKind.i64.wrap ((i : Int) + 1) = ((i + 1 : Nat) : Int) := (w64 (x := (i : Int) + 1) (by omega)).trans (by omega)
    refine dn_round ?_ (l_eqPs he h hl k (i + 1) (by omega))
    generalize ls[i] = li at *
    generalize ls.map arr8 = LD at *
    simp -implicitDefEqProofs [ir_laws_eqPolyS_L0, dn_cond, hlt, hL, hx2, e1, w4]
def C_eqPs (O : Oracle) : Prop := ∀ ls : List (List Int), (∀ l ∈ ls, l.length = 64) → ls.length < 2000000 → ask O F_laws_eqPolyS [.sl (.arr 64 .leaf) (ls.map arr8), .sl (.arr 64 .leaf) (ls.map arr8)] = some (D.bool true)
theorem c_eqPs (hT : T F_laws_eqPolyS = some ir_laws_eqPolyS) (he : C_eqPoly (den T A)) : C_eqPs (den T A) := by
  intro ls h hl
  have e := l_eqPs (O := den T A) he h hl ls.length 0 (Nat.zero_add _)
  have e00 : ((0 : Nat) : Int) = 0 := rfl
  rw [e00] at e
  refine ask_of hT rfl ?_
  generalize ls.map arr8 = LD at *
  simp -implicitDefEqProofs [ir_laws_eqPolyS, ir_laws_eqPolyS_B, dn_cond, e]
def C_szPs (O : Oracle) : Prop := ∀ (L : List D) (left : Int), 0 ≤ left → left ≤ 2000000 → L.length ≤ 9223372036854775807 → ask O F_laws_szPolyS [.sl (.arr 64 .leaf) L, (D.int .i64 left)] = some (D.int .i64 (if left < L.length then -1 else left - L.length))
theorem c_szPs (hT : T F_laws_szPolyS = some ir_laws_szPolyS) : C_szPs (den T A) := by
  intro L left h0 h1 hl
  have w1 : IntKind.i64.wrap (left - L.length) = left - L.length := w64 (by omega)
  refine ask_of hT rfl ?_
  by_cases h : left < L.length
  · rw [if_pos h]
    have hn : left - (L.length : Int) < 0 := by omega
    simp -implicitDefEqProofs [ir_laws_szPolyS, ir_laws_szPolyS_B, dn_cond, w1, hn]
  · rw [if_neg h]
    have hn : ¬ left - (L.length : Int) < 0 := by omega
    simp -implicitDefEqProofs [ir_laws_szPolyS, ir_laws_szPolyS_B, dn_cond, w1, hn]
end Pe

namespace Pe
open Go Gq
section
variable {p : Int}
/-- A coefficient. -/
noncomputable def cS (A : List (Fp p)) (i : Nat) : Fp p := (A[i]?).getD 0
theorem cS_ge {A : List (Fp p)} {i : Nat} (h : A.length ≤ i) : cS A i = 0 := by unfold cS; rw [List.getElem?_eq_none h]; rfl
theorem cS_lt {A : List (Fp p)} {i : Nat} (h : i < A.length) : A[i] = cS A i := by unfold cS; rw [List.getElem?_eq_getElem h]; rfl
def IsTrim (A : List (Fp p)) : Prop := ∀ n, A.length = n + 1 → cS A n ≠ 0
theorem cS_trim (S : List (Fp p)) (i : Nat) : cS (trimS S) i = cS S i := by
  unfold cS trimS
  have hle := stl_le S S.length
  by_cases h : i < stl S S.length
  · rw [List.getElem?_take, if_pos h]
  · rw [List.getElem?_take, if_neg h]
    by_cases h2 : i < S.length
    · rw [stl_zero S S.length i (by omega) h2]; rfl
    · rw [List.getElem?_eq_none (by omega)]
theorem isTrim_trim (S : List (Fp p)) : IsTrim (trimS S) := fun n hn => by
  obtain ⟨a, x, e, hx⟩ := trimS_form (S := S) (by omega)
  rw [e] at hn ⊢
  rw [List.length_append, List.length_singleton] at hn
  unfold cS
  rw [List.getElem?_append_right (by omega), show n - a.length = 0 by omega]
  exact hx
theorem trim_ext {A B : List (Fp p)} (hA : IsTrim A) (hB : IsTrim B) (h : ∀ i, cS A i = cS B i) : A = B := by
  have hl : A.length = B.length := by
    rcases Nat.lt_trichotomy A.length B.length with g | g | g
    · exact absurd (by rw [← h]; exact cS_ge (by omega)) (hB (B.length - 1) (by omega))
    · exact g
    · exact absurd (by rw [h]; exact cS_ge (by omega)) (hA (A.length - 1) (by omega))
  refine List.ext_getElem hl fun i h1 h2 => ?_
  rw [cS_lt h1, cS_lt h2, h]
theorem trim_len_le {X : List (Fp p)} {n : Nat} (h : ∀ i, n ≤ i → cS X i = 0) : (trimS X).length ≤ n := by
  rcases Nat.lt_or_ge n (trimS X).length with g | g
  · have := isTrim_trim X ((trimS X).length - 1) (by omega)
    rw [cS_trim] at this
    exact absurd (h _ (by omega)) this
  · exact g
theorem isTrim_nil : IsTrim ([] : List (Fp p)) := fun n h => by cases h
theorem cS_nil (i : Nat) : cS ([] : List (Fp p)) i = 0 := rfl
theorem cS_mem {A : List (Fp p)} {N : Nat} (h : ∀ i, (cS A i).len ≤ N) : ∀ c ∈ A, c.len ≤ N := fun c hc => by
  obtain ⟨i, hi, rfl⟩ := List.getElem_of_mem hc
  rw [cS_lt hi]; exact h i
theorem mem_cS {A : List (Fp p)} {N : Nat} (h : ∀ c ∈ A, c.len ≤ N) (i : Nat) : (cS A i).len ≤ N := by
  by_cases hi : i < A.length
  · rw [← cS_lt hi]; exact h _ (List.getElem_mem hi)
  · rw [cS_ge (by omega), Pol.len_zero]; omega
theorem cS_map {n : Nat} {f : Nat → Fp p} (i : Nat) : cS ((List.range n).map f) i = if i < n then f i else 0 := by
  unfold cS
  rw [List.getElem?_map]
  by_cases h : i < n
  · rw [List.getElem?_range h, if_pos h]; rfl
  · rw [List.getElem?_eq_none (by simpa using h), if_neg h]; rfl
noncomputable def plusS (k : Int) (A B : List (Fp p)) : List (Fp p) := trimS ((List.range (max A.length B.length)).map fun i => cS A i + Pol.C (zp p k) * cS B i)
theorem cS_plus (k : Int) (A B : List (Fp p)) (i : Nat) : cS (plusS k A B) i = cS A i + Pol.C (zp p k) * cS B i := by
  unfold plusS
  rw [cS_trim, cS_map]
  split
  · rfl
  · rw [cS_ge (A := A) (by omega), cS_ge (A := B) (by omega), Gq.mul_zero, Gq.add_zero]
theorem isTrim_plus (k : Int) (A B : List (Fp p)) : IsTrim (plusS k A B) := isTrim_trim _
theorem plus_len (k : Int) (A B : List (Fp p)) : (plusS k A B).length ≤ max A.length B.length := trim_len_le fun i hi => by
  rw [cS_map, if_neg (by omega)]
noncomputable def termS (c : Fp p) (k : Nat) : List (Fp p) := List.replicate k 0 ++ [c]
theorem termS_length (c : Fp p) (k : Nat) : (termS c k).length = k + 1 := by unfold termS; rw [List.length_append, List.length_replicate]; rfl
theorem cS_term (c : Fp p) (k i : Nat) : cS (termS c k) i = if i = k then c else 0 := by
  unfold cS termS
  rcases Nat.lt_trichotomy i k with h | h | h
  · rw [List.getElem?_append_left (by rw [List.length_replicate]; exact h), List.getElem?_replicate, if_pos h, if_neg (by omega)]; rfl
  · rw [List.getElem?_append_right (by rw [List.length_replicate]; omega), List.length_replicate, h, Nat.sub_self, if_pos rfl]; rfl
  · rw [List.getElem?_eq_none (by rw [List.length_append, List.length_replicate, List.length_singleton]; omega), if_neg (by omega)]; rfl
theorem isTrim_term {c : Fp p} (h : c ≠ 0) (k : Nat) : IsTrim (termS c k) := fun n hn => by
  rw [termS_length] at hn
  rw [cS_term, if_pos (by omega)]; exact h
theorem trimS_len_le (S : List (Fp p)) : (trimS S).length ≤ S.length := by
  unfold trimS; rw [List.length_take]; omega
theorem cS_set {X : List (Fp p)} {n i : Nat} {c : Fp p} (h : n < X.length) : cS (X.set n c) i = if i = n then c else cS X i := by
  unfold cS
  by_cases hi : i = n
  · subst hi; rw [List.getElem?_set_self h, if_pos rfl]; rfl
  · rw [List.getElem?_set_ne (by omega), if_neg hi]
theorem snoc_of {B : List (Fp p)} (h : 1 ≤ B.length) : ∃ b, B = b ++ [cS B (B.length - 1)] ∧ b.length = B.length - 1 := by
  have hlt : B.length - 1 < B.length := by omega
  refine ⟨B.take (B.length - 1), ?_, by rw [List.length_take]; omega⟩
  rw [← cS_lt hlt, ← List.take_succ_eq_append_getElem hlt, show B.length - 1 + 1 = B.length by omega, List.take_length]
end
section
variable {p : Int} [IsP p]
theorem byIn_lens' {m x : Fp p} {i N : Nat} (hm : m ≠ 0) (hN : m.len ≤ N + 1) : ∀ (k : Nat) (b Q : List (Fp p)), (∀ c ∈ Q, c.len ≤ N) → ∀ c ∈ byIn m x i k b Q, c.len ≤ N
  | _, [], _, h => h
  | k, y :: ys, Q, h => byIn_lens' hm hN (k + 1) ys _ (addAt_lens h (by have := Pol.len_mod (x * frIt m (i % (m.len - 1)) y) hm; omega))
theorem byOut_lens' {m : Fp p} {b : List (Fp p)} {N : Nat} (hm : m ≠ 0) (hN : m.len ≤ N + 1) : ∀ (i : Nat) (a Q : List (Fp p)), (∀ c ∈ Q, c.len ≤ N) → ∀ c ∈ byOut m b i a Q, c.len ≤ N
  | _, [], _, h => h
  | i, _x :: xs, Q, h => byOut_lens' hm hN (i + 1) xs _ (byIn_lens' hm hN 0 b Q h)
theorem prodS_lens' {m : Fp p} {a b : List (Fp p)} {N : Nat} (hm : m ≠ 0) (hN : m.len ≤ N + 1) : ∀ c ∈ prodS m a b, c.len ≤ N := fun c hc => by
  unfold prodS at hc
  split at hc
  · cases hc
  · have h1 : c ∈ mulS m a b := List.mem_of_mem_take hc
    exact byOut_lens' hm hN 0 a _ (fun c hc => by rw [List.eq_of_mem_replicate hc, Pol.len_zero]; omega) c h1
theorem isTrim_prod (m : Fp p) (a b : List (Fp p)) : IsTrim (prodS m a b) := by
  unfold prodS
  split
  · exact isTrim_nil
  · exact isTrim_trim _
theorem prod_len_le {m : Fp p} {a b : List (Fp p)} : (prodS m a b).length ≤ a.length + b.length - 1 := by
  unfold prodS
  split
  · exact Nat.zero_le _
  · have := trimS_len_le (mulS m a b)
    have hl : (mulS m a b).length = a.length + b.length - 1 := by unfold mulS; rw [byOut_length, List.length_replicate]
    omega
theorem mulS_val {m x y : Fp p} {a b : List (Fp p)} : cS (mulS m (a ++ [x]) (b ++ [y])) (a.length + b.length) = x * frIt m (a.length % (m.len - 1)) y % m := by
  unfold mulS
  rw [byOut_snoc, byIn_snoc]
  unfold addAt
  rw [byIn_get_ge _ _ _ (by omega), byOut_get_ge _ _ _ (by rw [List.length_append, List.length_cons, List.length_nil]; omega)]
  have hN : 0 + a.length + (0 + b.length) = a.length + b.length := by omega
  rw [hN]
  unfold cS
  rw [List.getElem?_set_self (by rw [byIn_length, byOut_length, List.length_replicate, List.length_append, List.length_append]; simp only [List.length_cons, List.length_nil]; omega)]
  rw [List.getElem?_replicate, if_pos (by rw [List.length_append, List.length_append]; simp only [List.length_cons, List.length_nil]; omega)]
  show (0 : Fp p) + _ = _
  rw [Gq.zero_add, show 0 + a.length = a.length by omega]
theorem prod_top {m : Fp p} {A B : List (Fp p)} (ha : 1 ≤ A.length) (hb : 1 ≤ B.length) : cS (prodS m A B) (A.length - 1 + (B.length - 1)) = cS A (A.length - 1) * frIt m ((A.length - 1) % (m.len - 1)) (cS B (B.length - 1)) % m := by
  obtain ⟨a, ea, la⟩ := snoc_of ha
  obtain ⟨b, eb, lb⟩ := snoc_of hb
  have h := mulS_val (m := m) (x := cS A (A.length - 1)) (y := cS B (B.length - 1)) (a := a) (b := b)
  rw [← ea, ← eb, la, lb] at h
  unfold prodS
  rw [if_neg (by omega), cS_trim]
  exact h
theorem inv_back {m x y : Fp p} (hm : Fld m) (hx : x.len < m.len) (hy : y ≠ 0) (hyl : y.len < m.len) : (x * invm m y % m) * y % m = x ∧ y * (x * invm m y % m) % m = x := by
  have h0 : m ≠ 0 := hm.mon.2
  have e := invm_ok hm hy hyl
  have key : Quo.mk m ((x * invm m y % m) * y) = Quo.mk m x := by
    rw [Quo.mk_mul, Pol.mk_mod, Quo.mk_mul, Gq.mul_assoc, e, Gq.mul_one]
  have h1 := (Pol.mod_eq_iff h0).2 key
  rw [Pol.mod_small hx] at h1
  exact ⟨h1, by rw [Gq.mul_comm]; exact h1⟩
theorem frIt_add {m : Fp p} : ∀ (b a : Nat) (x : Fp p), frIt m (a + b) x = frIt m a (frIt m b x)
  | 0, _, _ => rfl
  | b + 1, a, x => by
    show frIt m (a + b) (pw x p.toNat % m) = frIt m a (frIt m b (pw x p.toNat % m))
    exact frIt_add b a _
theorem frIt_round {m : Fp p} (hm : Fld m) (j : Nat) {z : Fp p} (hz : z.len < m.len) : frIt m (j % (m.len - 1)) (frIt m ((m.len - 1 - j % (m.len - 1)) % (m.len - 1)) z) = z := by
  have h2 := hm.two
  have hlt := Nat.mod_lt j (show 0 < m.len - 1 by omega)
  rw [frIt_mod hm _ hz, ← frIt_add, show j % (m.len - 1) + (m.len - 1 - j % (m.len - 1)) = m.len - 1 by omega, ← frIt_mod hm _ hz, Nat.mod_self]
  rfl
/-- The new coefficient of the quotient. -/
noncomputable def qc (left : Bool) (m : Fp p) (A B : List (Fp p)) : Fp p :=
  if left then frIt m ((m.len - 1 - (B.length - 1) % (m.len - 1)) % (m.len - 1)) (cS A (A.length - 1) * invm m (cS B (B.length - 1)) % m)
  else cS A (A.length - 1) * invm m (frIt m ((A.length - B.length) % (m.len - 1)) (cS B (B.length - 1))) % m
noncomputable def qT (left : Bool) (m : Fp p) (A B : List (Fp p)) : List (Fp p) := termS (qc left m A B) (A.length - B.length)
noncomputable def qP (left : Bool) (m : Fp p) (A B : List (Fp p)) : List (Fp p) := if left then prodS m B (qT left m A B) else prodS m (qT left m A B) B
end
section
variable {p : Int}
/-- Trimmed, of at most eight residues. -/
structure Sk (m : Fp p) (A : List (Fp p)) : Prop where
  trim : IsTrim A
  eight : A.length ≤ 8
  res : ∀ c ∈ A, c.len < m.len
theorem Sk.cs {m : Fp p} {A : List (Fp p)} (h : Sk m A) (hm : m ≠ 0) (i : Nat) : (cS A i).len < m.len := by
  have := mem_cS (N := m.len - 1) (fun c hc => by have := h.res c hc; omega) i
  have := Pol.len_pos hm
  omega
theorem Sk.top {m : Fp p} {A : List (Fp p)} (h : Sk m A) (h1 : 1 ≤ A.length) : cS A (A.length - 1) ≠ 0 := h.trim _ (by omega)
theorem Sk.nil (m : Fp p) : Sk m [] := ⟨isTrim_nil, by simp, fun c h => by cases h⟩
end
section
variable {p : Int} [IsP p]
theorem c_ge' {p : Int} {a : Fp p} {n : Nat} (h : a.len ≤ n) : a.c n = 0 := a.lt_len n h
theorem Sk.plus {m : Fp p} {A B : List (Fp p)} (hm : m ≠ 0) (hA : Sk m A) (hB : Sk m B) (k : Int) : Sk m (plusS k A B) := by
  have h1 := Pol.len_pos hm
  refine ⟨isTrim_plus k A B, by have := plus_len k A B; have := hA.eight; have := hB.eight; omega, fun c hc => ?_⟩
  have := cS_mem (A := plusS k A B) (N := m.len - 1) (fun i => by
    rw [cS_plus]
    have a1 := hA.cs hm i
    have a2 := hB.cs hm i
    exact Pol.len_add_le (by omega) (Pol.len_le fun j hj => by rw [Pol.c_Cmul, c_ge' (by omega), Gq.mul_zero])) c hc
  omega
theorem step_ok (left : Bool) {m : Fp p} (hm : Fld m) {A B : List (Fp p)} (hA : Sk m A) (hB : Sk m B) (h1 : 1 ≤ B.length) (hle : B.length ≤ A.length) :
    qc left m A B ≠ 0 ∧ (qc left m A B).len < m.len ∧ Sk m (qT left m A B) ∧ Sk m (qP left m A B) ∧ (plusS (-1) A (qP left m A B)).length < A.length ∧ Sk m (plusS (-1) A (qP left m A B)) := by
  have h0 : m ≠ 0 := hm.mon.2
  have hx := hA.top (by omega)
  have hxl := hA.cs h0 (A.length - 1)
  have hy := hB.top h1
  have hyl := hB.cs h0 (B.length - 1)
  have hfy : frIt m ((A.length - B.length) % (m.len - 1)) (cS B (B.length - 1)) ≠ 0 := frIt_ne hm _ _ hy hyl
  have hfl := frIt_len h0 ((A.length - B.length) % (m.len - 1)) (cS B (B.length - 1)) hyl
  have hb1 := inv_back hm hxl hfy hfl
  have hb2 := inv_back hm hxl hy hyl
  have hzl : (cS A (A.length - 1) * invm m (cS B (B.length - 1)) % m).len < m.len := Pol.len_mod _ h0
  have hz0 : cS A (A.length - 1) * invm m (cS B (B.length - 1)) % m ≠ 0 := fun h => by
    have := hb2.1
    rw [h, Gq.zero_mul, Pol.zero_mod h0] at this
    exact hx this.symm
  have hc0 : qc left m A B ≠ 0 := by
    unfold qc
    cases left with
    | true => simp only [if_true]; exact frIt_ne hm _ _ hz0 hzl
    | false =>
      simp only [Bool.false_eq_true, if_false]
      intro h
      have := hb1.1
      rw [h, Gq.zero_mul, Pol.zero_mod h0] at this
      exact hx this.symm
  have hcl : (qc left m A B).len < m.len := by
    unfold qc
    cases left with
    | true => simp only [if_true]; exact frIt_len h0 _ _ hzl
    | false => simp only [Bool.false_eq_true, if_false]; exact Pol.len_mod _ h0
  have hTl : (qT left m A B).length = A.length - B.length + 1 := termS_length _ _
  have h8 := hA.eight
  have hT : Sk m (qT left m A B) := ⟨isTrim_term hc0 _, by omega, fun c hc => by
    unfold qT termS at hc
    rcases List.mem_append.1 hc with h | h
    · rw [List.eq_of_mem_replicate h, Pol.len_zero]; exact Pol.len_pos h0
    · rw [List.mem_singleton.1 h]; exact hcl⟩
  have hPl : (qP left m A B).length ≤ A.length := by
    unfold qP
    cases left with
    | true => have := prod_len_le (m := m) (a := B) (b := qT true m A B); simp only [if_true]; omega
    | false => have := prod_len_le (m := m) (a := qT false m A B) (b := B); simp only [Bool.false_eq_true, if_false]; omega
  have hP : Sk m (qP left m A B) := by
    have hm1 := Pol.len_pos h0
    refine ⟨?_, by omega, ?_⟩
    · unfold qP
      cases left with
      | true => exact isTrim_prod _ _ _
      | false => exact isTrim_prod _ _ _
    · intro c hc
      have : c.len ≤ m.len - 1 := by
        unfold qP at hc
        cases left with
        | true => exact prodS_lens' h0 (by omega) c hc
        | false => exact prodS_lens' h0 (by omega) c hc
      omega
  have htop : cS (qP left m A B) (A.length - 1) = cS A (A.length - 1) := by
    unfold qP
    cases left with
    | true =>
      simp only [if_true]
      have h := prod_top (m := m) (A := B) (B := qT true m A B) h1 (by omega)
      rw [hTl, show B.length - 1 + (A.length - B.length + 1 - 1) = A.length - 1 by omega, show A.length - B.length + 1 - 1 = A.length - B.length by omega] at h
      rw [h]
      unfold qT
      rw [cS_term, if_pos rfl]
      unfold qc
      simp only [if_true]
      rw [frIt_round hm (B.length - 1) hzl]
      exact hb2.2
    | false =>
      simp only [Bool.false_eq_true, if_false]
      have h := prod_top (m := m) (A := qT false m A B) (B := B) (by omega) h1
      rw [hTl, show A.length - B.length + 1 - 1 + (B.length - 1) = A.length - 1 by omega, show A.length - B.length + 1 - 1 = A.length - B.length by omega] at h
      rw [h]
      unfold qT
      rw [cS_term, if_pos rfl]
      unfold qc
      simp only [Bool.false_eq_true, if_false]
      exact hb1.1
  have hneg : ∀ x : Fp p, x + Pol.C (zp p (-1)) * x = 0 := fun x => by
    rw [zp_neg, zp_one, Pol.C_neg, Pol.C_one]
    exact ring_of [x] rfl
  refine ⟨hc0, hcl, hT, hP, ?_, hA.plus h0 hP (-1)⟩
  have hlt : (plusS (-1) A (qP left m A B)).length ≤ A.length - 1 := trim_len_le fun i hi => by
    rw [cS_map]
    split
    · rcases Nat.lt_or_ge i A.length with g | g
      · rw [show i = A.length - 1 by omega, htop, hneg]
      · rw [cS_ge g, cS_ge (A := qP left m A B) (by omega), Gq.mul_zero, Gq.add_zero]
    · rfl
  omega
/-- The quotient has no part where it gets the next one. -/
def Zto (Q A B : List (Fp p)) : Prop := ∀ j, j + B.length ≤ A.length → cS Q j = 0
theorem Zto.step {left : Bool} {m : Fp p} (hm : Fld m) {Q A B : List (Fp p)} (hA : Sk m A) (hB : Sk m B) (h1 : 1 ≤ B.length) (hle : B.length ≤ A.length) (hz : Zto Q A B) : Zto (plusS 1 Q (qT left m A B)) (plusS (-1) A (qP left m A B)) B := fun j hj => by
  obtain ⟨_, _, _, _, h, _⟩ := step_ok left hm hA hB h1 hle
  unfold qT
  rw [cS_plus, hz j (by omega), cS_term, if_neg (by omega), Gq.mul_zero, Gq.add_zero]
end
end Pe

namespace Pe
open Go Gq
variable {T : Nat → Option Fn} {A : Oracle}
def K_skAt (O : Oracle) : Prop := ∀ (p : Int) [IsP p] (A : List (Fp p)) (i : Nat), ask O F_impl_skew_at [skD A, (D.int .i64 i)] = some (D.sl .leaf (ints .i64 (row (cS A i))))
theorem k_skAt (hT : T F_impl_skew_at = some ir_impl_skew_at) : K_skAt (den T A) := by
  intro p ip S i
  have hsk : skD S = .sl .leaf (S.map rowD) := rfl
  have hL : (S.map rowD).length = S.length := List.length_map ..
  rw [hsk]
  refine ask_of hT rfl ?_
  by_cases h : i < S.length
  · have hx : ∀ h : i < (S.map rowD).length, (S.map rowD)[i]'h = (D.sl .leaf (ints .i64 (row (cS S i)))) := fun h' => by rw [List.getElem_map, cS_lt h]
    generalize row (cS S i) = Rc at *
    generalize S.map rowD = SD at *
    simp -implicitDefEqProofs [ir_impl_skew_at, ir_impl_skew_at_B, dn_cond, h, hL, hx]
  · rw [cS_ge (by omega), row_zero]
    generalize S.map rowD = SD at *
    simp -implicitDefEqProofs [ir_impl_skew_at, ir_impl_skew_at_B, dn_cond, h, hL, ints_nil]
theorem l_plus {O : Oracle} (hat : K_skAt O) (hco : K_combine O) {p : Int} [IsP p] {m : Fp p} {X Y : List (Fp p)} {k : Int} (hk : -1000 ≤ k ∧ k ≤ 1000) (hX : ∀ c ∈ X, c.len ≤ 64) (hY : ∀ c ∈ Y, c.len ≤ 64) {n : Nat} (hn : n < 100000) {cp cq : Option Nat} : ∀ (r i : Nat) (Q : List D), i + r = n → Q.length = n → (∀ d ∈ Q, d.sh.beq .leaf = true) → Q.take i = ((List.range n).map fun i => rowD (cS X i + Pol.C (zp p k) * cS Y i)).take i →
    dn O 0 (.loop ir_impl_field_plus_L0) ⟨[(1, .d (skD X)), (2, .d (skD Y)), (3, (.d (.int .i64 k))), (4, .ptr 0 []), (9, .sl 1 [] 0 n cp), (18, (.d (.int .i64 n))), (19, (.d (.int .i64 i)))], [.box false (fldD m), .sl false .leaf Q]⟩ =
      some (.exit 0, ⟨[(1, .d (skD X)), (2, .d (skD Y)), (3, (.d (.int .i64 k))), (4, .ptr 0 []), (9, .sl 1 [] 0 n cp), (18, (.d (.int .i64 n))), (19, (.d (.int .i64 n))), (20, (.d (.bool false)))], [.box false (fldD m), .sl false .leaf ((List.range n).map fun i => rowD (cS X i + Pol.C (zp p k) * cS Y i))]⟩)
  | 0, i, Q, hi, hq, hQ, ht => by
    obtain rfl : i = n := by omega
    rw [List.take_of_length_le (by omega), List.take_of_length_le (by rw [List.length_map, List.length_range]; omega)] at ht
    subst ht
    refine dn_stop ?_
    generalize (List.range i).map (fun i => rowD (cS X i + Pol.C (zp p k) * cS Y i)) = LQ at *
    simp -implicitDefEqProofs [ir_impl_field_plus_L0, dn_cond]
  | r + 1, i, Q, hi, hq, hQ, ht => by
    have hlt : i < n := by omega
    have hltq : i < Q.length := by omega
    have hsh : ∀ h : i < Q.length, (Q[i]'h).sh.beq .leaf = true := fun h => hQ _ (List.getElem_mem h)
    have e1 := hat p X i
    have e2 := hat p Y i
    have a1 := mem_cS hX i
    have a2 := mem_cS hY i
    have e3 := hco p k (cS X i) (cS Y i) (by omega) (by omega) (by omega) (by omega)
    have w4 : IntKind.i64.wrap ((i : Int) + 1) = ((i + 1 : Nat) : Int) := (w64 (x := (i : Int) + 1) (by omega)).trans (by omega)
    have hLn : ((List.range n).map fun i => rowD (cS X i + Pol.C (zp p k) * cS Y i)).length = n := by rw [List.length_map, List.length_range]
    refine dn_round ?_ (l_plus hat hco (m := m) hk hX hY hn (cp := cp) (cq := cq) r (i + 1) (Q.set i (D.sl .leaf (ints .i64 (row (cS X i + Pol.C (zp p k) * cS Y i))))) (by omega) (by rw [List.length_set]; exact hq) (fun d hd => by
      rcases List.mem_or_eq_of_mem_set hd with h1 | rfl
      · exact hQ d h1
      · rfl) (by
      rw [List.take_succ_eq_append_getElem (by rw [List.length_set]; exact hltq), List.getElem_set_self, List.take_set, List.set_eq_of_length_le (by rw [List.length_take]; omega), ht, List.take_succ_eq_append_getElem (by omega), List.getElem_map, List.getElem_range]))
    have hfd : fldD m = .st [.leaf, .leaf] [(D.int .i64 p), (D.sl .leaf (ints .i64 (row m)))] := rfl
    have hsX : skD X = .sl .leaf (X.map rowD) := rfl
    have hsY : skD Y = .sl .leaf (Y.map rowD) := rfl
    rw [hfd]
    rw [hsX] at e1 ⊢
    rw [hsY] at e2 ⊢
    generalize row (cS X i + Pol.C (zp p k) * cS Y i) = R3 at *
    generalize row (cS X i) = R1 at *
    generalize row (cS Y i) = R2 at *
    generalize X.map rowD = XD at *
    generalize Y.map rowD = YD at *
    generalize row m = Rm at *
    simp -implicitDefEqProofs [ir_impl_field_plus_L0, dn_cond, hlt, hq, hsh, e1, e2, e3, w4]
def K_plus (O : Oracle) : Prop := ∀ (p : Int) [IsP p] (m : Fp p) (X Y : List (Fp p)) (k : Int), -1000 ≤ k → k ≤ 1000 → X.length < 10000 → Y.length < 10000 → (∀ c ∈ X, c.len ≤ 64) → (∀ c ∈ Y, c.len ≤ 64) → ask O F_impl_field_plus [fldD m, skD X, skD Y, (D.int .i64 k)] = some (skD (plusS k X Y))
theorem k_plus (hT : T F_impl_field_plus = some ir_impl_field_plus) (hat : K_skAt (den T A)) (hco : K_combine (den T A)) (htr : K_sktrim (den T A)) : K_plus (den T A) := by
  intro p ip m X Y k hk1 hk2 hXl hYl hX hY
  have e1 := l_plus (O := den T A) hat hco (m := m) ⟨hk1, hk2⟩ hX hY (n := max X.length Y.length) (by omega) (cp := some (max X.length Y.length)) (cq := none) (max X.length Y.length) 0 (List.replicate (max X.length Y.length) (.sl .leaf [])) (Nat.zero_add _) (List.length_replicate ..) (fun d hd => by rw [List.eq_of_mem_replicate hd]; rfl) (by rw [List.take_zero, List.take_zero])
  have e00 : ((0 : Nat) : Int) = 0 := rfl
  have e2 := htr p ((List.range (max X.length Y.length)).map fun i => cS X i + Pol.C (zp p k) * cS Y i) (by rw [List.length_map, List.length_range]; omega)
  have hsum : skD ((List.range (max X.length Y.length)).map fun i => cS X i + Pol.C (zp p k) * cS Y i) = .sl .leaf ((List.range (max X.length Y.length)).map fun i => rowD (cS X i + Pol.C (zp p k) * cS Y i)) := by
    show D.sl .leaf (List.map _ (List.map _ _)) = _
    rw [List.map_map]; rfl
  rw [hsum, show trimS ((List.range (max X.length Y.length)).map fun i => cS X i + Pol.C (zp p k) * cS Y i) = plusS k X Y from rfl] at e2
  rw [e00] at e1
  have hsX : skD X = .sl .leaf (X.map rowD) := rfl
  have hsY : skD Y = .sl .leaf (Y.map rowD) := rfl
  have hsP : skD (plusS k X Y) = .sl .leaf ((plusS k X Y).map rowD) := rfl
  have hX1 : (X.map rowD).length = X.length := List.length_map ..
  have hY1 : (Y.map rowD).length = Y.length := List.length_map ..
  have hmx : (if X.length < Y.length then ((Y.length : Nat) : Int) else ((X.length : Nat) : Int)) = ((max X.length Y.length : Nat) : Int) := by split <;> omega
  have h24 : max X.length Y.length * 24 ≤ 1099511627776 := by omega
  have hLn : ((List.range (max X.length Y.length)).map fun i => rowD (cS X i + Pol.C (zp p k) * cS Y i)).length = max X.length Y.length := by rw [List.length_map, List.length_range]
  have htk : ((List.range (max X.length Y.length)).map fun i => rowD (cS X i + Pol.C (zp p k) * cS Y i)).take (max X.length Y.length) = ((List.range (max X.length Y.length)).map fun i => rowD (cS X i + Pol.C (zp p k) * cS Y i)) := List.take_of_length_le (by omega)
  rw [hsP] at e2 ⊢
  rw [hsX, hsY] at e1 ⊢
  refine ask_of hT rfl ?_
  generalize ((List.range (max X.length Y.length)).map fun i => rowD (cS X i + Pol.C (zp p k) * cS Y i)) = LQ at *
  generalize X.map rowD = XD at *
  generalize Y.map rowD = YD at *
  generalize (plusS k X Y).map rowD = PD at *
  generalize hmm : max X.length Y.length = n at *
  simp -implicitDefEqProofs [ir_impl_field_plus, ir_impl_field_plus_B, hX1, hY1, hmx, h24, e1, e2, hLn, htk]
def K_by2 (O : Oracle) : Prop := ∀ (p : Int) [IsP p] (m : Fp p) (a b : List (Fp p)), 2 ≤ m.len → m.len ≤ 64 → (∀ c ∈ a, c.len ≤ 64) → (∀ c ∈ b, c.len ≤ 64) → a.length < 10000 → b.length < 10000 → ask O F_impl_field_by [fldD m, skD a, skD b] = some (skD (prodS m a b))
theorem k_by2 {O : Oracle} (h : K_by O) : K_by2 O := by
  intro p ip m a b h2 hml ha hb hal hbl
  rw [h p m a b h2 hml ha hb hal hbl]
  unfold prodS
  split <;> rfl
end Pe

namespace Pe
open Go Gq
variable {T : Nat → Option Fn} {A : Oracle}
end Pe


namespace Pe
open Go Gq
variable {T : Nat → Option Fn} {A : Oracle}
section
variable {p : Int} [IsP p]
end
end Pe


namespace Pe
open Go Gq
variable {T : Nat → Option Fn} {A : Oracle}
section
variable {p : Int} [IsP p]
end
end Pe

namespace Pe
open Go Gq
variable {T : Nat → Option Fn} {A : Oracle}
section
variable {α : Type}
end
end Pe

namespace Pe
open Go Gq
variable {T : Nat → Option Fn} {A : Oracle}
end Pe


namespace Pe
open Go Gq
variable {T : Nat → Option Fn} {A : Oracle}
end Pe

namespace Pe
open Go Gq
variable {T : Nat → Option Fn} {A : Oracle}
end Pe

namespace Pe
open Go Gq
variable {T : Nat → Option Fn} {A : Oracle}
section
variable {p : Int} [IsP p]
theorem byIn_cS {m x : Fp p} {i n : Nat} : ∀ (k : Nat) (b Q : List (Fp p)), i + k + b.length ≤ Q.length → cS (byIn m x i k b Q) n = if i + k ≤ n ∧ n < i + k + b.length then cS Q n + x * frIt m (i % (m.len - 1)) (cS b (n - (i + k))) % m else cS Q n
  | k, [], Q, _ => by rw [if_neg (by rw [List.length_nil]; omega)]; rfl
  | k, y :: ys, Q, h => by
    rw [List.length_cons] at h
    show cS (byIn m x i (k + 1) ys (addAt Q (i + k) _)) n = _
    rw [byIn_cS (k + 1) ys _ (by rw [addAt_length]; omega)]
    have hadd : ∀ v : Fp p, cS (addAt Q (i + k) v) n = if n = i + k then cS Q n + v else cS Q n := fun v => by
      unfold addAt
      rw [cS_set (by omega)]
      split
      · rename_i h; rw [h]; rfl
      · rfl
    rw [hadd]
    by_cases h1 : n = i + k
    · subst h1
      rw [if_neg (by omega), if_pos rfl, if_pos (by rw [List.length_cons]; omega), Nat.sub_self]
      rfl
    · rw [if_neg h1]
      by_cases h2 : i + k ≤ n ∧ n < i + k + (y :: ys).length
      · rw [List.length_cons] at h2
        rw [if_pos (by omega), if_pos (by rw [List.length_cons]; omega)]
        have : cS (y :: ys) (n - (i + k)) = cS ys (n - (i + (k + 1))) := by
          unfold cS
          rw [show n - (i + k) = (n - (i + (k + 1))) + 1 by omega, List.getElem?_cons_succ]
        rw [this]
      · rw [if_neg h2, if_neg (by rw [List.length_cons] at h2; omega)]
/-- Made monic. -/
noncomputable def monS (m : Fp p) (X : List (Fp p)) : List (Fp p) := prodS m (termS (invm m (cS X (X.length - 1))) 0) X
theorem Sk.mon {m : Fp p} {X : List (Fp p)} (hm : m ≠ 0) (hX : Sk m X) : Sk m (monS m X) := by
  have h1 := Pol.len_pos hm
  have hl := prod_len_le (m := m) (a := termS (invm m (cS X (X.length - 1))) 0) (b := X)
  rw [termS_length] at hl
  have h8 := hX.eight
  exact ⟨isTrim_prod _ _ _, by unfold monS; omega, fun c hc => by have := prodS_lens' (N := m.len - 1) hm (by omega) c hc; omega⟩
end
end Pe

namespace Pe
open Go Gq
variable {T : Nat → Option Fn} {A : Oracle}
section
variable {p : Int}
end
section
variable {p : Int} [IsP p]
theorem prodS_len {m : Fp p} (hm : Fld m) {X Y : List (Fp p)} (hX : IsTrim X) (hY : IsTrim Y) (hXl : ∀ c ∈ X, c.len < m.len) (hYl : ∀ c ∈ Y, c.len < m.len) (h1 : 1 ≤ X.length) (h2 : 1 ≤ Y.length) : (prodS m X Y).length = X.length + Y.length - 1 := by
  obtain ⟨a, ea, la⟩ := snoc_of h1
  obtain ⟨b, eb, lb⟩ := snoc_of h2
  have hx := hX (X.length - 1) (by omega)
  have hy := hY (Y.length - 1) (by omega)
  have ht := mulS_top hm (a := a) (b := b) hx (hXl _ (by rw [← cS_lt (show X.length - 1 < X.length by omega)]; exact List.getElem_mem _)) hy (hYl _ (by rw [← cS_lt (show Y.length - 1 < Y.length by omega)]; exact List.getElem_mem _))
  rw [← ea, ← eb] at ht
  unfold prodS
  rw [if_neg (by omega), ht]
  unfold mulS
  rw [byOut_length, List.length_replicate]
theorem one_ne8 : (1 : Fp p) ≠ 0 := fun h => by
  have e : (1 : Fp p).len = 1 := Pol.len_one
  rw [h, Pol.len_zero] at e
  cases e
theorem mon_len {m : Fp p} (hm : Fld m) {X : List (Fp p)} (hX : IsTrim X) (hr : ∀ c ∈ X, c.len < m.len) (h1 : 1 ≤ X.length) : (monS m X).length = X.length := by
  have h0 := hm.mon.2
  have hx : cS X (X.length - 1) ≠ 0 := hX _ (by omega)
  have hxl : (cS X (X.length - 1)).len < m.len := by
    rw [← cS_lt (show X.length - 1 < X.length by omega)]; exact hr _ (List.getElem_mem _)
  have hi : invm m (cS X (X.length - 1)) ≠ 0 := fun h => by
    have e := inv_back hm (x := 1) (by have := hm.two; have : (1 : Fp p).len = 1 := Pol.len_one; omega) hx hxl
    rw [h, Gq.mul_zero, Pol.zero_mod h0, Gq.zero_mul, Pol.zero_mod h0] at e
    exact one_ne8 e.1.symm
  have hil := invm_len h0 (cS X (X.length - 1))
  have := prodS_len hm (isTrim_term hi 0) hX (fun c hc => by
    unfold termS at hc
    rw [List.replicate_zero, List.nil_append] at hc
    rw [List.mem_singleton.1 hc]; exact hil) hr (by rw [termS_length]; omega) h1
  rw [termS_length] at this
  unfold monS
  omega
end
end Pe


namespace Pe
open Go Gq
variable {T : Nat → Option Fn} {A : Oracle}
section
variable {p : Int} [IsP p]
end
end Pe

namespace Pe
open Go Gq
section
variable {p : Int}
noncomputable def sg {m : Fp p} : Nat → Quo m → Quo m
  | 0, x => x
  | k + 1, x => sg k (pw x p.toNat)
theorem sg_mk [IsP p] {m : Fp p} : ∀ (k : Nat) (a : Fp p), Quo.mk m (frIt m k a) = sg k (Quo.mk m a)
  | 0, _ => rfl
  | k + 1, a => by
    show Quo.mk m (frIt m k (pw a p.toNat % m)) = sg k (pw (Quo.mk m a) p.toNat)
    rw [sg_mk k, Pol.mk_mod, Quo.mk_pow]
theorem pw_zero_pos [IsP p] {m : Fp p} : pw (0 : Quo m) p.toNat = 0 := by
  have h := IsP.pos (p := p)
  have : p.toNat = (p.toNat - 1) + 1 := by omega
  rw [this]
  show pw (0 : Quo m) (p.toNat - 1) * 0 = 0
  exact Gq.mul_zero _
theorem sg_zero [IsP p] {m : Fp p} : ∀ k, sg k (0 : Quo m) = 0
  | 0 => rfl
  | k + 1 => by
    show sg k (pw (0 : Quo m) p.toNat) = 0
    rw [pw_zero_pos, sg_zero k]
section
variable {m : Fp p}
noncomputable def Rop (t0 t1 t2 : Quo m) (X : Nat → Quo m) : Nat → Quo m
  | 0 => X 0 * t0
  | 1 => X 1 * sg 1 t0 + X 0 * t1
  | n + 2 => X (n + 2) * sg (n + 2) t0 + X (n + 1) * sg (n + 1) t1 + X n * sg n t2
noncomputable def e0 : Nat → Quo m
  | 0 => 1
  | _ + 1 => 0
theorem nine (t0 t1 t2 a b c d e f g h i s u v : Quo m) : t0 * (a * s + b * u + c * v) + t1 * (d * s + e * u + f * v) + t2 * (g * s + h * u + i * v) = (t0 * a + t1 * d + t2 * g) * s + (t0 * b + t1 * e + t2 * h) * u + (t0 * c + t1 * f + t2 * i) * v := by
  have l : ∀ t a b c : Quo m, t * (a * s + b * u + c * v) = t * a * s + t * b * u + t * c * v := fun t a b c => ring_of [t, a, b, c, s, u, v] rfl
  have q : ∀ x y z w : Quo m, (x + y + z) * w = x * w + y * w + z * w := fun x y z w => ring_of [x, y, z, w] rfl
  have z : ∀ p1 p2 p3 q1 q2 q3 r1 r2 r3 : Quo m, (p1 + p2 + p3) + (q1 + q2 + q3) + (r1 + r2 + r3) = (p1 + q1 + r1) + (p2 + q2 + r2) + (p3 + q3 + r3) := fun p1 p2 p3 q1 q2 q3 r1 r2 r3 => ring_of [p1, p2, p3, q1, q2, q3, r1, r2, r3] rfl
  rw [l, l, l, q, q, q, z]
theorem eight [IsP p] (t0 t1 t2 a b c d e f g h s u v : Quo m) : t0 * (a * s + b * u + c * v) + t1 * (d * s + e * u + f * v) + t2 * (g * s + h * u) = (t0 * a + t1 * d + t2 * g) * s + (t0 * b + t1 * e + t2 * h) * u + (t0 * c + t1 * f) * v := by
  have := nine t0 t1 t2 a b c d e f g h 0 s u v
  simp only [Gq.zero_mul, Gq.mul_zero, Gq.add_zero] at this
  exact this
noncomputable def Rk (t0 t1 t2 : Quo m) : Nat → Nat → Quo m
  | 0 => e0
  | k + 1 => Rop t0 t1 t2 (Rk t0 t1 t2 k)
/-- A sum of multiples of the powers. -/
noncomputable def hsum (t0 t1 t2 : Quo m) : (Nat → Quo m) → Nat → Nat → Nat → Quo m
  | _, _, 0, _ => 0
  | c, k, n + 1, i => c 0 * Rk t0 t1 t2 k i + hsum t0 t1 t2 (fun j => c (j + 1)) (k + 1) n i
end
noncomputable def qcf (m : Fp p) (A : List (Fp p)) (n : Nat) : Quo m := Quo.mk m (cS A n)
theorem qcf_nil (m : Fp p) (n : Nat) : qcf m [] n = 0 := rfl
theorem qcf_ge {m : Fp p} {A : List (Fp p)} {n : Nat} (h : A.length ≤ n) : qcf m A n = 0 := by unfold qcf; rw [cS_ge h]; rfl
theorem qcf_eq [IsP p] {m : Fp p} (hm : m ≠ 0) {A B : List (Fp p)} {n : Nat} (hA : (cS A n).len < m.len) (hB : (cS B n).len < m.len) (h : qcf m A n = qcf m B n) : cS A n = cS B n := by
  have e := (Pol.mod_eq_iff hm).2 h
  rwa [Pol.mod_small hA, Pol.mod_small hB] at e
theorem qcf_set {m : Fp p} {A : List (Fp p)} {j n : Nat} {v : Fp p} (h : j < A.length) : qcf m (addAt A j v) n = qcf m A n + (if n = j then Quo.mk m v else 0) := by
  unfold qcf addAt
  rw [cS_set h]
  by_cases hn : n = j
  · rw [if_pos hn, if_pos hn, hn]; rfl
  · rw [if_neg hn, if_neg hn, Gq.add_zero]
theorem qcf_zeros (m : Fp p) (k n : Nat) : qcf m (List.replicate k 0) n = 0 := by
  unfold qcf cS
  rw [List.getElem?_replicate]
  split <;> rfl
theorem byIn_q [IsP p] {m x : Fp p} (hm : Fld m) {b : List (Fp p)} (hb : ∀ c ∈ b, c.len < m.len) {i n : Nat} {Q : List (Fp p)} (h : i + b.length ≤ Q.length) : qcf m (byIn m x i 0 b Q) n = qcf m Q n + (if i ≤ n then Quo.mk m x * sg i (qcf m b (n - i)) else 0) := by
  have h1 := Pol.len_pos hm.mon.2
  unfold qcf
  rw [byIn_cS 0 b Q (by omega), Nat.add_zero]
  have hl : (cS b (n - i)).len < m.len := by
    have := mem_cS (A := b) (N := m.len - 1) (fun c hc => by have := hb c hc; omega) (n - i)
    omega
  by_cases h0 : i ≤ n ∧ n < i + b.length
  · rw [if_pos h0, if_pos h0.1, Quo.mk_add, Pol.mk_mod, Quo.mk_mul, frIt_mod hm i hl, sg_mk]
  · rw [if_neg h0]
    split
    · rename_i h2
      rw [cS_ge (A := b) (by omega)]
      show _ = Quo.mk m (cS Q n) + Quo.mk m x * sg i 0
      rw [sg_zero, Gq.mul_zero, Gq.add_zero]
    · exact (Gq.add_zero _).symm
noncomputable def cmpIn [IsP p] (m : Fp p) (k : Nat) : Nat → List (Fp p) → Fp p → List (Fp p) → List (Fp p)
  | _, [], _, Q => Q
  | i, u :: us, w, Q => cmpIn m k (i + 1) us (pw w p.toNat % m) (addAt Q (i + k) (u * w % m))
noncomputable def cmpOut [IsP p] (m : Fp p) (us : List (Fp p)) : Nat → List (Fp p) → List (Fp p) → List (Fp p)
  | _, [], Q => Q
  | k, v :: vs, Q => cmpOut m us (k + 1) vs (cmpIn m k 0 us v Q)
theorem cmpIn_length [IsP p] (m : Fp p) (k : Nat) : ∀ (us : List (Fp p)) (i : Nat) (w : Fp p) (Q : List (Fp p)), (cmpIn m k i us w Q).length = Q.length
  | [], _, _, _ => rfl
  | u :: us, i, w, Q => by
    show (cmpIn m k (i + 1) us _ (addAt Q (i + k) _)).length = _
    rw [cmpIn_length m k us, addAt_length]
theorem cmpOut_length [IsP p] (m : Fp p) (us : List (Fp p)) : ∀ (vs : List (Fp p)) (k : Nat) (Q : List (Fp p)), (cmpOut m us k vs Q).length = Q.length
  | [], _, _ => rfl
  | v :: vs, k, Q => by
    show (cmpOut m us (k + 1) vs _).length = _
    rw [cmpOut_length m us vs, cmpIn_length]
theorem cmpIn_lens [IsP p] {m : Fp p} {N : Nat} (hm : m ≠ 0) (hN : m.len ≤ N + 1) (k : Nat) : ∀ (us : List (Fp p)) (i : Nat) (w : Fp p) (Q : List (Fp p)), (∀ c ∈ Q, c.len ≤ N) → ∀ c ∈ cmpIn m k i us w Q, c.len ≤ N
  | [], _, _, _, h => h
  | u :: us, i, w, Q, h => cmpIn_lens hm hN k us (i + 1) _ _ (addAt_lens h (by have := Pol.len_mod (u * w) hm; omega))
theorem cmpOut_lens [IsP p] {m : Fp p} {N : Nat} (hm : m ≠ 0) (hN : m.len ≤ N + 1) (us : List (Fp p)) : ∀ (vs : List (Fp p)) (k : Nat) (Q : List (Fp p)), (∀ c ∈ Q, c.len ≤ N) → ∀ c ∈ cmpOut m us k vs Q, c.len ≤ N
  | [], _, _, h => h
  | v :: vs, k, Q, h => cmpOut_lens hm hN us vs (k + 1) _ (cmpIn_lens hm hN k us 0 v Q h)
noncomputable def cmpS [IsP p] (m : Fp p) (us vs : List (Fp p)) : List (Fp p) := trimS (cmpOut m us 0 vs (List.replicate (us.length + vs.length) 0))
theorem cmp_lens [IsP p] {m : Fp p} (hm : m ≠ 0) (us vs : List (Fp p)) : ∀ c ∈ cmpS m us vs, c.len < m.len := fun c hc => by
  have h1 := Pol.len_pos hm
  have := cmpOut_lens (N := m.len - 1) hm (by omega) us vs 0 (List.replicate (us.length + vs.length) 0) (fun c hc => by rw [List.eq_of_mem_replicate hc, Pol.len_zero]; omega) c (List.mem_of_mem_take hc)
  omega
end
end Pe

namespace Pe
open Go Gq
variable {T : Nat → Option Fn} {A : Oracle}
theorem mem3 {p : Int} {t0 t1 t2 : Fp p} {n : Nat} (h0 : t0.len < n) (h1 : t1.len < n) (h2 : t2.len < n) : ∀ c ∈ [t0, t1, t2], c.len < n := fun c hc => by
  simp at hc
  rcases hc with rfl | rfl | rfl <;> assumption
section
variable {p : Int}
end
end Pe

namespace Pe
open Go Gq
variable {T : Nat → Option Fn} {A : Oracle}
noncomputable abbrev aD {p : Int} (L : List (Fp p)) : D := .sl (.arr 64 .leaf) ((skP L).map arr8)
theorem skA_get {p : Int} {L : List (Fp p)} {i : Nat} (h : i < L.length) : ((skP L).map arr8)[i]? = some (D.arr 64 .leaf (ints .u8 (pad (row L[i])))) := by
  unfold skP
  rw [List.getElem?_map, List.getElem?_map, List.getElem?_eq_getElem h]
  rfl
theorem skA_getE {p : Int} {L : List (Fp p)} {i : Nat} (h : i < L.length) : ∀ h' : i < ((skP L).map arr8).length, ((skP L).map arr8)[i]'h' = (D.arr 64 .leaf (ints .u8 (pad (row L[i])))) := fun h' => by
  have := skA_get h
  rw [List.getElem?_eq_getElem h'] at this
  exact Option.some.inj this
theorem skA_len {p : Int} (L : List (Fp p)) : ((skP L).map arr8).length = L.length := by unfold skP; rw [List.length_map, List.length_map]
theorem skA_take {p : Int} (L : List (Fp p)) (n : Nat) : ((skP L).map arr8).take n = (skP (L.take n)).map arr8 := by unfold skP; rw [← List.map_take, ← List.map_take]
theorem skA_set {p : Int} (L : List (Fp p)) (n : Nat) (c : Fp p) : (skP (L.set n c)).map arr8 = ((skP L).map arr8).set n (D.arr 64 .leaf (ints .u8 (pad (row c)))) := by unfold skP; rw [List.map_set, List.map_set]
theorem l_sTrim4 {O : Oracle} {p : Int} [IsP p] {L : List (Fp p)} (hl : ∀ c ∈ L, c.len ≤ 64) (hL : L.length ≤ 1000000) : ∀ n, n ≤ L.length →
    dn O 0 (.loop ir_spec_l04Trim_L0) ⟨[(0, .d (aD (L.take n)))], []⟩ = some (.exit 0, ⟨[(0, .d (aD (L.take (stl L n)))), (15, (.d (.bool false)))], []⟩)
  | 0, _ => by
    refine dn_stop ?_
    rw [List.take_zero, show aD ([] : List (Fp p)) = .sl (.arr 64 .leaf) [] from rfl, show stl L 0 = 0 from rfl, List.take_zero, show aD ([] : List (Fp p)) = .sl (.arr 64 .leaf) [] from rfl]
    simp -implicitDefEqProofs [ir_spec_l04Trim_L0, dn_cond]
  | n + 1, hn => by
    have hlt : n < L.length := by omega
    have hc := hl _ (List.getElem_mem hlt)
    have hg := skA_get (L := L.take (n + 1)) (i := n) (by rw [List.length_take]; omega)
    rw [List.getElem_take] at hg
    have hlen : ((skP (L.take (n + 1))).map arr8).length = n + 1 := by rw [skA_len, List.length_take]; omega
    have w1 : IntKind.i64.wrap (n : Int) = (n : Int) := w64 (by omega)
    have hpos : (0 : Int) < (n : Int) + 1 := by omega
    have hgE := skA_getE (L := L.take (n + 1)) (i := n) (by rw [List.length_take]; omega)
    rw [List.getElem_take] at hgE
    have heq := beq_P (l := pad (row L[n])) (m := pad []) (pad_length _) (pad_length _)
    by_cases h0 : L[n] = 0
    · have hst : stl L (n + 1) = stl L n := by
        conv => lhs; unfold stl
        rw [if_pos (by rw [List.getElem?_eq_getElem hlt, h0])]
      rw [hst]
      have ih := l_sTrim4 (O := O) hl hL n (by omega)
      rw [h0, row_zero, decide_eq_true rfl] at heq
      rw [h0, row_zero] at hg hgE
      have htk : ((skP (L.take (n + 1))).map arr8).take n = (skP (L.take n)).map arr8 := by
        rw [skA_take, List.take_take, Nat.min_eq_left (by omega)]
      refine dn_round ?_ ih
      show _ = some (_, (⟨[(0, .d (.sl (.arr 64 .leaf) ((skP (L.take n)).map arr8)))], _⟩ : St))
      show dn O 0 _ ⟨[(0, .d (.sl (.arr 64 .leaf) ((skP (L.take (n + 1))).map arr8)))], _⟩ = _
      generalize (skP (L.take n)).map arr8 = L1 at *
      generalize (skP (L.take (n + 1))).map arr8 = L2 at *
      simp -implicitDefEqProofs [ir_spec_l04Trim_L0, dn_cond, hgE, hlen, w1, hpos, heq, htk]
    · have hst : stl L (n + 1) = n + 1 := by
        conv => lhs; unfold stl
        rw [if_neg (by rw [List.getElem?_eq_getElem hlt]; exact fun h => h0 (Option.some.inj h))]
      rw [hst]
      have hne : ¬ pad (row L[n]) = pad [] := fun h => h0 ((pad_row_inj hc (by rw [Pol.len_zero]; omega)).1 (by rw [h, row_zero]))
      rw [decide_eq_false hne] at heq
      have key : ∀ (L2 : List D) (P1 : List Int), L2.length = n + 1 → (∀ h' : n < L2.length, L2[n]'h' = (D.arr 64 .leaf (ints .u8 P1))) → D.beq (.arr 64 .leaf .int) (D.arr 64 .leaf (ints .u8 P1)) (D.arr 64 .leaf (ints .u8 (pad []))) = some false →
          dn O 0 ir_spec_l04Trim_L0 ⟨[(0, .d (.sl (.arr 64 .leaf) L2))], []⟩ = some (.exit 0, ⟨[(0, .d (.sl (.arr 64 .leaf) L2)), (15, (.d (.bool false)))], []⟩) := by
        intro L2 P1 f1 f2 f3
        simp -implicitDefEqProofs [ir_spec_l04Trim_L0, dn_cond, f1, f2, w1, hpos, f3]
      exact dn_stop (key _ _ hlen hgE heq)
def K_sTrim4 (O : Oracle) : Prop := ∀ (p : Int) [IsP p] (L : List (Fp p)), (∀ c ∈ L, c.len ≤ 64) → L.length ≤ 1000000 → ask O F_spec_l04Trim [aD L] = some (aD (trimS L))
theorem k_sTrim4 (hT : T F_spec_l04Trim = some ir_spec_l04Trim) : K_sTrim4 (den T A) := by
  intro p ip L hl hL
  have e1 := l_sTrim4 (O := den T A) hl hL L.length (Nat.le_refl _)
  rw [List.take_length, show L.take (stl L L.length) = trimS L from rfl] at e1
  rw [show aD L = .sl (.arr 64 .leaf) ((skP L).map arr8) from rfl, show aD (trimS L) = .sl (.arr 64 .leaf) ((skP (trimS L)).map arr8) from rfl] at e1 ⊢
  refine ask_of hT rfl ?_
  generalize (skP (trimS L)).map arr8 = L1 at *
  generalize (skP L).map arr8 = L2 at *
  simp -implicitDefEqProofs [ir_spec_l04Trim, ir_spec_l04Trim_B, e1]
theorem l_cmpIn {O : Oracle} (hti : K_sTimes6 O) (had : K_sAdd O) (hup : K_sUp6 O) {p : Int} [IsP p] {m : Fp p} {v1 v2 : List Int} (hm : m ≠ 0) (hml : m.len ≤ 64) {us : List (Fp p)} (hus : ∀ c ∈ us, c.len ≤ 64) {VD : D} {N k : Nat} (hN : N ≤ 1000) (hk : us.length + k ≤ N) : ∀ (r i : Nat) (w : Fp p) (Q : List (Fp p)), i + r = us.length → Q.length = N → (∀ c ∈ Q, c.len ≤ 64) → w.len ≤ 64 → ∃ w' : List Int,
    dn O 0 (.loop ir_spec_l06Compose_L0) ⟨[(1, .d (aD us)), (2, .d VD), (3, .ptr 0 []), (7, .sl 1 [] 0 N (some N)), (8, (.d (.int .i64 k))), (9, .ptr 2 []), (10, (.d (.int .i64 i)))], [.box false (drD p (pad (row m)) v1 v2), .sl false (.arr 64 .leaf) ((skP Q).map arr8), .box false (D.arr 64 .leaf (ints .u8 (pad (row w))))]⟩ =
      some (.exit 2, ⟨[(1, .d (aD us)), (2, .d VD), (3, .ptr 0 []), (7, .sl 1 [] 0 N (some N)), (8, (.d (.int .i64 k))), (9, .ptr 2 []), (10, (.d (.int .i64 us.length))), (30, (.d (.bool false)))], [.box false (drD p (pad (row m)) v1 v2), .sl false (.arr 64 .leaf) ((skP (cmpIn m k i (us.drop i) w Q)).map arr8), .box false (D.arr 64 .leaf (ints .u8 w'))]⟩)
  | 0, i, w, Q, hi, hq, hQ, hw => by
    obtain rfl : i = us.length := by omega
    rw [List.drop_length]
    refine ⟨pad (row w), dn_stop ?_⟩
    have hUL := skA_len us
    show dn O 0 _ ⟨[(1, .d (.sl (.arr 64 .leaf) ((skP us).map arr8))), _, _, _, _, _, _], _⟩ = some (_, (⟨[(1, .d (.sl (.arr 64 .leaf) ((skP us).map arr8))), _, _, _, _, _, _, _], [_, .sl false (.arr 64 .leaf) ((skP Q).map arr8), _]⟩ : St))
    generalize (skP us).map arr8 = UD at *
    generalize (skP Q).map arr8 = QD at *
    generalize pad (row w) = Pw at *
    simp -implicitDefEqProofs [ir_spec_l06Compose_L0, dn_cond, hUL]
  | r + 1, i, w, Q, hi, hq, hQ, hw => by
    have hlt : i < us.length := by omega
    have hik : i + k < N := by omega
    have hikQ : i + k < Q.length := by omega
    have hu1 := hus _ (List.getElem_mem hlt)
    have hq1 := hQ _ (List.getElem_mem hikQ)
    have hUL := skA_len us
    have hQL : ((skP Q).map arr8).length = N := (skA_len Q).trans hq
    have g1 := skA_get hlt
    have g2 := skA_get hikQ
    have g1E := skA_getE hlt
    have g2E := skA_getE hikQ
    have e1 := hti p m us[i] w v1 v2 hm hml hu1 hw
    have l1 := Pol.len_mod (us[i] * w) hm
    have e2 := had p 1 Q[i + k] (us[i] * w % m) (by omega) (by omega) hq1 (by omega)
    rw [zp_one, Pol.C_one, Gq.one_mul] at e2
    have e3 := hup p m w v1 v2 1 hm hml hw (by omega)
    rw [show frIt m 1 w = pw w p.toNat % m from rfl, show ((1 : Nat) : Int) = 1 from rfl] at e3
    have l2 := Pol.len_mod (pw w p.toNat) hm
    have hadd : addAt Q (i + k) (us[i] * w % m) = Q.set (i + k) (Q[i + k] + us[i] * w % m) := by
      unfold addAt; rw [List.getElem?_eq_getElem hikQ]; rfl
    have hQ' : ∀ c ∈ addAt Q (i + k) (us[i] * w % m), c.len ≤ 64 := addAt_lens hQ (by omega)
    have w0 : IntKind.i64.wrap ((i : Int) + k) = ((i + k : Nat) : Int) := (w64 (x := (i : Int) + k) (by omega)).trans (by omega)
    have hs0 : (0 : Int) ≤ (i : Int) + k := by omega
    have hs1 : ((i : Int) + k).toNat = i + k := by omega
    have w4 : IntKind.i64.wrap ((i : Int) + 1) = ((i + 1 : Nat) : Int) := (w64 (x := (i : Int) + 1) (by omega)).trans (by omega)
    have hlt' : (i : Int) < us.length := by omega
    obtain ⟨w', ih⟩ := l_cmpIn hti had hup hm hml hus (VD := VD) hN hk (v1 := v1) (v2 := v2) r (i + 1) (pw w p.toNat % m) (addAt Q (i + k) (us[i] * w % m)) (by omega) (by rw [addAt_length]; exact hq) hQ' (by omega)
    have hby : cmpIn m k i (us.drop i) w Q = cmpIn m k (i + 1) (us.drop (i + 1)) (pw w p.toNat % m) (addAt Q (i + k) (us[i] * w % m)) := by
      rw [List.drop_eq_getElem_cons hlt]; rfl
    rw [hby]
    refine ⟨w', dn_round ?_ ih⟩
    rw [hadd, skA_set]
    show dn O 0 _ ⟨[(1, .d (.sl (.arr 64 .leaf) ((skP us).map arr8))), _, _, _, _, _, _], _⟩ = some (_, (⟨[(1, .d (.sl (.arr 64 .leaf) ((skP us).map arr8))), _, _, _, _, _, _], _⟩ : St))
    generalize pad (row (Q[i + k] + us[i] * w % m)) = P1 at *
    generalize pad (row (us[i] * w % m)) = P2 at *
    generalize pad (row us[i]) = P3 at *
    generalize pad (row Q[i + k]) = P4 at *
    generalize pad (row (pw w p.toNat % m)) = P5 at *
    generalize pad (row w) = Pw at *
    generalize (skP us).map arr8 = UD at *
    generalize (skP Q).map arr8 = QD at *
    generalize pad (row m) = Pm at *
    simp -implicitDefEqProofs [ir_spec_l06Compose_L0, dn_cond, hUL, hQL, hlt, hlt', hik, hs0, hs1, g1E, g2E, e1, e2, e3, w0, w4]
theorem l_cmpOut {O : Oracle} (hti : K_sTimes6 O) (had : K_sAdd O) (hup : K_sUp6 O) {p : Int} [IsP p] {m : Fp p} {v1 v2 : List Int} (hm : m ≠ 0) (hml : m.len ≤ 64) {us vs : List (Fp p)} (hus : ∀ c ∈ us, c.len ≤ 64) (hvs : ∀ c ∈ vs, c.len ≤ 64) {N : Nat} (hN : N ≤ 1000) (hk : us.length + vs.length ≤ N) : ∀ (r k : Nat) (Q : List (Fp p)), k + r = vs.length → Q.length = N → (∀ c ∈ Q, c.len ≤ 64) →
    dn O 0 (.loop ir_spec_l06Compose_L1) ⟨[(1, .d (aD us)), (2, .d (aD vs)), (3, .ptr 0 []), (7, .sl 1 [] 0 N (some N)), (8, (.d (.int .i64 k)))], [.box false (drD p (pad (row m)) v1 v2), .sl false (.arr 64 .leaf) ((skP Q).map arr8), .hole]⟩ =
      some (.exit 0, ⟨[(1, .d (aD us)), (2, .d (aD vs)), (3, .ptr 0 []), (7, .sl 1 [] 0 N (some N)), (8, (.d (.int .i64 vs.length))), (20, (.d (.bool false)))], [.box false (drD p (pad (row m)) v1 v2), .sl false (.arr 64 .leaf) ((skP (cmpOut m us k (vs.drop k) Q)).map arr8), .hole]⟩)
  | 0, k, Q, hi, hq, hQ => by
    obtain rfl : k = vs.length := by omega
    rw [List.drop_length]
    refine dn_stop ?_
    have hVL := skA_len vs
    show dn O 0 _ ⟨[_, (2, .d (.sl (.arr 64 .leaf) ((skP vs).map arr8))), _, _, _], _⟩ = some (_, (⟨[_, (2, .d (.sl (.arr 64 .leaf) ((skP vs).map arr8))), _, _, _, _], [_, .sl false (.arr 64 .leaf) ((skP Q).map arr8), _]⟩ : St))
    generalize aD us = UD at *
    generalize (skP vs).map arr8 = VD at *
    generalize (skP Q).map arr8 = QD at *
    simp -implicitDefEqProofs [ir_spec_l06Compose_L1, dn_cond, hVL]
  | r + 1, k, Q, hi, hq, hQ => by
    have hlt : k < vs.length := by omega
    have hv1 := hvs _ (List.getElem_mem hlt)
    have hVL := skA_len vs
    have g1 := skA_get hlt
    have g1E := skA_getE hlt
    have w4 : IntKind.i64.wrap ((k : Int) + 1) = ((k + 1 : Nat) : Int) := (w64 (x := (k : Int) + 1) (by omega)).trans (by omega)
    have hlt' : (k : Int) < vs.length := by omega
    obtain ⟨w', e1⟩ := l_cmpIn hti had hup hm hml hus (VD := aD vs) hN (k := k) (by omega) (v1 := v1) (v2 := v2) us.length 0 vs[k] Q (by omega) hq hQ hv1
    rw [List.drop_zero, show ((0 : Nat) : Int) = 0 from rfl] at e1
    have hQ' : ∀ c ∈ cmpIn m k 0 us vs[k] Q, c.len ≤ 64 := cmpIn_lens (N := 64) hm (by omega) k us 0 vs[k] Q hQ
    have ih := l_cmpOut hti had hup hm hml hus hvs hN hk (v1 := v1) (v2 := v2) r (k + 1) (cmpIn m k 0 us vs[k] Q) (by omega) (by rw [cmpIn_length]; exact hq) hQ'
    have hby : cmpOut m us k (vs.drop k) Q = cmpOut m us (k + 1) (vs.drop (k + 1)) (cmpIn m k 0 us vs[k] Q) := by
      rw [List.drop_eq_getElem_cons hlt]; rfl
    rw [hby]
    refine dn_round ?_ ih
    rw [show aD vs = .sl (.arr 64 .leaf) ((skP vs).map arr8) from rfl] at e1 ⊢
    generalize aD us = UD at *
    generalize (skP (cmpIn m k 0 us vs[k] Q)).map arr8 = Q2 at *
    generalize (skP vs).map arr8 = VD at *
    generalize (skP Q).map arr8 = QD at *
    generalize pad (row vs[k]) = P1 at *
    generalize pad (row m) = Pm at *
    simp -implicitDefEqProofs [ir_spec_l06Compose_L1, dn_cond, hVL, hlt, hlt', g1E, e1, w4]
def K_sComp (O : Oracle) : Prop := ∀ (p : Int) [IsP p] (m : Fp p) (v1 v2 : List Int) (us vs : List (Fp p)), m ≠ 0 → m.len ≤ 64 → (∀ c ∈ us, c.len ≤ 64) → (∀ c ∈ vs, c.len ≤ 64) → us.length + vs.length ≤ 1000 → ask O F_spec_l06Compose [drD p (pad (row m)) v1 v2, aD us, aD vs] = some (aD (cmpS m us vs))
theorem skA_zeros (p : Int) (n : Nat) : (skP (List.replicate n (0 : Fp p))).map arr8 = List.replicate n (D.arr 64 .leaf (ints .u8 (pad []))) := by
  unfold skP
  rw [List.map_replicate, List.map_replicate, row_zero]
theorem k_sComp (hT : T F_spec_l06Compose = some ir_spec_l06Compose) (hti : K_sTimes6 (den T A)) (had : K_sAdd (den T A)) (hup : K_sUp6 (den T A)) (htr : K_sTrim4 (den T A)) : K_sComp (den T A) := by
  intro p ip m v1 v2 us vs hm hml hus hvs hN
  have hz : ∀ c ∈ List.replicate (us.length + vs.length) (0 : Fp p), c.len ≤ 64 := fun c hc => by rw [List.eq_of_mem_replicate hc, Pol.len_zero]; omega
  have e1 := l_cmpOut (O := den T A) hti had hup hm hml hus hvs hN (Nat.le_refl _) (v1 := v1) (v2 := v2) vs.length 0 (List.replicate (us.length + vs.length) 0) (by omega) List.length_replicate hz
  rw [List.drop_zero, show ((0 : Nat) : Int) = 0 from rfl, skA_zeros] at e1
  have e2 := htr p (cmpOut m us 0 vs (List.replicate (us.length + vs.length) 0)) (cmpOut_lens (N := 64) hm (by omega) us vs 0 _ hz) (by rw [cmpOut_length, List.length_replicate]; omega)
  rw [show trimS (cmpOut m us 0 vs (List.replicate (us.length + vs.length) 0)) = cmpS m us vs from rfl] at e2
  have hUL := skA_len us
  have hVL := skA_len vs
  have hOL : ((skP (cmpOut m us 0 vs (List.replicate (us.length + vs.length) 0))).map arr8).length = us.length + vs.length := by rw [skA_len, cmpOut_length, List.length_replicate]
  have w1 : IntKind.i64.wrap ((us.length : Int) + vs.length) = ((us.length + vs.length : Nat) : Int) := (w64 (x := (us.length : Int) + vs.length) (by omega)).trans (by omega)
  have hmul : (us.length + vs.length) * 64 ≤ 1099511627776 := by omega
  have hs0 : (0 : Int) ≤ (us.length : Int) + vs.length := by omega
  have hs1 : ((us.length : Int) + vs.length).toNat = us.length + vs.length := by omega
  rw [show aD us = .sl (.arr 64 .leaf) ((skP us).map arr8) from rfl, show aD vs = .sl (.arr 64 .leaf) ((skP vs).map arr8) from rfl] at e1 ⊢
  rw [show aD (cmpS m us vs) = .sl (.arr 64 .leaf) ((skP (cmpS m us vs)).map arr8) from rfl] at e2 ⊢
  rw [show aD (cmpOut m us 0 vs (List.replicate (us.length + vs.length) 0)) = .sl (.arr 64 .leaf) ((skP (cmpOut m us 0 vs (List.replicate (us.length + vs.length) 0))).map arr8) from rfl] at e2
  have htk : ((skP (cmpOut m us 0 vs (List.replicate (us.length + vs.length) 0))).map arr8).take (us.length + vs.length) = (skP (cmpOut m us 0 vs (List.replicate (us.length + vs.length) 0))).map arr8 := List.take_of_length_le (by omega)
  refine ask_of hT rfl ?_
  generalize (skP (cmpS m us vs)).map arr8 = CD at *
  generalize (skP (cmpOut m us 0 vs (List.replicate (us.length + vs.length) 0))).map arr8 = OD at *
  generalize (skP us).map arr8 = UD at *
  generalize (skP vs).map arr8 = VD at *
  generalize us.length = nu at *
  generalize vs.length = nv at *
  generalize pad (row m) = Pm at *
  simp -implicitDefEqProofs [ir_spec_l06Compose, ir_spec_l06Compose_B, hUL, hVL, hOL, w1, hmul, hs0, hs1, htk, e1, e2]
def K_sT6 (O : Oracle) : Prop := ∀ (p : Int) [IsP p] (m g d : Fp p), m ≠ 0 → m.len ≤ 64 → ask O F_spec_l06T [drD p (pad (row m)) (pad (row g)) (pad (row d))] = some (aD [Pol.X % m, g, d])
theorem k_sT6 (hT : T F_spec_l06T = some ir_spec_l06T) (ht : K_sT (den T A)) (hmo : K_sMod (den T A)) : K_sT6 (den T A) := by
  intro p ip m g d hm hml
  have e1 := ht p
  have e2 := hmo p Pol.X m hm (by rw [Pol.len_X]; omega) hml
  rw [show aD [Pol.X % m, g, d] = .sl (.arr 64 .leaf) [(D.arr 64 .leaf (ints .u8 (pad (row (Pol.X % m))))), (D.arr 64 .leaf (ints .u8 (pad (row g)))), (D.arr 64 .leaf (ints .u8 (pad (row d))))] from rfl]
  refine ask_of hT rfl ?_
  generalize pad (row (Pol.X % m)) = P1 at *
  generalize pad (row (Pol.X : Fp p)) = P2 at *
  generalize pad (row m) = Pm at *
  generalize pad (row g) = Pg at *
  generalize pad (row d) = Pd at *
  simp -implicitDefEqProofs [ir_spec_l06T, ir_spec_l06T_B, e1, e2, List.replicate]
end Pe

namespace Pe
open Go Gq
variable {T : Nat → Option Fn} {A : Oracle}
end Pe



namespace Pe
open Go Gq
variable {T : Nat → Option Fn} {A : Oracle}
section
variable {p : Int}
end
end Pe

namespace Pe
open Go Gq
section
variable {p : Int}
/-- A sum over the places below n. -/
noncomputable def sumq {m : Fp p} (f : Nat → Quo m) : Nat → Quo m
  | 0 => 0
  | n + 1 => sumq f n + f n
theorem sumq_congr {m : Fp p} {f g : Nat → Quo m} : ∀ n, (∀ i, i < n → f i = g i) → sumq f n = sumq g n
  | 0, _ => rfl
  | n + 1, h => by
    show sumq f n + f n = sumq g n + g n
    rw [sumq_congr n fun i hi => h i (by omega), h n (by omega)]
theorem sumq_front {m : Fp p} (f : Nat → Quo m) : ∀ n, sumq f (n + 1) = f 0 + sumq (fun i => f (i + 1)) n
  | 0 => by
    show 0 + f 0 = f 0 + 0
    rw [Gq.zero_add, Gq.add_zero]
  | n + 1 => by
    show sumq f (n + 1) + f (n + 1) = f 0 + (sumq (fun i => f (i + 1)) n + f (n + 1))
    rw [sumq_front f n, Gq.add_assoc]
theorem sumq_rev {m : Fp p} (f : Nat → Quo m) : ∀ n, sumq (fun i => f (n - 1 - i)) n = sumq f n
  | 0 => rfl
  | n + 1 => by
    rw [sumq_front]
    show f (n + 1 - 1 - 0) + sumq (fun i => f (n + 1 - 1 - (i + 1))) n = sumq f n + f n
    rw [sumq_congr (g := fun i => f (n - 1 - i)) n (fun i hi => by show f _ = f _; congr 1; omega), sumq_rev f n, Gq.add_comm, show n + 1 - 1 - 0 = n by omega]
theorem sumq_zero {m : Fp p} {f : Nat → Quo m} : ∀ n, (∀ i, i < n → f i = 0) → sumq f n = 0
  | 0, _ => rfl
  | n + 1, h => by
    show sumq f n + f n = 0
    rw [sumq_zero n fun i hi => h i (by omega), h n (by omega), Gq.add_zero]
theorem sumq_cut {m : Fp p} {f : Nat → Quo m} {N : Nat} : ∀ k, (∀ i, N ≤ i → f i = 0) → sumq f (N + k) = sumq f N
  | 0, _ => rfl
  | k + 1, h => by
    show sumq f (N + k) + f (N + k) = _
    rw [sumq_cut k h, h _ (by omega), Gq.add_zero]
/-- The product. -/
noncomputable def cv {m : Fp p} (X Y : Nat → Quo m) (n : Nat) : Quo m := sumq (fun i => X i * sg i (Y (n - i))) (n + 1)
/-- A sum over a list's places, cut at n, is the sum over the places up to n. -/
theorem sumq_list {m : Fp p} {f : Nat → Quo m} {L n : Nat} (h : ∀ i, L ≤ i → f i = 0) : sumq (fun i => if i ≤ n then f i else 0) L = sumq f (n + 1) := by
  have e1 : sumq (fun i => if i ≤ n then f i else 0) (n + 1) = sumq f (n + 1) := sumq_congr _ fun i hi => by rw [if_pos (by omega)]
  rw [← e1]
  rcases Nat.le_total L (n + 1) with hl | hl
  · obtain ⟨k, hk⟩ : ∃ k, n + 1 = L + k := ⟨n + 1 - L, by omega⟩
    rw [hk]
    refine (sumq_cut k fun i hi => ?_).symm
    rw [h i hi, ite_self]
  · obtain ⟨k, rfl⟩ : ∃ k, L = n + 1 + k := ⟨L - (n + 1), by omega⟩
    exact sumq_cut k fun i hi => if_neg (by omega)
theorem byOut_cv [IsP p] {m : Fp p} (hm : Fld m) {b : List (Fp p)} (hb : ∀ c ∈ b, c.len < m.len) {n : Nat} : ∀ (A : List (Fp p)) (i : Nat) (Q : List (Fp p)), i + A.length + b.length ≤ Q.length + 1 → qcf m (byOut m b i A Q) n = qcf m Q n + sumq (fun j => if i + j ≤ n then qcf m A j * sg (i + j) (qcf m b (n - (i + j))) else 0) A.length
  | [], i, Q, _ => by
    show qcf m Q n = qcf m Q n + 0
    rw [Gq.add_zero]
  | x :: xs, i, Q, h => by
    rw [List.length_cons] at h
    show qcf m (byOut m b (i + 1) xs (byIn m x i 0 b Q)) n = _
    rw [byOut_cv hm hb xs (i + 1) _ (by rw [byIn_length]; omega), byIn_q hm hb (by omega), List.length_cons, sumq_front, Gq.add_assoc]
    have e : sumq (fun j => if i + 1 + j ≤ n then qcf m xs j * sg (i + 1 + j) (qcf m b (n - (i + 1 + j))) else 0) xs.length = sumq (fun j => if i + (j + 1) ≤ n then qcf m (x :: xs) (j + 1) * sg (i + (j + 1)) (qcf m b (n - (i + (j + 1)))) else 0) xs.length := sumq_congr _ fun j _ => by
      show (if i + 1 + j ≤ n then qcf m xs j * sg (i + 1 + j) (qcf m b (n - (i + 1 + j))) else 0) = if i + (j + 1) ≤ n then qcf m xs j * sg (i + (j + 1)) (qcf m b (n - (i + (j + 1)))) else 0
      rw [show i + 1 + j = i + (j + 1) by omega]
    rw [e]
    rfl
theorem prod_cv [IsP p] {m : Fp p} (hm : Fld m) {b : List (Fp p)} (hb : ∀ c ∈ b, c.len < m.len) (A : List (Fp p)) (n : Nat) : qcf m (prodS m A b) n = cv (qcf m A) (qcf m b) n := by
  unfold prodS
  split
  · rename_i h0
    show (0 : Quo m) = _
    refine (sumq_zero _ fun i _ => ?_).symm
    rcases h0 with h0 | h0
    · rw [qcf_ge (by omega), Gq.zero_mul]
    · rw [qcf_ge (A := b) (by omega), sg_zero, Gq.mul_zero]
  · rename_i h0
    have e : qcf m (trimS (mulS m A b)) n = qcf m (mulS m A b) n := by unfold qcf; rw [cS_trim]
    rw [e]
    unfold mulS
    rw [byOut_cv hm hb A 0 _ (by rw [List.length_replicate]; omega), qcf_zeros, Gq.zero_add]
    have e2 : sumq (fun j => if 0 + j ≤ n then qcf m A j * sg (0 + j) (qcf m b (n - (0 + j))) else 0) A.length = sumq (fun j => if j ≤ n then qcf m A j * sg j (qcf m b (n - j)) else 0) A.length := sumq_congr _ fun j _ => by rw [Nat.zero_add]
    rw [e2]
    exact sumq_list fun i hi => by rw [qcf_ge hi, Gq.zero_mul]
theorem cmpIn_cv [IsP p] {m : Fp p} {k n : Nat} : ∀ (us : List (Fp p)) (i : Nat) (w : Fp p) (Q : List (Fp p)), i + us.length + k ≤ Q.length → qcf m (cmpIn m k i us w Q) n = qcf m Q n + (if i + k ≤ n then qcf m us (n - (i + k)) * sg (n - (i + k)) (Quo.mk m w) else 0)
  | [], i, w, Q, _ => by
    show qcf m Q n = _
    rw [qcf_nil, Gq.zero_mul, ite_self, Gq.add_zero]
  | u :: us, i, w, Q, h => by
    rw [List.length_cons] at h
    have e1 : Quo.mk m (pw w p.toNat % m) = pw (Quo.mk m w) p.toNat := by rw [Pol.mk_mod, Quo.mk_pow]
    show qcf m (cmpIn m k (i + 1) us (pw w p.toNat % m) (addAt Q (i + k) (u * w % m))) n = _
    rw [cmpIn_cv us (i + 1) _ _ (by rw [addAt_length]; omega), qcf_set (by omega), e1, Pol.mk_mod, Quo.mk_mul]
    rcases Nat.lt_trichotomy n (i + k) with h1 | h1 | h1
    · rw [if_neg (by omega), if_neg (by omega), if_neg (by omega)]
      simp only [Gq.add_zero]
    · subst h1
      rw [if_pos rfl, if_neg (by omega), if_pos (by omega), Nat.sub_self, Gq.add_zero]
      rfl
    · rw [if_neg (by omega), if_pos (by omega), if_pos (by omega), show n - (i + k) = (n - (i + 1 + k)) + 1 by omega, Gq.add_zero]
      rfl
theorem cmpOut_cv [IsP p] {m : Fp p} {us : List (Fp p)} {n : Nat} : ∀ (vs : List (Fp p)) (k : Nat) (Q : List (Fp p)), us.length + k + vs.length ≤ Q.length + 1 → qcf m (cmpOut m us k vs Q) n = qcf m Q n + sumq (fun j => if k + j ≤ n then qcf m us (n - (k + j)) * sg (n - (k + j)) (qcf m vs j) else 0) vs.length
  | [], k, Q, _ => by
    show qcf m Q n = qcf m Q n + 0
    rw [Gq.add_zero]
  | v :: vs, k, Q, h => by
    rw [List.length_cons] at h
    show qcf m (cmpOut m us (k + 1) vs (cmpIn m k 0 us v Q)) n = _
    rw [cmpOut_cv vs (k + 1) _ (by rw [cmpIn_length]; omega), cmpIn_cv us 0 _ _ (by omega), List.length_cons, sumq_front, Gq.add_assoc]
    have e : sumq (fun j => if k + 1 + j ≤ n then qcf m us (n - (k + 1 + j)) * sg (n - (k + 1 + j)) (qcf m vs j) else 0) vs.length = sumq (fun j => if k + (j + 1) ≤ n then qcf m us (n - (k + (j + 1))) * sg (n - (k + (j + 1))) (qcf m (v :: vs) (j + 1)) else 0) vs.length := sumq_congr _ fun j _ => by
      show (if k + 1 + j ≤ n then qcf m us (n - (k + 1 + j)) * sg (n - (k + 1 + j)) (qcf m vs j) else 0) = if k + (j + 1) ≤ n then qcf m us (n - (k + (j + 1))) * sg (n - (k + (j + 1))) (qcf m vs j) else 0
      rw [show k + 1 + j = k + (j + 1) by omega]
    rw [e, Nat.zero_add]
    rfl
theorem cmp_cv [IsP p] {m : Fp p} (us vs : List (Fp p)) (n : Nat) : qcf m (cmpS m us vs) n = cv (qcf m us) (qcf m vs) n := by
  have e : qcf m (cmpS m us vs) n = qcf m (cmpOut m us 0 vs (List.replicate (us.length + vs.length) 0)) n := by unfold qcf cmpS; rw [cS_trim]
  rw [e, cmpOut_cv vs 0 _ (by rw [List.length_replicate]; omega), qcf_zeros, Gq.zero_add]
  have e2 : sumq (fun j => if 0 + j ≤ n then qcf m us (n - (0 + j)) * sg (n - (0 + j)) (qcf m vs j) else 0) vs.length = sumq (fun j => if j ≤ n then qcf m us (n - j) * sg (n - j) (qcf m vs j) else 0) vs.length := sumq_congr _ fun j _ => by rw [Nat.zero_add]
  rw [e2, sumq_list fun i hi => by rw [qcf_ge hi, sg_zero, Gq.mul_zero]]
  unfold cv
  rw [← sumq_rev (fun i => qcf m us i * sg i (qcf m vs (n - i))) (n + 1)]
  exact sumq_congr _ fun i hi => by
    show _ = qcf m us (n + 1 - 1 - i) * sg (n + 1 - 1 - i) (qcf m vs (n - (n + 1 - 1 - i)))
    rw [show n + 1 - 1 - i = n - i by omega, show n - (n - i) = i by omega]
/-- Both programs' products are one. -/
theorem prod_cmp [IsP p] {m : Fp p} (hm : Fld m) {A B A' B' : List (Fp p)} (hb : ∀ c ∈ B, c.len < m.len) (hA : ∀ i, cS A i = cS A' i) (hB : ∀ i, cS B i = cS B' i) : prodS m A B = cmpS m A' B' := by
  have h1 := Pol.len_pos hm.mon.2
  refine trim_ext (isTrim_prod _ _ _) (isTrim_trim _) fun i => qcf_eq hm.mon.2 ?_ ?_ ?_
  · have := mem_cS (N := m.len - 1) (fun c hc => prodS_lens' (a := A) (b := B) hm.mon.2 (by omega) c hc) i
    omega
  · have := mem_cS (N := m.len - 1) (fun c hc => by have := cmp_lens hm.mon.2 A' B' c hc; omega) i
    exact Nat.lt_of_le_of_lt this (by omega)
  · rw [prod_cv hm hb]
    show _ = qcf m (cmpS m A' B') i
    rw [cmp_cv, show qcf m A = qcf m A' from funext fun j => by unfold qcf; rw [hA], show qcf m B = qcf m B' from funext fun j => by unfold qcf; rw [hB]]
end
end Pe

namespace Pe
open Go Gq
variable {T : Nat → Option Fn} {A : Oracle}
open Classical in
noncomputable def codePr (n : Int) (u v w : List Int) (n' : Int) (u' v' w' : List Int) : Int := if IsDr n u v w ∧ IsDr n' u' v' w' then (if n = n' ∧ u = u' then 0 else 2) else 1
def C_pair (O : Oracle) (F : Nat) : Prop := ∀ (n : Int) (u v w : List Int) (n' : Int) (u' v' w' : List Int), Bytes u → u.length = 64 → Bytes v → v.length = 64 → Bytes w → w.length = 64 → Bytes u' → u'.length = 64 → Bytes v' → v'.length = 64 → Bytes w' → w'.length = 64 → ask O F [drD n u v w, drD n' u' v' w'] = some (D.int .i64 (codePr n u v w n' u' v' w'))
open Classical in
theorem c_pair (hT : T F_impl_pairCode = some ir_impl_pairCode) (hd : C_IsDr (den T A) F_impl_IsDrinfeld) : C_pair (den T A) F_impl_pairCode := by
  intro n u v w n' u' v' w' bu gu bv gv bw gw bu' gu' bv' gv' bw' gw'
  have e1 := hd n u v w bu gu bv gv bw gw
  have e2 := hd n' u' v' w' bu' gu' bv' gv' bw' gw'
  have e3 := beq_P gu gu'
  unfold codePr
  refine ask_of hT rfl ?_
  by_cases h1 : IsDr n u v w
  · rw [decide_eq_true h1] at e1
    by_cases h2 : IsDr n' u' v' w'
    · rw [decide_eq_true h2] at e2
      rw [if_pos ⟨h1, h2⟩]
      by_cases h3 : n = n'
      · subst h3
        by_cases h4 : u = u'
        · rw [decide_eq_true h4] at e3
          rw [if_pos ⟨rfl, h4⟩]
          simp -implicitDefEqProofs [ir_impl_pairCode, ir_impl_pairCode_B, dn_cond, e1, e2, e3]
        · rw [decide_eq_false h4] at e3
          rw [if_neg fun h => h4 h.2]
          simp -implicitDefEqProofs [ir_impl_pairCode, ir_impl_pairCode_B, dn_cond, e1, e2, e3]
      · rw [if_neg fun h => h3 h.1]
        simp -implicitDefEqProofs [ir_impl_pairCode, ir_impl_pairCode_B, dn_cond, e1, e2, h3]
    · rw [decide_eq_false h2] at e2
      rw [if_neg fun h => h2 h.2]
      simp -implicitDefEqProofs [ir_impl_pairCode, ir_impl_pairCode_B, dn_cond, e1, e2]
  · rw [decide_eq_false h1] at e1
    rw [if_neg fun h => h1 h.1]
    simp -implicitDefEqProofs [ir_impl_pairCode, ir_impl_pairCode_B, dn_cond, e1]
open Classical in
theorem c_sPair (hT : T F_spec_l06Both = some ir_spec_l06Both) (hd : C_IsDr (den T A) F_spec_l06Is) : C_pair (den T A) F_spec_l06Both := by
  intro n u v w n' u' v' w' bu gu bv gv bw gw bu' gu' bv' gv' bw' gw'
  have e1 := hd n u v w bu gu bv gv bw gw
  have e2 := hd n' u' v' w' bu' gu' bv' gv' bw' gw'
  have e3 := beq_P gu gu'
  unfold codePr
  refine ask_of hT rfl ?_
  by_cases h1 : IsDr n u v w
  · rw [decide_eq_true h1] at e1
    by_cases h2 : IsDr n' u' v' w'
    · rw [decide_eq_true h2] at e2
      rw [if_pos ⟨h1, h2⟩]
      by_cases h3 : n = n'
      · subst h3
        by_cases h4 : u = u'
        · rw [decide_eq_true h4] at e3
          rw [if_pos ⟨rfl, h4⟩]
          simp -implicitDefEqProofs [ir_spec_l06Both, ir_spec_l06Both_B, dn_cond, e1, e2, e3]
        · rw [decide_eq_false h4] at e3
          rw [if_neg fun h => h4 h.2]
          simp -implicitDefEqProofs [ir_spec_l06Both, ir_spec_l06Both_B, dn_cond, e1, e2, e3]
      · rw [if_neg fun h => h3 h.1]
        simp -implicitDefEqProofs [ir_spec_l06Both, ir_spec_l06Both_B, dn_cond, e1, e2, h3]
    · rw [decide_eq_false h2] at e2
      rw [if_neg fun h => h2 h.2]
      simp -implicitDefEqProofs [ir_spec_l06Both, ir_spec_l06Both_B, dn_cond, e1, e2]
  · rw [decide_eq_false h1] at e1
    rw [if_neg fun h => h1 h.1]
    simp -implicitDefEqProofs [ir_spec_l06Both, ir_spec_l06Both_B, dn_cond, e1]
def isoP {p : Int} [IsP p] (m g d g' d' : Fp p) (U : List (Fp p)) : Prop := trimS U ≠ [] ∧ cmpS m U [Pol.X % m, g, d] = cmpS m [Pol.X % m, g', d'] U
open Classical in
noncomputable def isoD (n : Int) (u v w : List Int) (n' : Int) (u' v' w' : List Int) (ls : List (List Int)) : D :=
  if h : IsDr n u v w ∧ IsDr n' u' v' w' ∧ ls.all (isPl n) = true then
    haveI : IsP n := h.1.choose
    if n = n' ∧ u = u' ∧ 1 ≤ ls.length ∧ ls.length ≤ 6 ∧ IsSk (polOf n u) ls then
      .tup [(D.bool (decide (isoP (polOf n u) (polOf n v) (polOf n w) (polOf n v') (polOf n w') (ls.map (polOf n))))), (D.int .i64 0)]
    else .tup [(D.bool false), (D.int .i64 2)]
  else .tup [(D.bool false), (D.int .i64 1)]
theorem isoD_1 {n : Int} {u v w : List Int} {n' : Int} {u' v' w' : List Int} {ls : List (List Int)} (h : ¬ (IsDr n u v w ∧ IsDr n' u' v' w' ∧ ls.all (isPl n) = true)) : isoD n u v w n' u' v' w' ls = .tup [(D.bool false), (D.int .i64 1)] := by
  unfold isoD; rw [dif_neg h]
theorem isoD_2 {n : Int} {u v w : List Int} {n' : Int} {u' v' w' : List Int} {ls : List (List Int)} (h : IsDr n u v w ∧ IsDr n' u' v' w' ∧ ls.all (isPl n) = true) (h2 : ∀ _ip : IsP n, ¬ (n = n' ∧ u = u' ∧ 1 ≤ ls.length ∧ ls.length ≤ 6 ∧ IsSk (polOf n u) ls)) : isoD n u v w n' u' v' w' ls = .tup [(D.bool false), (D.int .i64 2)] := by
  unfold isoD; rw [dif_pos h, if_neg (h2 _)]
open Classical in
theorem isoD_3 {p : Int} [IsP p] {m g d g' d' : Fp p} {U : List (Fp p)} (h1 : IsDr p (pad (row m)) (pad (row g)) (pad (row d))) (h2 : IsDr p (pad (row m)) (pad (row g')) (pad (row d'))) (h3 : (skP U).all (isPl p) = true) (hm : m.len ≤ 64) (hg : g.len ≤ 64) (hd : d.len ≤ 64) (hg' : g'.len ≤ 64) (hd' : d'.len ≤ 64) (hU : ∀ c ∈ U, c.len < m.len) (hl1 : 1 ≤ U.length) (hl6 : U.length ≤ 6) : isoD p (pad (row m)) (pad (row g)) (pad (row d)) p (pad (row m)) (pad (row g')) (pad (row d')) (skP U) = .tup [(D.bool (decide (isoP m g d g' d' U))), (D.int .i64 0)] := by
  have hs : IsSk m (skP U) := fun l hl => by
    obtain ⟨c, hc, rfl⟩ := List.mem_map.1 hl
    exact ⟨c, hU c hc, rfl⟩
  unfold isoD
  rw [dif_pos ⟨h1, h2, h3⟩, polOf_pad hm, polOf_pad hg, polOf_pad hd, polOf_pad hg', polOf_pad hd', map_polOf (fun a ha => by have := hU a ha; omega), if_pos ⟨rfl, rfl, by rw [List.length_map]; exact hl1, by rw [List.length_map]; exact hl6, hs⟩]
theorem isoD_form (n : Int) (u v w : List Int) (n' : Int) (u' v' w' : List Int) (ls : List (List Int)) : ∃ (b : Bool) (k : Int), isoD n u v w n' u' v' w' ls = .tup [(D.bool b), (D.int .i64 k)] := by
  unfold isoD
  split
  · split
    · exact ⟨_, _, rfl⟩
    · exact ⟨_, _, rfl⟩
  · exact ⟨_, _, rfl⟩
theorem rows_of_isPl {p : Int} [IsP p] : ∀ {ls : List (List Int)}, Arrs ls → ls.all (isPl p) = true → ∃ S : List (Fp p), ls = skP S ∧ ∀ a ∈ S, a.len ≤ 64
  | [], _, _ => ⟨[], rfl, fun _ h => absurd h List.not_mem_nil⟩
  | l :: ls, h, ha => by
    rw [List.all_cons, Bool.and_eq_true] at ha
    obtain ⟨g1, b1⟩ := h l (by simp)
    obtain ⟨a, hal, rfl⟩ := row_of_isPl b1 g1 ha.1
    obtain ⟨S, rfl, hS⟩ := rows_of_isPl (fun x hx => h x (by simp [hx])) ha.2
    exact ⟨a :: S, rfl, by simpa using ⟨hal, hS⟩⟩
theorem plus_nil {p : Int} [IsP p] {A B : List (Fp p)} (hA : IsTrim A) (hB : IsTrim B) : (plusS (-1) A B).length = 0 ↔ A = B := by
  have hc : ∀ i, cS (plusS (-1) A B) i = cS A i - cS B i := fun i => by
    rw [cS_plus, show zp p (-1) = -1 from by rw [zp_neg, zp_one]]
    have : Pol.C (-1 : Zp p) = -1 := by rw [Pol.C_neg, Pol.C_one]
    rw [this]
    exact ring_of [cS A i, cS B i] rfl
  constructor
  · intro h
    refine trim_ext hA hB fun i => ?_
    have h1 := hc i
    rw [cS_ge (by omega)] at h1
    have h2 : cS A i = (cS A i - cS B i) + cS B i := ring_of [cS A i, cS B i] rfl
    rw [h2, ← h1, Gq.zero_add]
  · rintro rfl
    have : plusS (-1) A A = [] := trim_ext (isTrim_plus _ _ _) (fun n hn => by cases hn) fun i => by
      rw [hc, cS_nil]
      exact ring_of [cS A i] rfl
    rw [this]; rfl
def K_IsIso (O : Oracle) (F : Nat) : Prop := ∀ (n : Int) (u v w : List Int) (n' : Int) (u' v' w' : List Int) (ls : List (List Int)), Bytes u → u.length = 64 → Bytes v → v.length = 64 → Bytes w → w.length = 64 → Bytes u' → u'.length = 64 → Bytes v' → v'.length = 64 → Bytes w' → w'.length = 64 → Arrs ls → ls.length < 2000000 → ask O F [drD n u v w, drD n' u' v' w', .sl (.arr 64 .leaf) (ls.map arr8)] = some (isoD n u v w n' u' v' w' ls)
theorem isSk_pl {p : Int} [IsP p] {m : Fp p} (hm : m.len ≤ 64) {U : List (Fp p)} (hU : ∀ c ∈ U, c.len ≤ 64) : IsSk m (skP U) ↔ ∀ c ∈ U, c.len < m.len := by
  constructor
  · intro h c hc
    obtain ⟨a, ha, e⟩ := h _ (List.mem_map_of_mem hc)
    rw [(pad_row_inj (hU c hc) (by omega)).1 e]
    exact ha
  · intro h l hl
    obtain ⟨c, hc, rfl⟩ := List.mem_map.1 hl
    exact ⟨c, h c hc, rfl⟩
open Classical in
theorem k_IsIso (hT : T F_impl_IsIsogeny = some ir_impl_IsIsogeny) (hcd : C_drCode (den T A) F_impl_drinfeldCode) (hpr : C_pair (den T A) F_impl_pairCode) (hfi : K_drField (den T A)) (hwi : C_within (den T A)) (hir : C_isRes (den T A)) (hal : C_allOf (den T A) F_impl_areAll_impl_Poly (.arr 64 .leaf)) (hro : K_rows (den T A)) (htr : K_sktrim (den T A)) (hla : K_letterAction (den T A)) (hby : K_by2 (den T A)) (hpl : K_plus (den T A)) : K_IsIso (den T A) F_impl_IsIsogeny := by
  intro n u v w n' u' v' w' ls bu gu bv gv bw gw bu' gu' bv' gv' bw' gw' ha hl
  have e1 := hcd n u v w ls bu gu bv gv bw gw ha hl
  have e2 := hpr n u v w n' u' v' w' bu gu bv gv bw gw bu' gu' bv' gv' bw' gw'
  unfold codeDr at e1
  unfold codePr at e2
  by_cases h1 : IsDr n u v w ∧ ls.all (isPl n) = true
  · rw [if_pos h1] at e1
    obtain ⟨h1, hL⟩ := h1
    by_cases h2 : IsDr n' u' v' w'
    · rw [if_pos ⟨h1, h2⟩] at e2
      by_cases h3 : n = n' ∧ u = u'
      · rw [if_pos h3] at e2
        obtain ⟨rfl, rfl⟩ := h3
        have h1' := h1
        have h2' := h2
        obtain ⟨ip, m, g, d, rfl, rfl, rfl, hm, hg, hd, hd0⟩ := h1
        obtain ⟨ip', m', g', d', em, rfl, rfl, hm', hg', hd', hd0'⟩ := h2
        have h5 := hm.five
        have h5' := hm'.five
        have h0 := hm.mon.2
        have h2m := hm.two
        obtain rfl : m = m' := (pad_row_inj (by omega) (by omega)).1 em
        obtain ⟨U, rfl, hU⟩ := rows_of_isPl ha hL
        have e3 := hfi n m (pad (row g)) (pad (row d)) (by omega)
        have hLL : ((skP U).map arr8).length = U.length := by rw [List.length_map, List.length_map]
        have e4 := hwi (U.length : Int) 1 6
        by_cases h6 : 1 ≤ U.length ∧ U.length ≤ 6
        · rw [decide_eq_true (show (1 : Int) ≤ U.length ∧ (U.length : Int) ≤ 6 by omega)] at e4
          obtain ⟨P, hP, hF⟩ := fn_isRes (m := m) (by omega) ha hir
          have e5 := hal _ _ _ _ _ hF (fun x hx => by obtain ⟨n, _, rfl⟩ := List.mem_map.1 hx; rfl) (by rw [List.length_map]; exact hl)
          have hb : ((skP U).map arr8).all P = decide (IsSk m (skP U)) := by
            rw [Bool.eq_iff_iff, List.all_eq_true, decide_eq_true_iff]
            constructor
            · intro h2 l hl; exact (hP l hl).1 (h2 _ (List.mem_map_of_mem hl))
            · intro h2 x hx
              obtain ⟨l, hl, rfl⟩ := List.mem_map.1 hx
              exact (hP l hl).2 (h2 l hl)
          rw [hb] at e5
          by_cases h7 : IsSk m (skP U)
          · rw [decide_eq_true h7] at e5
            have h8 := (isSk_pl (by omega) hU).1 h7
            have hb1 := mem3 (Pol.len_mod Pol.X h0) hg hd
            have hb2 := mem3 (Pol.len_mod Pol.X h0) hg' hd'
            rw [isoD_3 h1' h2' hL (by omega) (by omega) (by omega) (by omega) (by omega) h8 h6.1 h6.2]
            have htl := trimS_len_le U
            have htm : ∀ c ∈ trimS U, c.len < m.len := fun c hc => h8 c (List.mem_of_mem_take hc)
            have f1 := hro n U (by omega) (fun x hx => by have := h8 x hx; omega)
            rw [show (U.map padD : List D) = (skP U).map arr8 by rw [← map_padD]] at f1
            have f2 := htr n U (by omega)
            have f3 := hla n m g d h0 (by omega) (by omega) (by omega)
            have f4 := hla n m g' d' h0 (by omega) (by omega) (by omega)
            have f5 := hby n m (trimS U) [Pol.X % m, g, d] h2m (by omega) (fun c hc => by have := htm c hc; omega) (fun c hc => by have := hb1 c hc; omega) (by omega) (by simp only [List.length_cons, List.length_nil]; omega)
            have f6 := hby n m [Pol.X % m, g', d'] (trimS U) h2m (by omega) (fun c hc => by have := hb2 c hc; omega) (fun c hc => by have := htm c hc; omega) (by simp only [List.length_cons, List.length_nil]; omega) (by omega)
            have q1 := prod_len_le (m := m) (a := trimS U) (b := [Pol.X % m, g, d])
            have q2 := prod_len_le (m := m) (a := [Pol.X % m, g', d']) (b := trimS U)
            simp only [List.length_cons, List.length_nil] at q1 q2
            have f7 := hpl n m (prodS m (trimS U) [Pol.X % m, g, d]) (prodS m [Pol.X % m, g', d'] (trimS U)) (-1) (by omega) (by omega) (by omega) (by omega) (fun c hc => prodS_lens' h0 (by omega) c hc) (fun c hc => prodS_lens' h0 (by omega) c hc)
            have c1 := prod_cmp hm hb1 (A := trimS U) (B := [Pol.X % m, g, d]) (fun i => cS_trim U i) (fun i => rfl)
            have c2 := prod_cmp hm htm (A := [Pol.X % m, g', d']) (B := trimS U) (fun i => rfl) (fun i => cS_trim U i)
            have c3 := plus_nil (isTrim_prod m (trimS U) [Pol.X % m, g, d]) (isTrim_prod m [Pol.X % m, g', d'] (trimS U))
            have c4 : isoP m g d g' d' U ↔ 0 < (trimS U).length ∧ (plusS (-1) (prodS m (trimS U) [Pol.X % m, g, d]) (prodS m [Pol.X % m, g', d'] (trimS U))).length = 0 := by
              rw [c3, c1, c2]
              unfold isoP
              rw [← List.length_pos_iff]
            rw [show decide (isoP m g d g' d' U) = decide (0 < (trimS U).length ∧ (plusS (-1) (prodS m (trimS U) [Pol.X % m, g, d]) (prodS m [Pol.X % m, g', d'] (trimS U))).length = 0) from decide_eq_decide.2 c4]
            have g1 : ((trimS U).map rowD).length = (trimS U).length := List.length_map ..
            have g2 : ((plusS (-1) (prodS m (trimS U) [Pol.X % m, g, d]) (prodS m [Pol.X % m, g', d'] (trimS U))).map rowD).length = (plusS (-1) (prodS m (trimS U) [Pol.X % m, g, d]) (prodS m [Pol.X % m, g', d'] (trimS U))).length := List.length_map ..
            unfold skD at f2 f3 f4 f5 f6 f7
            refine ask_of hT rfl ?_
            generalize (plusS (-1) (prodS m (trimS U) [Pol.X % m, g, d]) (prodS m [Pol.X % m, g', d'] (trimS U))).length = z1 at *
            generalize (trimS U).length = z2 at *
            generalize (plusS (-1) (prodS m (trimS U) [Pol.X % m, g, d]) (prodS m [Pol.X % m, g', d'] (trimS U))).map rowD = D1 at *
            generalize (prodS m (trimS U) [Pol.X % m, g, d]).map rowD = D2 at *
            generalize (prodS m [Pol.X % m, g', d'] (trimS U)).map rowD = D3 at *
            generalize (trimS U).map rowD = D4 at *
            generalize U.map rowD = D5 at *
            generalize (skP U).map arr8 = D6 at *
            generalize [Pol.X % m, g, d].map rowD = D7 at *
            generalize [Pol.X % m, g', d'].map rowD = D8 at *
            generalize pad (row m) = Pm at *
            generalize pad (row g) = Pg at *
            generalize pad (row d) = Pd at *
            generalize pad (row g') = Pg' at *
            generalize pad (row d') = Pd' at *
            by_cases y1 : 0 < z2
            · have y1' : (0 : Int) < (z2 : Int) := by omega
              by_cases y2 : z1 = 0
              · rw [decide_eq_true ⟨y1, y2⟩]
                subst y2
                simp -implicitDefEqProofs [ir_impl_IsIsogeny, ir_impl_IsIsogeny_B, dn_cond, e1, e2, e3, hLL, e4, e5, f1, f2, f3, f4, f5, f6, f7, g1, g2, y1]
              · rw [decide_eq_false fun h => y2 h.2]
                simp -implicitDefEqProofs [ir_impl_IsIsogeny, ir_impl_IsIsogeny_B, dn_cond, e1, e2, e3, hLL, e4, e5, f1, f2, f3, f4, f5, f6, f7, g1, g2, y1, y2]
            · rw [decide_eq_false fun h => y1 h.1]
              simp -implicitDefEqProofs [ir_impl_IsIsogeny, ir_impl_IsIsogeny_B, dn_cond, e1, e2, e3, hLL, e4, e5, f1, f2, f3, f4, f5, f6, g1, y1]
          · rw [decide_eq_false h7] at e5
            rw [isoD_2 ⟨h1', h2', hL⟩ fun _ h => h7 (by rw [polOf_pad (by omega)] at h; exact h.2.2.2.2)]
            refine ask_of hT rfl ?_
            generalize (skP U).map arr8 = D6 at *
            generalize pad (row m) = Pm at *
            generalize pad (row g) = Pg at *
            generalize pad (row d) = Pd at *
            generalize pad (row g') = Pg' at *
            generalize pad (row d') = Pd' at *
            simp -implicitDefEqProofs [ir_impl_IsIsogeny, ir_impl_IsIsogeny_B, dn_cond, e1, e2, e3, hLL, e4, e5]
        · rw [decide_eq_false (show ¬ ((1 : Int) ≤ U.length ∧ (U.length : Int) ≤ 6) by omega)] at e4
          rw [isoD_2 ⟨h1', h2', hL⟩ fun _ h => h6 ⟨by have := h.2.2.1; rw [List.length_map] at this; exact this, by have := h.2.2.2.1; rw [List.length_map] at this; exact this⟩]
          refine ask_of hT rfl ?_
          generalize (skP U).map arr8 = D6 at *
          generalize pad (row m) = Pm at *
          generalize pad (row g) = Pg at *
          generalize pad (row d) = Pd at *
          generalize pad (row g') = Pg' at *
          generalize pad (row d') = Pd' at *
          simp -implicitDefEqProofs [ir_impl_IsIsogeny, ir_impl_IsIsogeny_B, dn_cond, e1, e2, e3, hLL, e4]
      · rw [if_neg h3] at e2
        rw [isoD_2 ⟨h1, h2, hL⟩ fun _ h => h3 ⟨h.1, h.2.1⟩]
        refine ask_of hT rfl ?_
        simp -implicitDefEqProofs [ir_impl_IsIsogeny, ir_impl_IsIsogeny_B, dn_cond, e1, e2]
    · rw [if_neg fun h => h2 h.2] at e2
      rw [isoD_1 fun h => h2 h.2.1]
      refine ask_of hT rfl ?_
      simp -implicitDefEqProofs [ir_impl_IsIsogeny, ir_impl_IsIsogeny_B, dn_cond, e1, e2]
  · rw [if_neg h1] at e1
    rw [isoD_1 fun h => h1 ⟨h.1, h.2.2⟩]
    refine ask_of hT rfl ?_
    simp -implicitDefEqProofs [ir_impl_IsIsogeny, ir_impl_IsIsogeny_B, dn_cond, e1]
end Pe

namespace Pe
open Go Gq
variable {T : Nat → Option Fn} {A : Oracle}
open Classical in
noncomputable def nzS {p : Int} (L : List (Fp p)) : Bool := L.any fun a => !decide (a = 0)
theorem nz_trim {p : Int} (L : List (Fp p)) : nzS L = true ↔ trimS L ≠ [] := by
  unfold nzS
  rw [List.any_eq_true]
  constructor
  · rintro ⟨a, ha, h⟩ hz
    simp at h
    obtain ⟨i, hi, rfl⟩ := List.getElem_of_mem ha
    have := cS_trim L i
    rw [hz, cS_nil, ← cS_lt hi] at this
    exact h this.symm
  · intro h
    have hl : (trimS L).length ≠ 0 := fun g => h (List.length_eq_zero_iff.1 g)
    obtain ⟨a, x, e, hx⟩ := trimS_form hl
    refine ⟨x, ?_, by simpa using hx⟩
    have : x ∈ trimS L := by rw [e]; simp
    exact List.mem_of_mem_take this
open Classical in
theorem l_iso0 {O : Oracle} (hdg : K_sDeg O) {p : Int} [IsP p] {m : Fp p} {v w v' w' : List Int} {U : List (Fp p)} (hm : m.len ≤ 64) (hU : ∀ c ∈ U, c.len < m.len) (hl : U.length ≤ 1000) : ∀ (r i : Nat) (b : Bool), i + r = U.length →
    dn O 0 (.loop ir_spec_IsIsogeny_L0) ⟨[(2, .d (aD U)), (3, .ptr 0 []), (4, .ptr 1 []), (8, (.d (.bool b))), (9, (.d (.int .i64 i)))], [.box false (drD p (pad (row m)) v w), .box false (drD p (pad (row m)) v' w')]⟩ =
      some (.exit 0, ⟨[(2, .d (aD U)), (3, .ptr 0 []), (4, .ptr 1 []), (8, (.d (.bool (b || nzS (U.drop i))))), (9, (.d (.int .i64 U.length))), (46, (.d (.bool false)))], [.box false (drD p (pad (row m)) v w), .box false (drD p (pad (row m)) v' w')]⟩)
  | 0, i, b, hi => by
    obtain rfl : i = U.length := by omega
    have hn : nzS (U.drop U.length) = false := by rw [List.drop_length]; rfl
    have hL := skA_len U
    rw [hn, Bool.or_false]
    refine dn_stop ?_
    rw [show aD U = .sl (.arr 64 .leaf) ((skP U).map arr8) from rfl]
    generalize (skP U).map arr8 = UD at *
    generalize pad (row m) = Pm at *
    simp -implicitDefEqProofs [ir_spec_IsIsogeny_L0, dn_cond, hL]
  | r + 1, i, b, hi => by
    have hlt : i < U.length := by omega
    have hc := hU _ (List.getElem_mem hlt)
    have hL := skA_len U
    have g1E := skA_getE hlt
    have e1 := hdg p U[i] (by omega)
    have e2 := hdg p m hm
    have hge : ¬ (m.len : Int) - 1 ≤ (U[i].len : Int) - 1 := by omega
    have w4 : IntKind.i64.wrap ((i : Int) + 1) = ((i + 1 : Nat) : Int) := (w64 (x := (i : Int) + 1) (by omega)).trans (by omega)
    have heq := beq_P (l := pad (row U[i])) (m := pad []) (pad_length _) (pad_length _)
    have hz : pad (row U[i]) = pad [] ↔ U[i] = 0 := by
      rw [← row_zero (p := p), pad_row_inj (by omega) (by rw [Pol.len_zero]; omega)]
    have hd : nzS (U.drop i) = (!decide (U[i] = 0) || nzS (U.drop (i + 1))) := by
      rw [List.drop_eq_getElem_cons hlt]; rfl
    have ih := l_iso0 hdg (v := v) (w := w) (v' := v') (w' := w') hm hU hl r (i + 1) (b || !decide (U[i] = 0)) (by omega)
    rw [hd, ← Bool.or_assoc]
    refine dn_round ?_ ih
    have hlt' : (i : Int) < U.length := by omega
    rw [show aD U = .sl (.arr 64 .leaf) ((skP U).map arr8) from rfl]
    by_cases h0 : U[i] = 0
    · rw [decide_eq_true (hz.2 h0)] at heq
      rw [decide_eq_true h0, Bool.not_true, Bool.or_false]
      generalize (m.len : Int) - 1 = m1 at *
      generalize (U[i].len : Int) - 1 = u1 at *
      generalize pad (row U[i]) = P1 at *
      generalize (skP U).map arr8 = UD at *
      generalize pad (row m) = Pm at *
      cases b <;> simp -implicitDefEqProofs [ir_spec_IsIsogeny_L0, dn_cond, hL, hlt, hlt', g1E, e1, e2, hge, heq, w4]
    · rw [decide_eq_false (fun h => h0 (hz.1 h))] at heq
      rw [decide_eq_false h0, Bool.not_false, Bool.or_true]
      generalize (m.len : Int) - 1 = m1 at *
      generalize (U[i].len : Int) - 1 = u1 at *
      generalize pad (row U[i]) = P1 at *
      generalize (skP U).map arr8 = UD at *
      generalize pad (row m) = Pm at *
      cases b <;> simp -implicitDefEqProofs [ir_spec_IsIsogeny_L0, dn_cond, hL, hlt, hlt', g1E, e1, e2, hge, heq, w4]
theorem l_iso0x {O : Oracle} (hdg : K_sDeg O) {p : Int} [IsP p] {m : Fp p} {v w v' w' : List Int} {U : List (Fp p)} (hm : m.len ≤ 64) (hU : ∀ c ∈ U, c.len ≤ 64) (hl : U.length ≤ 1000) : ∀ (r i : Nat) (b : Bool), i + r = U.length → (∃ c ∈ U.drop i, m.len ≤ c.len) →
    dn O 0 (.loop ir_spec_IsIsogeny_L0) ⟨[(2, .d (aD U)), (3, .ptr 0 []), (4, .ptr 1 []), (8, (.d (.bool b))), (9, (.d (.int .i64 i)))], [.box false (drD p (pad (row m)) v w), .box false (drD p (pad (row m)) v' w')]⟩ =
      some (.ret, ⟨[(6, (.d (.bool false))), (7, (.d (.int .i64 2)))], [.hole, .hole]⟩)
  | 0, i, b, hi, hx => by
    obtain rfl : i = U.length := by omega
    obtain ⟨c, hc, _⟩ := hx
    rw [List.drop_length] at hc
    exact absurd hc List.not_mem_nil
  | r + 1, i, b, hi, hx => by
    have hlt : i < U.length := by omega
    have hc := hU _ (List.getElem_mem hlt)
    have hL := skA_len U
    have g1E := skA_getE hlt
    have e1 := hdg p U[i] (by omega)
    have e2 := hdg p m hm
    have w4 : IntKind.i64.wrap ((i : Int) + 1) = ((i + 1 : Nat) : Int) := (w64 (x := (i : Int) + 1) (by omega)).trans (by omega)
    have heq := beq_P (l := pad (row U[i])) (m := pad []) (pad_length _) (pad_length _)
    have hlt' : (i : Int) < U.length := by omega
    by_cases hge : (m.len : Int) - 1 ≤ (U[i].len : Int) - 1
    · refine dn_back ?_
      rw [show aD U = .sl (.arr 64 .leaf) ((skP U).map arr8) from rfl]
      generalize (m.len : Int) - 1 = m1 at *
      generalize (U[i].len : Int) - 1 = u1 at *
      generalize pad (row U[i]) = P1 at *
      generalize (skP U).map arr8 = UD at *
      generalize pad (row m) = Pm at *
      simp -implicitDefEqProofs [ir_spec_IsIsogeny_L0, dn_cond, hL, hlt, hlt', g1E, e1, e2, hge]
    · have hx' : ∃ c ∈ U.drop (i + 1), m.len ≤ c.len := by
        obtain ⟨c, hc, hcl⟩ := hx
        rw [List.drop_eq_getElem_cons hlt, List.mem_cons] at hc
        rcases hc with rfl | hc
        · exact absurd (show (m.len : Int) - 1 ≤ (U[i].len : Int) - 1 by omega) hge
        · exact ⟨c, hc, hcl⟩
      have ih := fun b => l_iso0x hdg (v := v) (w := w) (v' := v') (w' := w') hm hU hl r (i + 1) b (by omega) hx'
      rw [show aD U = .sl (.arr 64 .leaf) ((skP U).map arr8) from rfl] at ih ⊢
      generalize hbq : decide (pad (row U[i]) = pad []) = bq at *
      refine dn_round ?_ (ih (b || !bq))
      generalize (m.len : Int) - 1 = m1 at *
      generalize (U[i].len : Int) - 1 = u1 at *
      generalize pad (row U[i]) = P1 at *
      generalize (skP U).map arr8 = UD at *
      generalize pad (row m) = Pm at *
      cases b <;> cases bq <;> simp -implicitDefEqProofs [ir_spec_IsIsogeny_L0, dn_cond, hL, hlt, hlt', g1E, e1, e2, hge, heq, w4]
open Classical in
theorem l_iso1 {O : Oracle} {p : Int} [IsP p] {X Y : List (Fp p)} {bb : Bool} (hX : ∀ c ∈ X, c.len ≤ 64) (hY : ∀ c ∈ Y, c.len ≤ 64) (hl : X.length ≤ 1000) (hxy : X.length = Y.length) : ∀ (r i : Nat), i + r = X.length → ∃ (j : Int),
    dn O 0 (.loop ir_spec_IsIsogeny_L1) ⟨[(8, (.d (.bool bb))), (10, .d (aD X)), (11, .d (aD Y)), (12, (.d (.bool true))), (13, (.d (.int .i64 i)))], [.hole, .hole]⟩ =
      some (.exit 2, ⟨[(8, (.d (.bool bb))), (10, .d (aD X)), (11, .d (aD Y)), (12, (.d (.bool (decide (X.drop i = Y.drop i))))), (13, (.d (.int .i64 j))), (88, (.d (.bool false)))], [.hole, .hole]⟩)
  | 0, i, hi => by
    obtain rfl : i = X.length := by omega
    have hL := skA_len X
    refine ⟨X.length, dn_stop ?_⟩
    rw [decide_eq_true (show X.drop X.length = Y.drop X.length by rw [List.drop_length, hxy, List.drop_length])]
    rw [show aD X = .sl (.arr 64 .leaf) ((skP X).map arr8) from rfl]
    generalize (skP X).map arr8 = XD at *
    generalize aD Y = YD at *
    simp -implicitDefEqProofs [ir_spec_IsIsogeny_L1, dn_cond, hL]
  | r + 1, i, hi => by
    have hlt : i < X.length := by omega
    have hltY : i < Y.length := by omega
    have hLX := skA_len X
    have hLY := skA_len Y
    have g1E := skA_getE hlt
    have g2E := skA_getE hltY
    have hcX := hX _ (List.getElem_mem hlt)
    have hcY := hY _ (List.getElem_mem hltY)
    have w4 : IntKind.i64.wrap ((i : Int) + 1) = ((i + 1 : Nat) : Int) := (w64 (x := (i : Int) + 1) (by omega)).trans (by omega)
    have heq := beq_P (l := pad (row X[i])) (m := pad (row Y[i])) (pad_length _) (pad_length _)
    have hlt' : (i : Int) < X.length := by omega
    have hd : (X.drop i = Y.drop i) ↔ X[i] = Y[i] ∧ X.drop (i + 1) = Y.drop (i + 1) := by
      rw [List.drop_eq_getElem_cons hlt, List.drop_eq_getElem_cons hltY, List.cons.injEq]
    by_cases h0 : X[i] = Y[i]
    · rw [decide_eq_true (show pad (row X[i]) = pad (row Y[i]) by rw [h0])] at heq
      obtain ⟨j, ih⟩ := l_iso1 (O := O) (bb := bb) hX hY hl hxy r (i + 1) (by omega)
      rw [show decide (X.drop i = Y.drop i) = decide (X.drop (i + 1) = Y.drop (i + 1)) from decide_eq_decide.2 (hd.trans ⟨fun h => h.2, fun h => ⟨h0, h⟩⟩)]
      refine ⟨j, dn_round ?_ ih⟩
      rw [show aD X = .sl (.arr 64 .leaf) ((skP X).map arr8) from rfl, show aD Y = .sl (.arr 64 .leaf) ((skP Y).map arr8) from rfl]
      generalize (skP X).map arr8 = XD at *
      generalize (skP Y).map arr8 = YD at *
      generalize pad (row X[i]) = P1 at *
      generalize pad (row Y[i]) = P2 at *
      simp -implicitDefEqProofs [ir_spec_IsIsogeny_L1, dn_cond, hLX, hLY, hlt, hlt', hltY, g1E, g2E, heq, w4]
    · rw [decide_eq_false (show ¬ pad (row X[i]) = pad (row Y[i]) from fun h => h0 ((pad_row_inj hcX hcY).1 h))] at heq
      rw [decide_eq_false (fun h => h0 (hd.1 h).1)]
      refine ⟨((i + 1 : Nat) : Int), ?_⟩
      have stop : ∀ XD YD : D, dn O 0 (.loop ir_spec_IsIsogeny_L1) ⟨[(8, (.d (.bool bb))), (10, .d (.sl (.arr 64 .leaf) ((skP X).map arr8))), (11, .d (.sl (.arr 64 .leaf) ((skP Y).map arr8))), (12, (.d (.bool false))), (13, (.d (.int .i64 (((i + 1 : Nat) : Int)))))], [.hole, .hole]⟩ =
          some (.exit 2, ⟨[(8, (.d (.bool bb))), (10, .d (.sl (.arr 64 .leaf) ((skP X).map arr8))), (11, .d (.sl (.arr 64 .leaf) ((skP Y).map arr8))), (12, (.d (.bool false))), (13, (.d (.int .i64 (((i + 1 : Nat) : Int))))), (88, (.d (.bool false)))], [.hole, .hole]⟩) := fun _ _ => by
        refine dn_stop ?_
        generalize (skP X).map arr8 = XD at *
        generalize (skP Y).map arr8 = YD at *
        by_cases hk : ((i + 1 : Nat) : Int) < (XD.length : Int)
        · generalize ((i + 1 : Nat) : Int) = k1 at *
          simp -implicitDefEqProofs [ir_spec_IsIsogeny_L1, dn_cond, hk]
        · generalize ((i + 1 : Nat) : Int) = k1 at *
          simp -implicitDefEqProofs [ir_spec_IsIsogeny_L1, dn_cond, hk]
      rw [show aD X = .sl (.arr 64 .leaf) ((skP X).map arr8) from rfl, show aD Y = .sl (.arr 64 .leaf) ((skP Y).map arr8) from rfl]
      refine dn_round ?_ (stop (.bool true) (.bool true))
      generalize (skP X).map arr8 = XD at *
      generalize (skP Y).map arr8 = YD at *
      generalize pad (row X[i]) = P1 at *
      generalize pad (row Y[i]) = P2 at *
      simp -implicitDefEqProofs [ir_spec_IsIsogeny_L1, dn_cond, hLX, hLY, hlt, hlt', hltY, g1E, g2E, heq, w4]
theorem l_iso1n {O : Oracle} {p : Int} [IsP p] {X Y : List (Fp p)} {bb : Bool} :
    dn O 0 (.loop ir_spec_IsIsogeny_L1) ⟨[(8, (.d (.bool bb))), (10, .d (aD X)), (11, .d (aD Y)), (12, (.d (.bool false))), (13, (.d (.int .i64 0)))], [.hole, .hole]⟩ =
      some (.exit 2, ⟨[(8, (.d (.bool bb))), (10, .d (aD X)), (11, .d (aD Y)), (12, (.d (.bool false))), (13, (.d (.int .i64 0))), (88, (.d (.bool false)))], [.hole, .hole]⟩) := by
  refine dn_stop ?_
  rw [show aD X = .sl (.arr 64 .leaf) ((skP X).map arr8) from rfl]
  generalize (skP X).map arr8 = XD at *
  generalize aD Y = YD at *
  by_cases hk : 0 < XD.length
  · simp -implicitDefEqProofs [ir_spec_IsIsogeny_L1, dn_cond, hk]
  · simp -implicitDefEqProofs [ir_spec_IsIsogeny_L1, dn_cond, hk]
open Classical in
theorem k_sIsIso (hT : T F_spec_IsIsogeny = some ir_spec_IsIsogeny) (his : C_IsDr (den T A) F_spec_l06Is) (hco : C_sCode (den T A)) (hpr : C_pair (den T A) F_spec_l06Both) (hdg : K_sDeg (den T A)) (ht : K_sT6 (den T A)) (hcp : K_sComp (den T A)) : K_IsIso (den T A) F_spec_IsIsogeny := by
  intro n u v w n' u' v' w' ls bu gu bv gv bw gw bu' gu' bv' gv' bw' gw' ha hl
  have e1 := his n u v w bu gu bv gv bw gw
  have e1' := his n' u' v' w' bu' gu' bv' gv' bw' gw'
  have e2 := hpr n u v w n' u' v' w' bu gu bv gv bw gw bu' gu' bv' gv' bw' gw'
  have e3 := hco n ls ha hl
  unfold codePr at e2
  unfold codeP at e3
  have hLL : (ls.map arr8).length = ls.length := List.length_map ..
  by_cases h1 : IsDr n u v w
  · rw [decide_eq_true h1] at e1
    by_cases h2 : IsDr n' u' v' w'
    · rw [decide_eq_true h2] at e1'
      rw [if_pos ⟨h1, h2⟩] at e2
      have hp : isP n = true := by obtain ⟨ip, _⟩ := h1; exact isP_true
      by_cases hL : ls.all (isPl n) = true
      · rw [if_pos ⟨hp, hL⟩] at e3
        by_cases h3 : n = n' ∧ u = u'
        · rw [if_pos h3] at e2
          obtain ⟨rfl, rfl⟩ := h3
          by_cases h6 : 1 ≤ ls.length ∧ ls.length ≤ 6
          · obtain ⟨h61, h66⟩ := h6
            have k1 : ¬ (ls.length : Int) < 1 := by omega
            have k2 : ¬ (6 : Int) < ls.length := by omega
            have h1' := h1
            have h2' := h2
            obtain ⟨ip, m, g, d, rfl, rfl, rfl, hm, hg, hd, hd0⟩ := h1
            obtain ⟨ip', m', g', d', em, rfl, rfl, hm', hg', hd', hd0'⟩ := h2
            have h5 := hm.five
            have h5' := hm'.five
            have h0 := hm.mon.2
            have h2m := hm.two
            obtain rfl : m = m' := (pad_row_inj (by omega) (by omega)).1 em
            obtain ⟨U, rfl, hU⟩ := rows_of_isPl ha hL
            rw [List.length_map] at h61 h66
            by_cases h7 : ∀ c ∈ U, c.len < m.len
            · rw [isoD_3 h1' h2' hL (by omega) (by omega) (by omega) (by omega) (by omega) h7 h61 h66]
              have hb1 := mem3 (Pol.len_mod Pol.X h0) hg hd
              have hb2 := mem3 (Pol.len_mod Pol.X h0) hg' hd'
              have e4 := l_iso0 (O := den T A) hdg (v := pad (row g)) (w := pad (row d)) (v' := pad (row g')) (w' := pad (row d')) (show m.len ≤ 64 by omega) h7 (by omega) U.length 0 false (by omega)
              rw [List.drop_zero, Bool.false_or, show ((0 : Nat) : Int) = 0 from rfl] at e4
              have e5 := ht n m g d h0 (by omega)
              have e5' := ht n m g' d' h0 (by omega)
              have e6 := hcp n m (pad (row g)) (pad (row d)) U [Pol.X % m, g, d] h0 (by omega) hU (fun c hc => by have := hb1 c hc; omega) (by simp only [List.length_cons, List.length_nil]; omega)
              have e7 := hcp n m (pad (row g)) (pad (row d)) [Pol.X % m, g', d'] U h0 (by omega) (fun c hc => by have := hb2 c hc; omega) hU (by simp only [List.length_cons, List.length_nil]; omega)
              have hl1 : (cmpS m U [Pol.X % m, g, d]).length ≤ 1000 := by
                have := trimS_len_le (cmpOut m U 0 [Pol.X % m, g, d] (List.replicate (U.length + [Pol.X % m, g, d].length) 0))
                rw [cmpOut_length, List.length_replicate] at this
                simp only [List.length_cons, List.length_nil] at this
                exact Nat.le_trans this (by omega)
              have hz := nz_trim U
              have hsame : (cmpS m U [Pol.X % m, g, d]).length = (cmpS m [Pol.X % m, g', d'] U).length → ∃ j : Int, dn (den T A) 0 (.loop ir_spec_IsIsogeny_L1) ⟨[(8, (.d (.bool (nzS U)))), (10, .d (aD (cmpS m U [Pol.X % m, g, d]))), (11, .d (aD (cmpS m [Pol.X % m, g', d'] U))), (12, (.d (.bool true))), (13, (.d (.int .i64 0)))], [.hole, .hole]⟩ =
                  some (.exit 2, ⟨[(8, (.d (.bool (nzS U)))), (10, .d (aD (cmpS m U [Pol.X % m, g, d]))), (11, .d (aD (cmpS m [Pol.X % m, g', d'] U))), (12, (.d (.bool (decide (cmpS m U [Pol.X % m, g, d] = cmpS m [Pol.X % m, g', d'] U))))), (13, (.d (.int .i64 j))), (88, (.d (.bool false)))], [.hole, .hole]⟩) := fun hxy => by
                obtain ⟨j, h⟩ := l_iso1 (O := den T A) (bb := nzS U) (X := cmpS m U [Pol.X % m, g, d]) (Y := cmpS m [Pol.X % m, g', d'] U) (fun c hc => by have := cmp_lens h0 _ _ c hc; omega) (fun c hc => by have := cmp_lens h0 _ _ c hc; omega) hl1 hxy (cmpS m U [Pol.X % m, g, d]).length 0 (by omega)
                rw [List.drop_zero, List.drop_zero] at h
                exact ⟨j, h⟩
              have hdiff := l_iso1n (O := den T A) (bb := nzS U) (X := cmpS m U [Pol.X % m, g, d]) (Y := cmpS m [Pol.X % m, g', d'] U)
              have hne : ¬ (cmpS m U [Pol.X % m, g, d]).length = (cmpS m [Pol.X % m, g', d'] U).length → decide (cmpS m U [Pol.X % m, g, d] = cmpS m [Pol.X % m, g', d'] U) = false := fun h => decide_eq_false fun e => h (by rw [e])
              have hLX := skA_len (cmpS m U [Pol.X % m, g, d])
              have hLY := skA_len (cmpS m [Pol.X % m, g', d'] U)
              have hiso : decide (isoP m g d g' d' U) = (nzS U && decide (cmpS m U [Pol.X % m, g, d] = cmpS m [Pol.X % m, g', d'] U)) := by
                rw [Bool.eq_iff_iff, decide_eq_true_iff, Bool.and_eq_true, decide_eq_true_iff, hz]
                rfl
              rw [hiso]
              have hUL : ((skP U).map arr8).length = U.length := skA_len U
              rw [show (skP U).length = U.length from List.length_map ..] at k1 k2 hLL
              unfold aD at e4 e5 e5' e6 e7 hsame hdiff
              refine ask_of hT rfl ?_
              generalize (skP U).map arr8 = UD at *
              generalize (skP [Pol.X % m, g, d]).map arr8 = T1 at *
              generalize (skP [Pol.X % m, g', d']).map arr8 = T2 at *
              generalize pad (row m) = Pm at *
              generalize pad (row g) = Pg at *
              generalize pad (row d) = Pd at *
              generalize pad (row g') = Pg' at *
              generalize pad (row d') = Pd' at *
              generalize decide (cmpS m U [Pol.X % m, g, d] = cmpS m [Pol.X % m, g', d'] U) = bb at *
              by_cases hxy : (cmpS m U [Pol.X % m, g, d]).length = (cmpS m [Pol.X % m, g', d'] U).length
              · obtain ⟨j, e8⟩ := hsame hxy
                have hxy' : ((cmpS m U [Pol.X % m, g, d]).length : Int) = ((cmpS m [Pol.X % m, g', d'] U).length : Int) := by omega
                generalize (skP (cmpS m U [Pol.X % m, g, d])).map arr8 = X1 at *
                generalize (skP (cmpS m [Pol.X % m, g', d'] U)).map arr8 = X2 at *
                rw [hxy] at hLX
                generalize nzS U = nz at *
                cases nz <;> simp -implicitDefEqProofs [ir_spec_IsIsogeny, ir_spec_IsIsogeny_B, dn_cond, e1, e1', e2, e3, hLL, k1, k2, e4, e5, e5', e6, e7, e8, hLX, hLY]
              · have hbb := hne hxy
                have hxy' : ¬ ((cmpS m U [Pol.X % m, g, d]).length : Int) = ((cmpS m [Pol.X % m, g', d'] U).length : Int) := by omega
                subst hbb
                generalize (skP (cmpS m U [Pol.X % m, g, d])).map arr8 = X1 at *
                generalize (skP (cmpS m [Pol.X % m, g', d'] U)).map arr8 = X2 at *
                generalize nzS U = nz at *
                cases nz <;> simp -implicitDefEqProofs [ir_spec_IsIsogeny, ir_spec_IsIsogeny_B, dn_cond, e1, e1', e2, e3, hLL, k1, k2, e4, e5, e5', e6, e7, hdiff, hLX, hLY, hxy']
            · rw [isoD_2 ⟨h1', h2', hL⟩ fun _ h => h7 (by rw [polOf_pad (by omega)] at h; exact (isSk_pl (by omega) hU).1 h.2.2.2.2)]
              have e4 := l_iso0x (O := den T A) hdg (v := pad (row g)) (w := pad (row d)) (v' := pad (row g')) (w' := pad (row d')) (show m.len ≤ 64 by omega) hU (by omega) U.length 0 false (by omega) (by
                rw [List.drop_zero]
                apply Classical.byContradiction
                intro hx
                exact h7 fun c hc => by
                  rcases Nat.lt_or_ge c.len m.len with h | h
                  · exact h
                  · exact absurd ⟨c, hc, h⟩ hx)
              rw [show ((0 : Nat) : Int) = 0 from rfl] at e4
              rw [show (skP U).length = U.length from List.length_map ..] at k1 k2 hLL
              unfold aD at e4
              refine ask_of hT rfl ?_
              generalize (skP U).map arr8 = UD at *
              generalize pad (row m) = Pm at *
              generalize pad (row g) = Pg at *
              generalize pad (row d) = Pd at *
              generalize pad (row g') = Pg' at *
              generalize pad (row d') = Pd' at *
              simp -implicitDefEqProofs [ir_spec_IsIsogeny, ir_spec_IsIsogeny_B, dn_cond, e1, e1', e2, e3, hLL, k1, k2, e4]
          · rw [isoD_2 ⟨h1, h2, hL⟩ fun _ h => h6 ⟨h.2.2.1, h.2.2.2.1⟩]
            refine ask_of hT rfl ?_
            generalize ls.map arr8 = UD at *
            by_cases k1 : (ls.length : Int) < 1
            · simp -implicitDefEqProofs [ir_spec_IsIsogeny, ir_spec_IsIsogeny_B, dn_cond, e1, e1', e2, e3, hLL, k1]
            · have k2 : (6 : Int) < ls.length := by omega
              simp -implicitDefEqProofs [ir_spec_IsIsogeny, ir_spec_IsIsogeny_B, dn_cond, e1, e1', e2, e3, hLL, k1, k2]
        · rw [if_neg h3] at e2
          rw [isoD_2 ⟨h1, h2, hL⟩ fun _ h => h3 ⟨h.1, h.2.1⟩]
          refine ask_of hT rfl ?_
          generalize ls.map arr8 = UD at *
          simp -implicitDefEqProofs [ir_spec_IsIsogeny, ir_spec_IsIsogeny_B, dn_cond, e1, e1', e2, e3]
      · rw [if_neg fun h => hL h.2] at e3
        rw [isoD_1 fun h => hL h.2.2]
        refine ask_of hT rfl ?_
        generalize ls.map arr8 = UD at *
        simp -implicitDefEqProofs [ir_spec_IsIsogeny, ir_spec_IsIsogeny_B, dn_cond, e1, e1', e3]
    · rw [decide_eq_false h2] at e1'
      rw [isoD_1 fun h => h2 h.2.1]
      refine ask_of hT rfl ?_
      simp -implicitDefEqProofs [ir_spec_IsIsogeny, ir_spec_IsIsogeny_B, dn_cond, e1, e1']
  · rw [decide_eq_false h1] at e1
    rw [isoD_1 fun h => h1 h.1]
    refine ask_of hT rfl ?_
    simp -implicitDefEqProofs [ir_spec_IsIsogeny, ir_spec_IsIsogeny_B, dn_cond, e1]
def L_IsIsogeny (O : Oracle) : Prop := ∀ (n : Int) (u v w : List Int), (Bytes u ∧ u.length = 64) → (Bytes v ∧ v.length = 64) → (Bytes w ∧ w.length = 64) → ∀ (n' : Int) (u' v' w' : List Int), (Bytes u' ∧ u'.length = 64) → (Bytes v' ∧ v'.length = 64) → (Bytes w' ∧ w'.length = 64) → ∀ (ls : List (List Int)), Arrs ls → ls.length ≤ 9223372036854775807 → ask O F_laws_FnExactIsIsogeny [drD n u v w, drD n' u' v' w', .sl (.arr 64 .leaf) (ls.map arr8)] = some (D.bool true)
theorem law_IsIsogeny (hT : T F_laws_FnExactIsIsogeny = some ir_laws_FnExactIsIsogeny) (hd : C_toDr (den T A)) (hk : C_toPs (den T A)) (he : C_eqPs (den T A)) (hsz : C_szPs (den T A)) (hi : K_IsIso (den T A) F_impl_IsIsogeny) (hs : K_IsIso (den T A) F_spec_IsIsogeny) : L_IsIsogeny (den T A) := by
  intro n u v w ⟨bu, gu⟩ ⟨bv, gv⟩ ⟨bw, gw⟩ n' u' v' w' ⟨bu', gu'⟩ ⟨bv', gv'⟩ ⟨bw', gw'⟩ ls ha hl
  have e0 := hsz (ls.map arr8) 1048576 (by omega) (by omega) (by rw [List.length_map]; exact hl)
  rw [List.length_map] at e0
  refine ask_of hT rfl ?_
  by_cases hbig : (1048576 : Int) < ls.length
  · rw [if_pos hbig] at e0
    generalize ls.map arr8 = LD at *
    simp -implicitDefEqProofs [ir_laws_FnExactIsIsogeny, ir_laws_FnExactIsIsogeny_B, dn_cond, e0]
  · rw [if_neg hbig] at e0
    have hl2 : ls.length < 2000000 := by omega
    have e1 := hd n u v w bu gu bv gv bw gw
    have e1' := hd n' u' v' w' bu' gu' bv' gv' bw' gw'
    have e2 := hk ls ha hl2
    have e3 := hi n u v w n' u' v' w' ls bu gu bv gv bw gw bu' gu' bv' gv' bw' gw' ha hl2
    have e4 := hs n u v w n' u' v' w' ls bu gu bv gv bw gw bu' gu' bv' gv' bw' gw' ha hl2
    obtain ⟨b, k, e5⟩ := isoD_form n u v w n' u' v' w' ls
    rw [e5] at e3 e4
    have e6 := he ls (fun l hl => (ha l hl).1) hl2
    have hn : ¬ (1048576 : Int) - ls.length < 0 := by omega
    generalize (1048576 : Int) - ls.length = left at *
    generalize ls.map arr8 = LD at *
    have heq : D.beq .bool (D.bool b) (D.bool b) = some true := by cases b <;> rfl
    simp -implicitDefEqProofs [ir_laws_FnExactIsIsogeny, ir_laws_FnExactIsIsogeny_B, dn_cond, e0, e1, e1', e2, e3, e4, e6, hn, heq]
end Pe

namespace Pe
open Go
abbrev tyD : Ty := .st [tyN, tyP, tyP, tyP]
theorem has_D {d : D} (h : tyD.has d) : ∃ (n : Int) (u v w : List Int), d = drD n u v w ∧ (Bytes u ∧ u.length = 64) ∧ (Bytes v ∧ v.length = 64) ∧ (Bytes w ∧ w.length = 64) := by
  cases d <;> simp only [Ty.has] at h
  obtain ⟨rfl, h⟩ := h
  obtain ⟨x0, r0, rfl, h0, h⟩ := hasAll_cons h
  obtain ⟨x1, r1, rfl, h1, h⟩ := hasAll_cons h
  obtain ⟨x2, r2, rfl, h2, h⟩ := hasAll_cons h
  obtain ⟨x3, r3, rfl, h3, h⟩ := hasAll_cons h
  obtain rfl := hasAll_nil h
  obtain ⟨n, rfl, -, -⟩ := has_N h0
  obtain ⟨u, rfl, b1, g1⟩ := has_P h1
  obtain ⟨v, rfl, b2, g2⟩ := has_P h2
  obtain ⟨w, rfl, b3, g3⟩ := has_P h3
  exact ⟨n, u, v, w, rfl, ⟨b1, g1⟩, ⟨b2, g2⟩, ⟨b3, g3⟩⟩
theorem has_polys : ∀ (xs : List D), (∀ x ∈ xs, tyP.has x) → ∃ ls : List (List Int), xs = ls.map arr8 ∧ Arrs ls
  | [], _ => ⟨[], rfl, fun _ h => by cases h⟩
  | x :: xs, h => by
    obtain ⟨ls, rfl, hb⟩ := has_polys xs fun y hy => h y (List.mem_cons_of_mem _ hy)
    obtain ⟨l, rfl, b, g⟩ := has_P (h x (by simp))
    refine ⟨l :: ls, rfl, fun y hy => ?_⟩
    rcases List.mem_cons.1 hy with rfl | hy
    · exact ⟨g, b⟩
    · exact hb y hy
abbrev tyPs : Ty := .sl tyP
theorem has_Ps {d : D} (h : tyPs.has d) : ∃ ls : List (List Int), d = .sl (.arr 64 .leaf) (ls.map arr8) ∧ Arrs ls ∧ ls.length ≤ 9223372036854775807 := by
  cases d <;> simp only [Ty.has] at h
  obtain ⟨rfl, h1, h2⟩ := h
  obtain ⟨ls, rfl, hb⟩ := has_polys _ h2
  exact ⟨ls, rfl, hb, by simpa using h1⟩
end Pe
