/-
  A part of the proof: an evaluator for a small form of the code, its soundness, and contracts of functions over it.
-/
import Derived.Test.YtmbifmkpdbiadaaGreatW1
import Derived.Test.YtmbifmkpdbiadaaGreatW2
import Derived.Test.YtmbifmkpdbiadaaGreatW3
import Derived.Test.YtmbifmkpdbiadaaGreatW4
import Derived.Test.YtmbifmkpdbiadaaGreatW5

namespace Pe
open Go Gq
variable {T : Nat → Option Fn} {A : Oracle}
theorem frIt_1000 {p : Int} [IsP p] {m y : Fp p} (hm : m ≠ 0) (hml : m.len ≤ 64) (hy : y.len ≤ 64) (k : Nat) : (frIt m k y).len ≤ 64 := by
 cases k with
 | zero => exact hy
 | succ k =>
  have := frIt_len hm k (pw y p.toNat % m) (Pol.len_mod _ hm)
  show (frIt m k (pw y p.toNat % m)).len ≤ 64
  omega
theorem l_by0 {O : Oracle} (hfr : K_frob O) (hpr : K_product O) (hco : K_combine2 O) {p : Int} [IsP p] {m x : Fp p} {a b : List (Fp p)} (h2 : 2 ≤ m.len) (hml : m.len ≤ 64) (hx : x.len ≤ 64) (hb : ∀ c ∈ b, c.len ≤ 64) {N i : Nat} (hN : N < 100000) (hi : i + b.length ≤ N) {cp : Option Nat} : ∀ (r k : Nat) (Q : List (Fp p)), k + r = b.length → Q.length = N → (∀ c ∈ Q, c.len ≤ 64) →
 (∀ c ∈ byIn m x i k (b.drop k) Q, c.len ≤ 64) ∧
 dn O 0 (.loop Zo_L0) ⟨[(2, .d (skD b)), (3, .ptr 0 []), (7, .sl 1 [] 0 N cp), (8, (.d (.int .i64 i))), (9, (.d (.sl .leaf (ints .i64 (row x))))), (27, .d (skD a)), (28, (.d (.int .i64 a.length))), (29, (.d (.int .i64 i))), (34, .d (skD b)), (35, (.d (.int .i64 b.length))), (36, (.d (.int .i64 k)))], [.box false (fldD m), .sl false .leaf (Q.map fun c => (D.sl .leaf (ints .i64 (row c))))]⟩ =
  some (.exit 2, ⟨[(2, .d (skD b)), (3, .ptr 0 []), (7, .sl 1 [] 0 N cp), (8, (.d (.int .i64 i))), (9, (.d (.sl .leaf (ints .i64 (row x))))), (27, .d (skD a)), (28, (.d (.int .i64 a.length))), (29, (.d (.int .i64 i))), (34, .d (skD b)), (35, (.d (.int .i64 b.length))), (36, (.d (.int .i64 b.length))), (37, (.d (.bool false)))], [.box false (fldD m), .sl false .leaf ((byIn m x i k (b.drop k) Q).map fun c => (D.sl .leaf (ints .i64 (row c))))]⟩)
 | 0, k, Q, hk, hq, hQ => by
  obtain rfl : k = b.length := by omega
  rw [List.drop_length]
  refine ⟨hQ, dn_stop ?_⟩
  show _ = some (_, (⟨_, [_, .sl false .leaf (Q.map fun c => (D.sl .leaf (ints .i64 (row c))))]⟩ : St))
  generalize (Q.map fun c => (D.sl .leaf (ints .i64 (row c)))) = LQ at *
  simp -implicitDefEqProofs [Zo_L0, dn_cond]
 | r + 1, k, Q, hk, hq, hQ => by
  have hm : m ≠ 0 := fun h => by rw [h, Pol.len_zero] at h2; omega
  have hlt : k < b.length := by omega
  have hm1 := List.getElem_mem hlt
  have hbk := hb _ hm1
  have hik : i + k < N := by omega
  have hikQ : i + k < Q.length := by omega
  have hq1 := hQ _ (List.getElem_mem hikQ)
  have w0 : IntKind.i64.wrap ((i : Int) + k) = ((i + k : Nat) : Int) := (w64 (x := (i : Int) + k) (by omega)).trans (by omega)
  have hs0 : (0 : Int) ≤ (i : Int) + k := by omega
  have hs1 : ((i : Int) + k).toNat = i + k := by omega
  have w4 : IntKind.i64.wrap ((k : Int) + 1) = ((k + 1 : Nat) : Int) := (w64 (x := (k : Int) + 1) (by omega)).trans (by omega)
  have e1 := hfr p m b[k] i h2 hml (by omega) (by omega)
  have hfl := frIt_1000 hm hml hbk (i % (m.len - 1))
  have e2 := hpr p m x (frIt m (i % (m.len - 1)) b[k]) hm hml (by omega) (by omega)
  have hl := Pol.len_mod (x * frIt m (i % (m.len - 1)) b[k]) hm
  have e3 := hco p Q[i + k] (x * frIt m (i % (m.len - 1)) b[k] % m) (by omega) (by omega)
  have hl2 := Pol.len_add_le (a := Q[i + k]) (b := x * frIt m (i % (m.len - 1)) b[k] % m) (n := 64) hq1 (by omega)
  have hadd : addAt Q (i + k) (x * frIt m (i % (m.len - 1)) b[k] % m) = Q.set (i + k) (Q[i + k] + x * frIt m (i % (m.len - 1)) b[k] % m) := by
   unfold addAt; rw [List.getElem?_eq_getElem hikQ]; rfl
  have hQ' : ∀ c ∈ addAt Q (i + k) (x * frIt m (i % (m.len - 1)) b[k] % m), c.len ≤ 64 := fun c hc => by
   rw [hadd] at hc
   rcases List.mem_or_eq_of_mem_set hc with h | rfl
   ·exact hQ c h
   ·exact hl2
  obtain ⟨g1, ih⟩ := l_by0 hfr hpr hco (a := a) h2 hml hx hb hN hi (cp := cp) r (k + 1) (addAt Q (i + k) (x * frIt m (i % (m.len - 1)) b[k] % m)) (by omega) (by rw [addAt_length]; exact hq) hQ'
  have hby : byIn m x i k (b.drop k) Q = byIn m x i (k + 1) (b.drop (k + 1)) (addAt Q (i + k) (x * frIt m (i % (m.len - 1)) b[k] % m)) := by
   rw [List.drop_eq_getElem_cons hlt]; rfl
  rw [hby]
  refine ⟨g1, dn_round ?_ ih⟩
  have hset : ((addAt Q (i + k) (x * frIt m (i % (m.len - 1)) b[k] % m)).map fun c => (D.sl .leaf (ints .i64 (row c)))) = (Q.map fun c => (D.sl .leaf (ints .i64 (row c)))).set (i + k) (D.sl .leaf (ints .i64 (row (Q[i + k] + x * frIt m (i % (m.len - 1)) b[k] % m)))) := by
   rw [hadd, List.map_set]
  rw [hset]
  have hLQ : (Q.map fun c => (D.sl .leaf (ints .i64 (row c)))).length = N := by rw [List.length_map]; exact hq
  have hx2 : ∀ h : i + k < (Q.map fun c => (D.sl .leaf (ints .i64 (row c)))).length, (Q.map fun c => (D.sl .leaf (ints .i64 (row c))))[i + k]'h = (D.sl .leaf (ints .i64 (row Q[i + k]))) := fun h => by rw [List.getElem_map]
  generalize row (Q[i + k] + x * frIt m (i % (m.len - 1)) b[k] % m) = R1 at *
  generalize row (x * frIt m (i % (m.len - 1)) b[k] % m) = R2 at *
  generalize row (frIt m (i % (m.len - 1)) b[k]) = R3 at *
  generalize row Q[i + k] = R4 at *
  generalize (Q.map fun c => (D.sl .leaf (ints .i64 (row c)))) = LQ at *
  simp -implicitDefEqProofs [Zo_L0, dn_cond, hlt, hik, hs0, hs1, hLQ, hx2, e1, e2, e3, w0, w4]
theorem l_by1 {O : Oracle} (hfr : K_frob O) (hpr : K_product O) (hco : K_combine2 O) {p : Int} [IsP p] {m : Fp p} {a b : List (Fp p)} (h2 : 2 ≤ m.len) (hml : m.len ≤ 64) (ha : ∀ c ∈ a, c.len ≤ 64) (hb : ∀ c ∈ b, c.len ≤ 64) {N : Nat} (hN : N < 100000) (hab : a.length + b.length ≤ N + 1) (hb1 : 1 ≤ b.length) {cp : Option Nat} : ∀ (r i : Nat) (Q : List (Fp p)), i + r = a.length → Q.length = N → (∀ c ∈ Q, c.len ≤ 64) →
 (∀ c ∈ byOut m b i (a.drop i) Q, c.len ≤ 64) ∧
 dn O 0 (.loop Zo_L1) ⟨[(2, .d (skD b)), (3, .ptr 0 []), (7, .sl 1 [] 0 N cp), (27, .d (skD a)), (28, (.d (.int .i64 a.length))), (29, (.d (.int .i64 i)))], [.box false (fldD m), .sl false .leaf (Q.map fun c => (D.sl .leaf (ints .i64 (row c))))]⟩ =
  some (.exit 0, ⟨[(2, .d (skD b)), (3, .ptr 0 []), (7, .sl 1 [] 0 N cp), (27, .d (skD a)), (28, (.d (.int .i64 a.length))), (29, (.d (.int .i64 a.length))), (30, (.d (.bool false)))], [.box false (fldD m), .sl false .leaf ((byOut m b i (a.drop i) Q).map fun c => (D.sl .leaf (ints .i64 (row c))))]⟩)
 | 0, i, Q, hi, hq, hQ => by
  obtain rfl : i = a.length := by omega
  rw [List.drop_length]
  refine ⟨hQ, dn_stop ?_⟩
  show _ = some (_, (⟨_, [_, .sl false .leaf (Q.map fun c => (D.sl .leaf (ints .i64 (row c))))]⟩ : St))
  generalize (Q.map fun c => (D.sl .leaf (ints .i64 (row c)))) = LQ at *
  simp -implicitDefEqProofs [Zo_L1, dn_cond]
 | r + 1, i, Q, hi, hq, hQ => by
  have hlt : i < a.length := by omega
  have hm1 := List.getElem_mem hlt
  have w4 : IntKind.i64.wrap ((i : Int) + 1) = ((i + 1 : Nat) : Int) := (w64 (x := (i : Int) + 1) (by omega)).trans (by omega)
  obtain ⟨g1, e1⟩ := l_by0 hfr hpr hco (a := a) h2 hml (ha _ hm1) hb hN (i := i) (by omega) (cp := cp) b.length 0 Q (Nat.zero_add _) hq hQ
  have e00 : ((0 : Nat) : Int) = 0 := rfl
  rw [e00, List.drop_zero] at e1
  rw [List.drop_zero] at g1
  obtain ⟨g2, ih⟩ := l_by1 hfr hpr hco h2 hml ha hb hN hab hb1 (cp := cp) r (i + 1) (byIn m a[i] i 0 b Q) (by omega) (by rw [byIn_length]; exact hq) g1
  have hby : byOut m b i (a.drop i) Q = byOut m b (i + 1) (a.drop (i + 1)) (byIn m a[i] i 0 b Q) := by
   rw [List.drop_eq_getElem_cons hlt]; rfl
  rw [hby]
  refine ⟨g2, dn_round ?_ ih⟩
  generalize ((byIn m a[i] i 0 b Q).map fun c => (D.sl .leaf (ints .i64 (row c)))) = LQ2 at *
  generalize (Q.map fun c => (D.sl .leaf (ints .i64 (row c)))) = LQ at *
  simp -implicitDefEqProofs [Zo_L1, dn_cond, hlt, e1, w4]
noncomputable def mulS {p : Int} [IsP p] (m : Fp p) (a b : List (Fp p)) : List (Fp p) := byOut m b 0 a (List.replicate (a.length + b.length - 1) 0)
def K_by (O : Oracle) : Prop := ∀ (p : Int) [IsP p] (m : Fp p) (a b : List (Fp p)), 2 ≤ m.len → m.len ≤ 64 → (∀ c ∈ a, c.len ≤ 64) → (∀ c ∈ b, c.len ≤ 64) → a.length < 10000 → b.length < 10000 →
 ask O Fo [fldD m, skD a, skD b] = some (if a.length = 0 ∨ b.length = 0 then skD ([] : List (Fp p)) else skD (trimS (mulS m a b)))
theorem k_by (hT : T Fo = some Zo) (hfr : K_frob (den T A)) (hpr : K_product (den T A)) (hco : K_combine2 (den T A)) (htr : K_sktrim (den T A)) : K_by (den T A) := by
 intro p ip m a b h2 hml ha hb hal hbl
 have hsa : skD a = .sl .leaf (a.map fun c => (D.sl .leaf (ints .i64 (row c)))) := rfl
 have hsb : skD b = .sl .leaf (b.map fun c => (D.sl .leaf (ints .i64 (row c)))) := rfl
 have hLa : (a.map fun c => (D.sl .leaf (ints .i64 (row c)))).length = a.length := List.length_map ..
 have hLb : (b.map fun c => (D.sl .leaf (ints .i64 (row c)))).length = b.length := List.length_map ..
 by_cases h0 : a.length = 0 ∨ b.length = 0
 ·rw [if_pos h0, hsa, hsb]
  refine ask_of hT rfl ?_
  generalize (a.map fun c => (D.sl .leaf (ints .i64 (row c)))) = LA at *
  generalize (b.map fun c => (D.sl .leaf (ints .i64 (row c)))) = LB at *
  rcases h0 with h0 | h0
  ·rw [h0] at hLa
   simp -implicitDefEqProofs [Zo, Zo_B, dn_cond, hLa, List.replicate]
  ·rw [h0] at hLb
   by_cases h1 : LA.length = 0
   ·simp -implicitDefEqProofs [Zo, Zo_B, dn_cond, h1, List.replicate]
   ·simp -implicitDefEqProofs [Zo, Zo_B, dn_cond, h1, hLb, List.replicate]
 ·rw [if_neg h0]
  have ha1 : 1 ≤ a.length := by omega
  have hb1 : 1 ≤ b.length := by omega
  have hz : ((List.replicate (a.length + b.length - 1) (0 : Fp p)).map fun c => (D.sl .leaf (ints .i64 (row c)))) = List.replicate (a.length + b.length - 1) (.sl .leaf []) := by rw [List.map_replicate, row_zero, ints_nil]
  have hl0 : ∀ c ∈ List.replicate (a.length + b.length - 1) (0 : Fp p), c.len ≤ 64 := fun c hc => by rw [List.eq_of_mem_replicate hc, Pol.len_zero]; omega
  obtain ⟨g1, e1⟩ := l_by1 (O := den T A) hfr hpr hco h2 hml ha hb (N := a.length + b.length - 1) (by omega) (by omega) hb1 (cp := some (a.length + b.length - 1)) a.length 0 (List.replicate (a.length + b.length - 1) 0) (Nat.zero_add _) (List.length_replicate ..) hl0
  have e00 : ((0 : Nat) : Int) = 0 := rfl
  have em : byOut m b 0 (a.drop 0) (List.replicate (a.length + b.length - 1) 0) = mulS m a b := by rw [List.drop_zero]; rfl
  rw [e00, em, hz] at e1
  have hml2 : (mulS m a b).length = a.length + b.length - 1 := by unfold mulS; rw [byOut_length, List.length_replicate]
  have e2 := htr p (mulS m a b) (by omega)
  have hsm : skD (mulS m a b) = .sl .leaf ((mulS m a b).map fun c => (D.sl .leaf (ints .i64 (row c)))) := rfl
  have hLm : ((mulS m a b).map fun c => (D.sl .leaf (ints .i64 (row c)))).length = a.length + b.length - 1 := by rw [List.length_map]; exact hml2
  have ht : ((mulS m a b).map fun c => (D.sl .leaf (ints .i64 (row c)))).take (a.length + b.length - 1) = ((mulS m a b).map fun c => (D.sl .leaf (ints .i64 (row c)))) := List.take_of_length_le (by omega)
  rw [hsm] at e2
  have n1 : ¬ ((a.length : Int) = 0) := by omega
  have n2 : ¬ ((b.length : Int) = 0) := by omega
  have n1' : a.length ≠ 0 := by omega
  have n2' : b.length ≠ 0 := by omega
  have w1 : IntKind.i64.wrap ((a.length : Int) + b.length) = (a.length : Int) + b.length := w64 (by omega)
  have w2 : IntKind.i64.wrap ((a.length : Int) + b.length - 1) = ((a.length + b.length - 1 : Nat) : Int) := (w64 (by omega)).trans (by omega)
  have h24 : (a.length + b.length - 1) * 24 ≤ 1099511627776 := by omega
  generalize skD (trimS (mulS m a b)) = TD at *
  rw [hsa, hsb] at e1 ⊢
  refine ask_of hT rfl ?_
  generalize ((mulS m a b).map fun c => (D.sl .leaf (ints .i64 (row c)))) = LM at *
  generalize (a.map fun c => (D.sl .leaf (ints .i64 (row c)))) = LA at *
  generalize (b.map fun c => (D.sl .leaf (ints .i64 (row c)))) = LB at *
  generalize a.length + b.length - 1 = N at *
  simp -implicitDefEqProofs [Zo, Zo_B, dn_cond, hLa, hLb, n1', n2', w1, w2, h24, e1, e2, hLm, ht, List.replicate]
end Pe

namespace Pe
open Go Gq
variable {T : Nat → Option Fn} {A : Oracle}
end Pe

namespace Pe
open Go Gq
variable {T : Nat → Option Fn} {A : Oracle}
section
variable {p : Int}
theorem addAt_get_ne {Q : List (Fp p)} {n j : Nat} {v : Fp p} (h : n ≠ j) : (addAt Q n v)[j]? = Q[j]? := by
 unfold addAt; rw [List.getElem?_set_ne h]
end
section
variable {p : Int} [IsP p]
theorem byIn_get_ge {m x : Fp p} {i n : Nat} : ∀ (k : Nat) (b Q : List (Fp p)), i + k + b.length ≤ n → (byIn m x i k b Q)[n]? = Q[n]?
 | _, [], _, _ => rfl
 | k, y :: ys, Q, h => by
  rw [List.length_cons] at h
  show (byIn m x i (k + 1) ys (addAt Q (i + k) _))[n]? = _
  rw [byIn_get_ge (k + 1) ys _ (by omega), addAt_get_ne (by omega)]
theorem byOut_get_ge {m : Fp p} {b : List (Fp p)} {n : Nat} : ∀ (i : Nat) (a Q : List (Fp p)), i + a.length + b.length ≤ n + 1 → (byOut m b i a Q)[n]? = Q[n]?
 | _, [], _, _ => rfl
 | i, x :: xs, Q, h => by
  rw [List.length_cons] at h
  show (byOut m b (i + 1) xs (byIn m x i 0 b Q))[n]? = _
  rw [byOut_get_ge (i + 1) xs _ (by omega), byIn_get_ge 0 b Q (by omega)]
theorem byIn_snoc {m x y : Fp p} {i : Nat} : ∀ (k : Nat) (b Q : List (Fp p)), byIn m x i k (b ++ [y]) Q = addAt (byIn m x i k b Q) (i + (k + b.length)) (x * frIt m (i % (m.len - 1)) y % m)
 | _, [], _ => rfl
 | k, z :: zs, Q => by
  show byIn m x i (k + 1) (zs ++ [y]) (addAt Q (i + k) _) = addAt (byIn m x i (k + 1) zs (addAt Q (i + k) _)) _ _
  rw [byIn_snoc (k + 1) zs, List.length_cons, show i + (k + 1 + zs.length) = i + (k + (zs.length + 1)) by omega]
theorem byOut_snoc {m x : Fp p} {b : List (Fp p)} : ∀ (i : Nat) (a Q : List (Fp p)), byOut m b i (a ++ [x]) Q = byIn m x (i + a.length) 0 b (byOut m b i a Q)
 | _, [], _ => rfl
 | i, z :: zs, Q => by
  show byOut m b (i + 1) (zs ++ [x]) (byIn m z i 0 b Q) = byIn m x _ 0 b (byOut m b (i + 1) zs (byIn m z i 0 b Q))
  rw [byOut_snoc (i + 1) zs, List.length_cons, show i + 1 + zs.length = i + (zs.length + 1) by omega]
theorem mul_mod_ne {m x y : Fp p} (hi : Irr m) (hx : x ≠ 0) (hxl : x.len < m.len) (hy : y ≠ 0) (hyl : y.len < m.len) : x * y % m ≠ 0 := fun h => by
 rcases hi.prime ((dv_iff_mod hi.ne).2 h) with h | h
 ·have := Dv.len h hx; omega
 ·have := Dv.len h hy; omega
theorem frIt_ne {m : Fp p} (hm : Fld m) : ∀ (k : Nat) (y : Fp p), y ≠ 0 → y.len < m.len → frIt m k y ≠ 0
 | 0, _, h, _ => h
 | k + 1, y, h, hl => by
  obtain ⟨h1, h2⟩ := pw_res hm h hl p.toNat
  exact frIt_ne hm k _ h1 h2
end
section
variable {p : Int}
theorem stl_last {S : List (Fp p)} : ∀ (n k : Nat), stl S n = k + 1 → S[k]? ≠ some 0
 | 0, k, h => by cases h
 | n + 1, k, h => by
  unfold stl at h
  split at h
  ·exact stl_last n k h
  ·rename_i h0
   obtain rfl : n = k := by omega
   exact h0
theorem stl_top {S : List (Fp p)} {n : Nat} (h : S[n]? ≠ some 0) : stl S (n + 1) = n + 1 := by
 unfold stl; rw [if_neg h]
theorem trimS_form {S : List (Fp p)} (h : (trimS S).length ≠ 0) : ∃ a x, trimS S = a ++ [x] ∧ x ≠ 0 := by
 have hle := stl_le S S.length
 have hl : (trimS S).length = stl S S.length := by unfold trimS; rw [List.length_take]; omega
 obtain ⟨k, hk⟩ : ∃ k, stl S S.length = k + 1 := ⟨stl S S.length - 1, by omega⟩
 have h1 := stl_last _ _ hk
 have hlt : k < S.length := by omega
 rw [List.getElem?_eq_getElem hlt] at h1
 refine ⟨S.take k, S[k], ?_, fun h => h1 (by rw [h])⟩
 unfold trimS
 rw [hk, List.take_succ_eq_append_getElem hlt]
theorem trimS_top {S : List (Fp p)} {n : Nat} (hl : S.length = n + 1) (h : S[n]? ≠ some 0) : trimS S = S := by
 unfold trimS
 rw [hl, stl_top h, ← hl, List.take_length]
end
section
variable {p : Int} [IsP p]
theorem mulS_top {m x y : Fp p} (hm : Fld m) {a b : List (Fp p)} (hx : x ≠ 0) (hxl : x.len < m.len) (hy : y ≠ 0) (hyl : y.len < m.len) : trimS (mulS m (a ++ [x]) (b ++ [y])) = mulS m (a ++ [x]) (b ++ [y]) := by
 have hl : (mulS m (a ++ [x]) (b ++ [y])).length = a.length + b.length + 1 := by
  unfold mulS
  rw [byOut_length, List.length_replicate, List.length_append, List.length_append]
  simp only [List.length_cons, List.length_nil]; omega
 refine trimS_top hl ?_
 have hfy : frIt m (a.length % (m.len - 1)) y ≠ 0 := frIt_ne hm _ y hy hyl
 have hfl := frIt_len hm.mon.2 (a.length % (m.len - 1)) y hyl
 have hne := mul_mod_ne hm.irr hx hxl hfy hfl
 unfold mulS
 rw [byOut_snoc, byIn_snoc]
 unfold addAt
 rw [byIn_get_ge _ _ _ (by omega), byOut_get_ge _ _ _ (by rw [List.length_append, List.length_cons, List.length_nil]; omega)]
 have hN : 0 + a.length + (0 + b.length) = a.length + b.length := by omega
 rw [hN, List.getElem?_set_self (by rw [byIn_length, byOut_length, List.length_replicate, List.length_append, List.length_append]; simp only [List.length_cons, List.length_nil]; omega)]
 rw [List.getElem?_replicate, if_pos (by rw [List.length_append, List.length_append]; simp only [List.length_cons, List.length_nil]; omega)]
 show some ((0 : Fp p) + _) ≠ some 0
 rw [Gq.zero_add, show 0 + a.length = a.length by omega]
 exact fun h => hne (Option.some.inj h)
noncomputable def prodS (m : Fp p) (a b : List (Fp p)) : List (Fp p) := if a.length = 0 ∨ b.length = 0 then [] else trimS (mulS m a b)
end
end Pe

namespace Pe
open Go Gq
variable {T : Nat → Option Fn} {A : Oracle}
section
variable {p : Int} [IsP p]
theorem addAt_lens {N n : Nat} {Q : List (Fp p)} {v : Fp p} (hQ : ∀ c ∈ Q, c.len ≤ N) (hv : v.len ≤ N) : ∀ c ∈ addAt Q n v, c.len ≤ N := fun c hc => by
 unfold addAt at hc
 rcases List.mem_or_eq_of_mem_set hc with h | rfl
 ·exact hQ c h
 ·refine Pol.len_add_le ?_ hv
  cases he : Q[n]? with
  | none => show (0 : Fp p).len ≤ N; rw [Pol.len_zero]; omega
  | some w => exact hQ w (List.mem_of_getElem? he)
end
end Pe



namespace Pe
open Go Gq
variable {T : Nat → Option Fn} {A : Oracle}
abbrev z6 : List Int := List.replicate 6 0
section
variable {p : Int} [IsP p]
noncomputable def mono (p : Int) (i : Nat) : Fp p := numP p (p ^ i)
end
end Pe

namespace Pe
open Go Gq
variable {T : Nat → Option Fn} {A : Oracle}
section
variable {O : Oracle} {g : Nat} {first caps : List D}
structure CmpRow (O : Oracle) (g : Nat) (first caps : List D) (f : D → Int) (s : Sh) (cs : List D) : Prop where
 nf : noTup first
 nc : noTup caps
 nx : noTup cs
 sh : AllSh s cs
 ask : ∀ x ∈ cs, ∀ y ∈ cs, ∃ v : Int, ask O g (first ++ [x, y] ++ caps) = some (D.int .i64 v) ∧ (v < 0 ↔ f x < f y)
theorem CmpRow.perm {f : D → Int} {s : Sh} {cs ds : List D} (h : CmpRow O g first caps f s cs) (p : ds.Perm cs) : CmpRow O g first caps f s ds :=
 ⟨h.nf, h.nc, fun x hx => h.nx x (p.subset hx), fun x hx => h.sh x (p.subset hx), fun x hx y hy => h.ask x (p.subset hx) y (p.subset hy)⟩
theorem CmpRow.call {f : D → Int} {s : Sh} {cs : List D} (h : CmpRow O g first caps f s cs) {hp : Heap} {np : Nat} {news : List Nat} {x y : D} (hx : x ∈ cs) (hy : y ∈ cs) :
 ∃ v : Int, kCall O np hp .flat news (g, first.map .d, caps.map .d) [.d x, .d y] = some (.d (D.int .i64 v), hp) ∧ (v < 0 ↔ f x < f y) := by
 have e : toDs hp (first.map .d ++ [.d x, .d y] ++ caps.map .d) = some (first ++ [x, y] ++ caps) :=
  toDs_app hp (toDs_app hp (toDs_map hp h.nf) (toDs_map hp (ds := [x, y]) (by intro z hz; simp at hz; rcases hz with rfl | rfl; exact h.nx _ hx; exact h.nx _ hy))) (toDs_map hp h.nc)
 obtain ⟨v, e1, e2⟩ := h.ask x hx y hy
 refine ⟨v, ?_, e2⟩
 rw [kCall_flat, e, Option.bind_some, kAsk_ask, e1, Option.bind_some, kAns_flat, show (D.int IntKind.i64 v).flat = true from rfl, if_pos rfl]
end
end Pe

namespace Pe
open Go Gq
variable {T : Nat → Option Fn} {A : Oracle}
section
variable {p : Int}
noncomputable def elim (a b : Fp p) : Fp p := b + Pol.C (-(b.c (a.len - 1))) * a
noncomputable abbrev rowD (a : Fp p) : D := (D.sl .leaf (ints .i64 (row a)))
end
section
variable {p : Int} [IsP p]
structure Desc (N : Nat) (L : List (Fp p)) : Prop where
 pw : L.Pairwise fun x y => y.len < x.len
 mon : ∀ b ∈ L, Monic b
 le : ∀ b ∈ L, b.len ≤ N
theorem Desc.nil (N : Nat) : Desc N ([] : List (Fp p)) := ⟨List.Pairwise.nil, (fun _ h => by cases h), (fun _ h => by cases h)⟩
theorem Desc.tail {N : Nat} {b : Fp p} {L : List (Fp p)} (h : Desc N (b :: L)) : Desc N L ∧ ∀ c ∈ L, c.len < b.len :=
 ⟨⟨h.pw.tail, fun c hc => h.mon c (by simp [hc]), fun c hc => h.le c (by simp [hc])⟩, (List.pairwise_cons.1 h.pw).1⟩
theorem Desc.length : ∀ {N : Nat} {L : List (Fp p)}, Desc N L → L.length ≤ N
 | N, [], _ => Nat.zero_le _
 | N, b :: L, h => by
  obtain ⟨h1, h2⟩ := h.tail
  have hb := Pol.len_pos (h.mon b (by simp)).2
  have hle := h.le b (by simp)
  have := Desc.length (N := b.len - 1) ⟨h1.pw, h1.mon, fun c hc => by have := h2 c hc; omega⟩
  rw [List.length_cons]; omega
end
section
variable {p : Int}
end
end Pe

namespace Pe
open Go Gq
variable {T : Nat → Option Fn} {A : Oracle}
section
variable {p : Int} [IsP p]
end
end Pe



namespace Pe
open Go Gq
variable {T : Nat → Option Fn} {A : Oracle}
section
variable {p : Int} [IsP p]
end
end Pe


namespace Pe
open Go Gq
variable {T : Nat → Option Fn} {A : Oracle}
section
variable {p : Int}
end
section
variable {p : Int} [IsP p]
end
end Pe


namespace Pe
open Go Gq
variable {T : Nat → Option Fn} {A : Oracle}
end Pe

namespace Pe
open Go Gq
variable {T : Nat → Option Fn} {A : Oracle}
end Pe


namespace Pe
open Go Gq
variable {T : Nat → Option Fn} {A : Oracle}
section
variable {p : Int} [IsP p]
end
end Pe


namespace Pe
open Go Gq
variable {T : Nat → Option Fn} {A : Oracle}
abbrev Dr4 := Int × List Int × List Int × List Int
abbrev drE (q : Dr4) : D := .st [.leaf, .arr 64 .leaf, .arr 64 .leaf, .arr 64 .leaf] [(D.int .i64 q.1), (D.arr 64 .leaf (ints .u8 q.2.1)), (D.arr 64 .leaf (ints .u8 q.2.2.1)), (D.arr 64 .leaf (ints .u8 q.2.2.2))]
abbrev dqSh : Sh := .st [.leaf, .arr 64 .leaf, .arr 64 .leaf, .arr 64 .leaf]
section
variable {p : Int} [IsP p]
noncomputable def mkq (p : Int) (l : List Int) (g d : Nat) : Dr4 := (p, l, pad (row (numP p g)), pad (row (numP p d)))
noncomputable def inQ (p : Int) (l : List Int) (g : Nat) : Nat → Nat → List Dr4
 | _, 0 => []
 | d, r + 1 => mkq p l g d :: inQ p l g (d + 1) r
noncomputable def outQ (p : Int) (l : List Int) (n : Nat) : Nat → Nat → List Dr4
 | _, 0 => []
 | g, r + 1 => inQ p l g 1 (n - 1) ++ outQ p l n (g + 1) r
theorem inQ_length (p : Int) (l : List Int) (g : Nat) : ∀ r d : Nat, (inQ p l g d r).length = r
 | 0, _ => rfl
 | r + 1, d => by rw [inQ, List.length_cons, inQ_length p l g r]
theorem outQ_length (p : Int) (l : List Int) (n : Nat) : ∀ r g : Nat, (outQ p l n g r).length = r * (n - 1)
 | 0, _ => by rw [outQ, Nat.zero_mul]; rfl
 | r + 1, g => by rw [outQ, List.length_append, inQ_length, outQ_length p l n r, Nat.succ_mul]; omega
theorem inQ_sh {p : Int} [IsP p] {l : List Int} (hl : l.length = 64) {g : Nat} : ∀ r d : Nat, ∀ q ∈ inQ p l g d r, q.2.1.length = 64 ∧ q.2.2.1.length = 64 ∧ q.2.2.2.length = 64
 | 0, _, q, h => by cases h
 | r + 1, d, q, h => by
  rcases List.mem_cons.1 h with rfl | h
  ·exact ⟨hl, pad_length _, pad_length _⟩
  ·exact inQ_sh hl r (d + 1) q h
theorem outQ_sh {p : Int} [IsP p] {l : List Int} (hl : l.length = 64) {n : Nat} : ∀ r g : Nat, ∀ q ∈ outQ p l n g r, q.2.1.length = 64 ∧ q.2.2.1.length = 64 ∧ q.2.2.2.length = 64
 | 0, _, q, h => by cases h
 | r + 1, g, q, h => by
  rcases List.mem_append.1 h with h | h
  ·exact inQ_sh hl _ _ q h
  ·exact outQ_sh hl r (g + 1) q h
theorem numP_of {O : Oracle} (hnu : K_numbered O) (hpo : K_poly O) {g : Nat} (hg : g < 1000) : ask O F1a [(D.int .i64 p), (D.int .i64 g)] = some (D.sl .leaf (ints .i64 (row (numP p g)))) ∧ ask O F1m [(D.sl .leaf (ints .i64 (row (numP p g))))] = some (D.arr 64 .leaf (ints .u8 (pad (row (numP p g))))) :=
 ⟨hnu p g (by omega) (by omega), hpo p (numP p g) (numP_len _)⟩
theorem l_all0 {O : Oracle} (hnu : K_numbered O) (hpo : K_poly O) {m : Fp p} {n g : Nat} (hn : n ≤ 16) (hg : g < n) : ∀ (r d : Nat) (Q : List Dr4) (cp : Option Nat), d + r = n → Q.length + r ≤ 1000 → ∃ cp' : Option Nat,
 dn O 0 (.loop Zf_L0) ⟨[(0, (.d (.int .i64 p))), (3, .ptr 0 []), (5, .ptr 1 []), (6, (.d (.int .i64 n))), (7, .sl 2 [] 0 Q.length cp), (8, (.d (.int .i64 g))), (9, (.d (.int .i64 d))), (19, (.d (.int .i64 n))), (20, (.d (.int .i64 g)))], [.box false (D.arr 64 .leaf (ints .u8 (pad (row m)))), .box false (fldD m), .sl false dqSh (Q.map drE), .hole, .hole]⟩ =
  some (.exit 2, ⟨[(0, (.d (.int .i64 p))), (3, .ptr 0 []), (5, .ptr 1 []), (6, (.d (.int .i64 n))), (7, .sl 2 [] 0 (Q.length + r) cp'), (8, (.d (.int .i64 g))), (9, (.d (.int .i64 n))), (19, (.d (.int .i64 n))), (20, (.d (.int .i64 g))), (25, (.d (.bool false)))], [.box false (D.arr 64 .leaf (ints .u8 (pad (row m)))), .box false (fldD m), .sl false dqSh ((Q ++ inQ p (pad (row m)) g d r).map drE), .hole, .hole]⟩)
 | 0, d, Q, cp, hd, hq => by
  obtain rfl : d = n := by omega
  refine ⟨cp, dn_stop ?_⟩
  rw [inQ, List.append_nil, Nat.add_zero]
  generalize Q.map drE = QD at *
  generalize pad (row m) = Pm at *
  simp -implicitDefEqProofs [Zf_L0, dn_cond]
 | r + 1, d, Q, cp, hd, hq => by
  have hlt : d < n := by omega
  obtain ⟨e1, e2⟩ := numP_of (p := p) hnu hpo (show g < 1000 by omega)
  obtain ⟨e3, e4⟩ := numP_of (p := p) hnu hpo (show d < 1000 by omega)
  have w4 : IntKind.i64.wrap ((d : Int) + 1) = ((d + 1 : Nat) : Int) := (w64 (x := (d : Int) + 1) (by omega)).trans (by omega)
  have hQD : (Q.map drE).length = Q.length := List.length_map ..
  have htq : (Q.map drE).take Q.length = Q.map drE := List.take_of_length_le (by omega)
  have h200 : (Q.length + 1) * 200 ≤ 1099511627776 := by omega
  obtain ⟨cp', ih⟩ := l_all0 hnu hpo (m := m) hn hg r (d + 1) (Q ++ [mkq p (pad (row m)) g d]) none (by omega) (by rw [List.length_append, List.length_singleton]; omega)
  rw [List.length_append, List.length_singleton, show Q.length + 1 + r = Q.length + (r + 1) by omega, show Q ++ [mkq p (pad (row m)) g d] ++ inQ p (pad (row m)) g (d + 1) r = Q ++ inQ p (pad (row m)) g d (r + 1) by rw [List.append_assoc]; rfl] at ih
  refine ⟨cp', dn_round ?_ ih⟩
  rw [show (Q ++ [mkq p (pad (row m)) g d]).map drE = Q.map drE ++ [drD p (pad (row m)) (pad (row (numP p g))) (pad (row (numP p d)))] by rw [List.map_append]; rfl]
  have hfd : fldD m = .st [.leaf, .leaf] [(D.int .i64 p), (D.sl .leaf (ints .i64 (row m)))] := rfl
  rw [hfd]
  generalize pad (row (numP p g)) = P1 at *
  generalize pad (row (numP p d)) = P2 at *
  generalize row (numP p g) = R1 at *
  generalize row (numP p d) = R2 at *
  generalize Q.map drE = QD at *
  generalize pad (row m) = Pm at *
  generalize row m = Rm at *
  generalize Q.length = ql at *
  simp -implicitDefEqProofs [Zf_L0, dn_cond, hlt, e1, e2, e3, e4, hQD, htq, h200, w4, List.replicate]
theorem l_all1 {O : Oracle} (hnu : K_numbered O) (hpo : K_poly O) {m : Fp p} {n : Nat} (hn : n ≤ 16) (hn1 : 1 ≤ n) : ∀ (r g : Nat) (Q : List Dr4) (cp : Option Nat), g + r = n → Q.length ≤ g * 16 → ∃ (cp' : Option Nat) (k : Nat),
 dn O 0 (.loop Zf_L1) ⟨[(0, (.d (.int .i64 p))), (3, .ptr 0 []), (5, .ptr 1 []), (6, (.d (.int .i64 n))), (7, .sl 2 [] 0 Q.length cp), (19, (.d (.int .i64 n))), (20, (.d (.int .i64 g)))], [.box false (D.arr 64 .leaf (ints .u8 (pad (row m)))), .box false (fldD m), .sl false dqSh (Q.map drE), .hole, .hole]⟩ =
  some (.exit 0, ⟨[(0, (.d (.int .i64 p))), (3, .ptr 0 []), (5, .ptr 1 []), (6, (.d (.int .i64 n))), (7, .sl 2 [] 0 k cp'), (19, (.d (.int .i64 n))), (20, (.d (.int .i64 n))), (21, (.d (.bool false)))], [.box false (D.arr 64 .leaf (ints .u8 (pad (row m)))), .box false (fldD m), .sl false dqSh ((Q ++ outQ p (pad (row m)) n g r).map drE), .hole, .hole]⟩) ∧ k = (Q ++ outQ p (pad (row m)) n g r).length
 | 0, g, Q, cp, hg, hq => by
  obtain rfl : g = n := by omega
  refine ⟨cp, Q.length, dn_stop ?_, by rw [outQ, List.append_nil]⟩
  rw [outQ, List.append_nil]
  generalize Q.map drE = QD at *
  generalize pad (row m) = Pm at *
  simp -implicitDefEqProofs [Zf_L1, dn_cond]
 | r + 1, g, Q, cp, hg, hq => by
  have hlt : g < n := by omega
  have w4 : IntKind.i64.wrap ((g : Int) + 1) = ((g + 1 : Nat) : Int) := (w64 (x := (g : Int) + 1) (by omega)).trans (by omega)
  obtain ⟨c1, e⟩ := l_all0 (O := O) hnu hpo (m := m) hn hlt (n - 1) 1 Q cp (by omega) (by omega)
  have e01 : ((1 : Nat) : Int) = 1 := rfl
  rw [e01] at e
  have hlen : (Q ++ inQ p (pad (row m)) g 1 (n - 1)).length = Q.length + (n - 1) := by rw [List.length_append, inQ_length]
  obtain ⟨c2, k, ih, hk⟩ := l_all1 hnu hpo (m := m) hn hn1 r (g + 1) (Q ++ inQ p (pad (row m)) g 1 (n - 1)) c1 (by omega) (by rw [hlen]; omega)
  rw [hlen, List.append_assoc, show inQ p (pad (row m)) g 1 (n - 1) ++ outQ p (pad (row m)) n (g + 1) r = outQ p (pad (row m)) n g (r + 1) from rfl] at ih
  rw [List.append_assoc, show inQ p (pad (row m)) g 1 (n - 1) ++ outQ p (pad (row m)) n (g + 1) r = outQ p (pad (row m)) n g (r + 1) from rfl] at hk
  refine ⟨c2, k, dn_round ?_ ih, hk⟩
  generalize (Q ++ inQ p (pad (row m)) g 1 (n - 1)).map drE = Q2 at *
  generalize Q.map drE = QD at *
  generalize pad (row m) = Pm at *
  generalize Q.length + (n - 1) = ql2 at *
  simp -implicitDefEqProofs [Zf_L1, dn_cond, hlt, e, w4]
theorem l_all0H {O : Oracle} (hnu : K_numbered O) (hpo : K_poly O) {m : Fp p} {n g : Nat} (hn : n ≤ 16) (hg : g < n) : ∀ (r d : Nat) (Q : List Dr4) (cp : Option Nat), d + r = n → Q.length + r ≤ 1000 → ∃ cp' : Option Nat,
 dn O 0 (.loop Zg_L0) ⟨[(0, (.d (.int .i64 p))), (3, .ptr 0 []), (5, .ptr 2 []), (6, (.d (.int .i64 n))), (7, .sl 3 [] 0 Q.length cp), (8, (.d (.int .i64 g))), (9, (.d (.int .i64 d))), (19, (.d (.int .i64 n))), (20, (.d (.int .i64 g)))], [.box false (D.arr 64 .leaf (ints .u8 (pad (row m)))), .hole, .box false (fldD m), .sl false dqSh (Q.map drE), .hole, .hole]⟩ =
  some (.exit 2, ⟨[(0, (.d (.int .i64 p))), (3, .ptr 0 []), (5, .ptr 2 []), (6, (.d (.int .i64 n))), (7, .sl 3 [] 0 (Q.length + r) cp'), (8, (.d (.int .i64 g))), (9, (.d (.int .i64 n))), (19, (.d (.int .i64 n))), (20, (.d (.int .i64 g))), (25, (.d (.bool false)))], [.box false (D.arr 64 .leaf (ints .u8 (pad (row m)))), .hole, .box false (fldD m), .sl false dqSh ((Q ++ inQ p (pad (row m)) g d r).map drE), .hole, .hole]⟩)
 | 0, d, Q, cp, hd, hq => by
  obtain rfl : d = n := by omega
  refine ⟨cp, dn_stop ?_⟩
  rw [inQ, List.append_nil, Nat.add_zero]
  generalize Q.map drE = QD at *
  generalize pad (row m) = Pm at *
  simp -implicitDefEqProofs [Zg_L0, dn_cond]
 | r + 1, d, Q, cp, hd, hq => by
  have hlt : d < n := by omega
  obtain ⟨e1, e2⟩ := numP_of (p := p) hnu hpo (show g < 1000 by omega)
  obtain ⟨e3, e4⟩ := numP_of (p := p) hnu hpo (show d < 1000 by omega)
  have w4 : IntKind.i64.wrap ((d : Int) + 1) = ((d + 1 : Nat) : Int) := (w64 (x := (d : Int) + 1) (by omega)).trans (by omega)
  have hQD : (Q.map drE).length = Q.length := List.length_map ..
  have htq : (Q.map drE).take Q.length = Q.map drE := List.take_of_length_le (by omega)
  have h200 : (Q.length + 1) * 200 ≤ 1099511627776 := by omega
  obtain ⟨cp', ih⟩ := l_all0H hnu hpo (m := m) hn hg r (d + 1) (Q ++ [mkq p (pad (row m)) g d]) none (by omega) (by rw [List.length_append, List.length_singleton]; omega)
  rw [List.length_append, List.length_singleton, show Q.length + 1 + r = Q.length + (r + 1) by omega, show Q ++ [mkq p (pad (row m)) g d] ++ inQ p (pad (row m)) g (d + 1) r = Q ++ inQ p (pad (row m)) g d (r + 1) by rw [List.append_assoc]; rfl] at ih
  refine ⟨cp', dn_round ?_ ih⟩
  rw [show (Q ++ [mkq p (pad (row m)) g d]).map drE = Q.map drE ++ [drD p (pad (row m)) (pad (row (numP p g))) (pad (row (numP p d)))] by rw [List.map_append]; rfl]
  have hfd : fldD m = .st [.leaf, .leaf] [(D.int .i64 p), (D.sl .leaf (ints .i64 (row m)))] := rfl
  rw [hfd]
  generalize pad (row (numP p g)) = P1 at *
  generalize pad (row (numP p d)) = P2 at *
  generalize row (numP p g) = R1 at *
  generalize row (numP p d) = R2 at *
  generalize Q.map drE = QD at *
  generalize pad (row m) = Pm at *
  generalize row m = Rm at *
  generalize Q.length = ql at *
  simp -implicitDefEqProofs [Zg_L0, dn_cond, hlt, e1, e2, e3, e4, hQD, htq, h200, w4, List.replicate]
theorem l_all1H {O : Oracle} (hnu : K_numbered O) (hpo : K_poly O) {m : Fp p} {n : Nat} (hn : n ≤ 16) (hn1 : 1 ≤ n) : ∀ (r g : Nat) (Q : List Dr4) (cp : Option Nat), g + r = n → Q.length ≤ g * 16 → ∃ (cp' : Option Nat) (k : Nat),
 dn O 0 (.loop Zg_L1) ⟨[(0, (.d (.int .i64 p))), (3, .ptr 0 []), (5, .ptr 2 []), (6, (.d (.int .i64 n))), (7, .sl 3 [] 0 Q.length cp), (19, (.d (.int .i64 n))), (20, (.d (.int .i64 g)))], [.box false (D.arr 64 .leaf (ints .u8 (pad (row m)))), .hole, .box false (fldD m), .sl false dqSh (Q.map drE), .hole, .hole]⟩ =
  some (.exit 0, ⟨[(0, (.d (.int .i64 p))), (3, .ptr 0 []), (5, .ptr 2 []), (6, (.d (.int .i64 n))), (7, .sl 3 [] 0 k cp'), (19, (.d (.int .i64 n))), (20, (.d (.int .i64 n))), (21, (.d (.bool false)))], [.box false (D.arr 64 .leaf (ints .u8 (pad (row m)))), .hole, .box false (fldD m), .sl false dqSh ((Q ++ outQ p (pad (row m)) n g r).map drE), .hole, .hole]⟩) ∧ k = (Q ++ outQ p (pad (row m)) n g r).length
 | 0, g, Q, cp, hg, hq => by
  obtain rfl : g = n := by omega
  refine ⟨cp, Q.length, dn_stop ?_, by rw [outQ, List.append_nil]⟩
  rw [outQ, List.append_nil]
  generalize Q.map drE = QD at *
  generalize pad (row m) = Pm at *
  simp -implicitDefEqProofs [Zg_L1, dn_cond]
 | r + 1, g, Q, cp, hg, hq => by
  have hlt : g < n := by omega
  have w4 : IntKind.i64.wrap ((g : Int) + 1) = ((g + 1 : Nat) : Int) := (w64 (x := (g : Int) + 1) (by omega)).trans (by omega)
  obtain ⟨c1, e⟩ := l_all0H (O := O) hnu hpo (m := m) hn hlt (n - 1) 1 Q cp (by omega) (by omega)
  have e01 : ((1 : Nat) : Int) = 1 := rfl
  rw [e01] at e
  have hlen : (Q ++ inQ p (pad (row m)) g 1 (n - 1)).length = Q.length + (n - 1) := by rw [List.length_append, inQ_length]
  obtain ⟨c2, k, ih, hk⟩ := l_all1H hnu hpo (m := m) hn hn1 r (g + 1) (Q ++ inQ p (pad (row m)) g 1 (n - 1)) c1 (by omega) (by rw [hlen]; omega)
  rw [hlen, List.append_assoc, show inQ p (pad (row m)) g 1 (n - 1) ++ outQ p (pad (row m)) n (g + 1) r = outQ p (pad (row m)) n g (r + 1) from rfl] at ih
  rw [List.append_assoc, show inQ p (pad (row m)) g 1 (n - 1) ++ outQ p (pad (row m)) n (g + 1) r = outQ p (pad (row m)) n g (r + 1) from rfl] at hk
  refine ⟨c2, k, dn_round ?_ ih, hk⟩
  generalize (Q ++ inQ p (pad (row m)) g 1 (n - 1)).map drE = Q2 at *
  generalize Q.map drE = QD at *
  generalize pad (row m) = Pm at *
  generalize Q.length + (n - 1) = ql2 at *
  simp -implicitDefEqProofs [Zg_L1, dn_cond, hlt, e, w4]
theorem l_sAll0 {O : Oracle} (hof : K_sOf O) {m : Fp p} {n g : Nat} (hn : n ≤ 16) (hg : g < n) : ∀ (r d : Nat) (Q : List Dr4) (cp : Option Nat), d + r = n → Q.length + r ≤ 1000 → ∃ cp' : Option Nat,
 dn O 0 (.loop Z3a_L0) ⟨[(0, (.d (.int .i64 p))), (3, .ptr 0 []), (5, .sl 1 [] 0 Q.length cp), (6, (.d (.int .i64 n))), (7, (.d (.int .i64 g))), (8, (.d (.int .i64 d)))], [.box false (D.arr 64 .leaf (ints .u8 (pad (row m)))), .sl false dqSh (Q.map drE), .hole, .hole]⟩ =
  some (.exit 2, ⟨[(0, (.d (.int .i64 p))), (3, .ptr 0 []), (5, .sl 1 [] 0 (Q.length + r) cp'), (6, (.d (.int .i64 n))), (7, (.d (.int .i64 g))), (8, (.d (.int .i64 n))), (21, (.d (.bool false)))], [.box false (D.arr 64 .leaf (ints .u8 (pad (row m)))), .sl false dqSh ((Q ++ inQ p (pad (row m)) g d r).map drE), .hole, .hole]⟩)
 | 0, d, Q, cp, hd, hq => by
  obtain rfl : d = n := by omega
  refine ⟨cp, dn_stop ?_⟩
  rw [inQ, List.append_nil, Nat.add_zero]
  generalize Q.map drE = QD at *
  generalize pad (row m) = Pm at *
  simp -implicitDefEqProofs [Z3a_L0, dn_cond]
 | r + 1, d, Q, cp, hd, hq => by
  have hlt : d < n := by omega
  have e1 := hof p g (by omega) (by omega)
  have e2 := hof p d (by omega) (by omega)
  have w4 : IntKind.i64.wrap ((d : Int) + 1) = ((d + 1 : Nat) : Int) := (w64 (x := (d : Int) + 1) (by omega)).trans (by omega)
  have hQD : (Q.map drE).length = Q.length := List.length_map ..
  have htq : (Q.map drE).take Q.length = Q.map drE := List.take_of_length_le (by omega)
  have h200 : (Q.length + 1) * 200 ≤ 1099511627776 := by omega
  obtain ⟨cp', ih⟩ := l_sAll0 hof (m := m) hn hg r (d + 1) (Q ++ [mkq p (pad (row m)) g d]) none (by omega) (by rw [List.length_append, List.length_singleton]; omega)
  rw [List.length_append, List.length_singleton, show Q.length + 1 + r = Q.length + (r + 1) by omega, show Q ++ [mkq p (pad (row m)) g d] ++ inQ p (pad (row m)) g (d + 1) r = Q ++ inQ p (pad (row m)) g d (r + 1) by rw [List.append_assoc]; rfl] at ih
  refine ⟨cp', dn_round ?_ ih⟩
  rw [show (Q ++ [mkq p (pad (row m)) g d]).map drE = Q.map drE ++ [drD p (pad (row m)) (pad (row (numP p g))) (pad (row (numP p d)))] by rw [List.map_append]; rfl]
  generalize pad (row (numP p g)) = P1 at *
  generalize pad (row (numP p d)) = P2 at *
  generalize Q.map drE = QD at *
  generalize pad (row m) = Pm at *
  generalize Q.length = ql at *
  simp -implicitDefEqProofs [Z3a_L0, dn_cond, hlt, e1, e2, hQD, htq, h200, w4, List.replicate]
theorem l_sAll1 {O : Oracle} (hof : K_sOf O) {m : Fp p} {n : Nat} (hn : n ≤ 16) (hn1 : 1 ≤ n) : ∀ (r g : Nat) (Q : List Dr4) (cp : Option Nat), g + r = n → Q.length ≤ g * 16 → ∃ (cp' : Option Nat) (k : Nat),
 dn O 0 (.loop Z3a_L1) ⟨[(0, (.d (.int .i64 p))), (3, .ptr 0 []), (5, .sl 1 [] 0 Q.length cp), (6, (.d (.int .i64 n))), (7, (.d (.int .i64 g)))], [.box false (D.arr 64 .leaf (ints .u8 (pad (row m)))), .sl false dqSh (Q.map drE), .hole, .hole]⟩ =
  some (.exit 0, ⟨[(0, (.d (.int .i64 p))), (3, .ptr 0 []), (5, .sl 1 [] 0 k cp'), (6, (.d (.int .i64 n))), (7, (.d (.int .i64 n))), (16, (.d (.bool false)))], [.box false (D.arr 64 .leaf (ints .u8 (pad (row m)))), .sl false dqSh ((Q ++ outQ p (pad (row m)) n g r).map drE), .hole, .hole]⟩) ∧ k = (Q ++ outQ p (pad (row m)) n g r).length
 | 0, g, Q, cp, hg, hq => by
  obtain rfl : g = n := by omega
  refine ⟨cp, Q.length, dn_stop ?_, by rw [outQ, List.append_nil]⟩
  rw [outQ, List.append_nil]
  generalize Q.map drE = QD at *
  generalize pad (row m) = Pm at *
  simp -implicitDefEqProofs [Z3a_L1, dn_cond]
 | r + 1, g, Q, cp, hg, hq => by
  have hlt : g < n := by omega
  have w4 : IntKind.i64.wrap ((g : Int) + 1) = ((g + 1 : Nat) : Int) := (w64 (x := (g : Int) + 1) (by omega)).trans (by omega)
  obtain ⟨c1, e⟩ := l_sAll0 (O := O) hof (m := m) hn hlt (n - 1) 1 Q cp (by omega) (by omega)
  have e01 : ((1 : Nat) : Int) = 1 := rfl
  rw [e01] at e
  have hlen : (Q ++ inQ p (pad (row m)) g 1 (n - 1)).length = Q.length + (n - 1) := by rw [List.length_append, inQ_length]
  obtain ⟨c2, k, ih, hk⟩ := l_sAll1 hof (m := m) hn hn1 r (g + 1) (Q ++ inQ p (pad (row m)) g 1 (n - 1)) c1 (by omega) (by rw [hlen]; omega)
  rw [hlen, List.append_assoc, show inQ p (pad (row m)) g 1 (n - 1) ++ outQ p (pad (row m)) n (g + 1) r = outQ p (pad (row m)) n g (r + 1) from rfl] at ih
  rw [List.append_assoc, show inQ p (pad (row m)) g 1 (n - 1) ++ outQ p (pad (row m)) n (g + 1) r = outQ p (pad (row m)) n g (r + 1) from rfl] at hk
  refine ⟨c2, k, dn_round ?_ ih, hk⟩
  generalize (Q ++ inQ p (pad (row m)) g 1 (n - 1)).map drE = Q2 at *
  generalize Q.map drE = QD at *
  generalize pad (row m) = Pm at *
  generalize Q.length + (n - 1) = ql2 at *
  simp -implicitDefEqProofs [Z3a_L1, dn_cond, hlt, e, w4]
end
theorem normL_most {p : Int} [IsP p] (most : Int) : ∀ (n : Nat) (out : Int), 0 < out → (normL p most n out ≤ most ↔ out * p ^ n ≤ most)
 | 0, out, h0 => by rw [Int.pow_zero, Int.mul_one]; exact Iff.rfl
 | n + 1, out, h0 => by
  have hp := IsP.pos (p := p)
  have e : out * p ^ (n + 1) = out * p * p ^ n := by rw [Int.pow_succ, Int.mul_assoc, Int.mul_comm p]
  unfold normL
  split
  ·rename_i h
   have h1 : 1 ≤ p ^ (n + 1) := ppow_pos (n + 1)
   have h2 : out * 1 ≤ out * p ^ (n + 1) := Int.mul_le_mul_of_nonneg_left h1 (by omega)
   omega
  ·rw [e]
   exact normL_most most n (out * p) (Int.mul_pos h0 hp)
def manyQ (p : Int) (d : Nat) : Nat := (p ^ d).toNat
noncomputable def allQ (p : Int) (l : List Int) (n : Nat) : List Dr4 := outQ p l n 0 n
def K_all (O : Oracle) (F : Nat) : Prop := ∀ (p : Int) [IsP p] (m : Fp p), Fld m → p ^ (m.len - 1) ≤ 16 → ask O F [(D.int .i64 p), (D.arr 64 .leaf (ints .u8 (pad (row m))))] = some (.sl dqSh ((allQ p (pad (row m)) (manyQ p (m.len - 1))).map drE))
theorem k_all (hT : T Ff = some Zf) (hfo : K_fieldOf (den T A)) (hdg : C_degree (den T A)) (hno : C_norm (den T A)) (hnu : K_numbered (den T A)) (hpo : K_poly (den T A)) : K_all (den T A) Ff := by
 intro p ip m hm h16
 have h5 := hm.five
 have h2 := hm.two
 have hp1 : (1 : Int) ≤ p ^ (m.len - 1) := ppow_pos (m.len - 1)
 have e1 := hfo p m (by omega)
 have e2 := hdg (row m) (by rw [row_length]; omega)
 rw [row_length, show (m.len : Int) - 1 = ((m.len - 1 : Nat) : Int) by omega] at e2
 have e3 := hno p (m.len - 1) 1099511627776 (by omega) (by omega)
 rw [normL_eq (m.len - 1) 1 (by omega) (by omega), Int.one_mul, show p ^ (m.len - 1) = ((manyQ p (m.len - 1) : Nat) : Int) by unfold manyQ; omega] at e3
 have hn : manyQ p (m.len - 1) ≤ 16 := by unfold manyQ; omega
 have hn1 : 1 ≤ manyQ p (m.len - 1) := by unfold manyQ; omega
 generalize manyQ p (m.len - 1) = n at *
 obtain ⟨c, k, e4, hk⟩ := l_all1 (O := den T A) hnu hpo (m := m) hn hn1 n 0 [] (some 0) (Nat.zero_add _) (by simp)
 have e00 : ((0 : Nat) : Int) = 0 := rfl
 rw [e00, List.map_nil, List.length_nil, List.nil_append, show outQ p (pad (row m)) n 0 n = allQ p (pad (row m)) n from rfl] at e4
 rw [List.nil_append, show outQ p (pad (row m)) n 0 n = allQ p (pad (row m)) n from rfl] at hk
 have hL : ((allQ p (pad (row m)) n).map drE).length = k := by rw [List.length_map, hk]
 have htk : ((allQ p (pad (row m)) n).map drE).take k = (allQ p (pad (row m)) n).map drE := List.take_of_length_le (by omega)
 have hfd : fldD m = .st [.leaf, .leaf] [(D.int .i64 p), (D.sl .leaf (ints .i64 (row m)))] := rfl
 rw [hfd] at e1 e4
 refine ask_of hT rfl ?_
 generalize (allQ p (pad (row m)) n).map drE = QD at *
 generalize pad (row m) = Pm at *
 generalize row m = Rm at *
 generalize m.len - 1 = d at *
 simp -implicitDefEqProofs [Zf, Zf_B, e1, e2, e3, e4, hL, htk]
def H_all (O : Oracle) : Prop := ∀ (p : Int) [IsP p] (m : Fp p), Fld m → p ^ (m.len - 1) ≤ 16 → ∃ cp : Option Nat,
 O Fg [(.d (.int .i64 p)), .d (D.arr 64 .leaf (ints .u8 (pad (row m))))] [] = some (.sl 0 [] 0 (allQ p (pad (row m)) (manyQ p (m.len - 1))).length cp, [], [.sl false dqSh ((allQ p (pad (row m)) (manyQ p (m.len - 1))).map drE)])
theorem h_all (hT : T Fg = some Zg) (hfo : K_fieldOf (den T A)) (hdg : C_degree (den T A)) (hno : C_norm (den T A)) (hnu : K_numbered (den T A)) (hpo : K_poly (den T A)) : H_all (den T A) := by
 intro p ip m hm h16
 have h5 := hm.five
 have h2 := hm.two
 have hp1 : (1 : Int) ≤ p ^ (m.len - 1) := ppow_pos (m.len - 1)
 have e1 := hfo p m (by omega)
 have e2 := hdg (row m) (by rw [row_length]; omega)
 rw [row_length, show (m.len : Int) - 1 = ((m.len - 1 : Nat) : Int) by omega] at e2
 have e3 := hno p (m.len - 1) 1099511627776 (by omega) (by omega)
 rw [normL_eq (m.len - 1) 1 (by omega) (by omega), Int.one_mul, show p ^ (m.len - 1) = ((manyQ p (m.len - 1) : Nat) : Int) by unfold manyQ; omega] at e3
 have hn : manyQ p (m.len - 1) ≤ 16 := by unfold manyQ; omega
 have hn1 : 1 ≤ manyQ p (m.len - 1) := by unfold manyQ; omega
 generalize manyQ p (m.len - 1) = n at *
 obtain ⟨c, k, e4, hk⟩ := l_all1H (O := den T A) hnu hpo (m := m) hn hn1 n 0 [] (some 0) (Nat.zero_add _) (by simp)
 have e00 : ((0 : Nat) : Int) = 0 := rfl
 rw [e00, List.map_nil, List.length_nil, List.nil_append, show outQ p (pad (row m)) n 0 n = allQ p (pad (row m)) n from rfl] at e4
 rw [List.nil_append, show outQ p (pad (row m)) n 0 n = allQ p (pad (row m)) n from rfl] at hk
 rw [← hk]
 have hfd : fldD m = .st [.leaf, .leaf] [(D.int .i64 p), (D.sl .leaf (ints .i64 (row m)))] := rfl
 rw [hfd] at e1 e4
 refine ⟨c, den_of hT rfl ?_⟩
 generalize (allQ p (pad (row m)) n).map drE = QD at *
 generalize pad (row m) = Pm at *
 generalize row m = Rm at *
 generalize m.len - 1 = d at *
 simp -implicitDefEqProofs [Zg, Zg_B, e1, e2, e3, e4, List.idxOf, List.findIdx, List.findIdx.go]
theorem k_sAll (hT : T F3a = some Z3a) (hdg : K_sDeg (den T A)) (hct : K_sCount (den T A)) (hof : K_sOf (den T A)) : K_all (den T A) F3a := by
 intro p ip m hm h16
 have h5 := hm.five
 have h2 := hm.two
 have hp1 : (1 : Int) ≤ p ^ (m.len - 1) := ppow_pos (m.len - 1)
 have e2 := hdg p m (by omega)
 rw [show (m.len : Int) - 1 = ((m.len - 1 : Nat) : Int) by omega] at e2
 have e3 := hct p (m.len - 1) (by omega)
 rw [Int.min_eq_left (by omega), show p ^ (m.len - 1) = ((manyQ p (m.len - 1) : Nat) : Int) by unfold manyQ; omega] at e3
 have hn : manyQ p (m.len - 1) ≤ 16 := by unfold manyQ; omega
 have hn1 : 1 ≤ manyQ p (m.len - 1) := by unfold manyQ; omega
 generalize manyQ p (m.len - 1) = n at *
 obtain ⟨c, k, e4, hk⟩ := l_sAll1 (O := den T A) hof (m := m) hn hn1 n 0 [] (some 0) (Nat.zero_add _) (by simp)
 have e00 : ((0 : Nat) : Int) = 0 := rfl
 rw [e00, List.map_nil, List.length_nil, List.nil_append, show outQ p (pad (row m)) n 0 n = allQ p (pad (row m)) n from rfl] at e4
 rw [List.nil_append, show outQ p (pad (row m)) n 0 n = allQ p (pad (row m)) n from rfl] at hk
 have hL : ((allQ p (pad (row m)) n).map drE).length = k := by rw [List.length_map, hk]
 have htk : ((allQ p (pad (row m)) n).map drE).take k = (allQ p (pad (row m)) n).map drE := List.take_of_length_le (by omega)
 refine ask_of hT rfl ?_
 generalize (allQ p (pad (row m)) n).map drE = QD at *
 generalize pad (row m) = Pm at *
 generalize m.len - 1 = d at *
 simp -implicitDefEqProofs [Z3a, Z3a_B, e2, e3, e4, hL, htk]
end Pe

namespace Pe
open Go Gq
variable {T : Nat → Option Fn} {A : Oracle}
section
variable {α : Type}
end
def Sh4 (q : Dr4) : Prop := q.2.1.length = 64 ∧ q.2.2.1.length = 64 ∧ q.2.2.2.length = 64
def AdOk (p : Int) (l : List Int) : Prop := ∃ (_ : IsP p) (m : Fp p), l = pad (row m) ∧ Fld m ∧ p ^ (m.len - 1) ≤ 16
open Classical in
noncomputable def adL (p : Int) (l : List Int) : List Dr4 :=
 if h : AdOk p l then
  haveI : IsP p := h.choose
  allQ p l (manyQ p ((polOf p l).len - 1))
 else []
open Classical in
noncomputable def adC (p : Int) (l : List Int) : Int := if codeP p [l] ≠ 0 then codeP p [l] else if AdOk p l then 0 else 2
theorem adL_good {p : Int} [IsP p] {m : Fp p} (h : AdOk p (pad (row m))) (hm : m.len ≤ 64) : adL p (pad (row m)) = allQ p (pad (row m)) (manyQ p (m.len - 1)) := by
 unfold adL; rw [dif_pos h, polOf_pad hm]
theorem adL_bad {p : Int} {l : List Int} (h : ¬ AdOk p l) : adL p l = [] := by unfold adL; rw [dif_neg h]
theorem adL_ok (p : Int) (l : List Int) : (∀ q ∈ adL p l, Sh4 q) ∧ (adL p l).length ≤ 1000 := by
 by_cases h : AdOk p l
 ·have h' := h
  obtain ⟨ip, m, rfl, hm, h16⟩ := h
  have h5 := hm.five
  rw [adL_good h' (by omega)]
  refine ⟨outQ_sh (pad_length _) _ _, ?_⟩
  unfold allQ
  rw [outQ_length]
  have hn : manyQ p (m.len - 1) ≤ 16 := by unfold manyQ; omega
  have := Nat.mul_le_mul hn (show manyQ p (m.len - 1) - 1 ≤ 16 by omega)
  omega
 ·rw [adL_bad h]; exact ⟨(fun q hq => by cases hq), by simp⟩
theorem codeP_zero {p : Int} {l : List Int} (hb : Bytes l) (hl : l.length = 64) (h : codeP p [l] = 0) : ∃ (_ : IsP p) (a : Fp p), a.len ≤ 64 ∧ l = pad (row a) := by
 unfold codeP at h
 split at h
 ·rename_i g
  rcases arg1 p hb hl with ⟨h1, h2⟩ | ⟨ip, a, hal, e⟩
  ·have h3 := h2 g.1
   have h4 := g.2
   simp [h3] at h4
  ·exact ⟨ip, a, hal, e⟩
 ·cases h
theorem adOk_fld {p : Int} [IsP p] {a : Fp p} (ha : a.len ≤ 64) : AdOk p (pad (row a)) ↔ Fld a ∧ p ^ (a.len - 1) ≤ 16 := by
 constructor
 ·rintro ⟨ip, m, e, hm, h⟩
  have h5 := hm.five
  obtain rfl := (pad_row_inj ha (by omega)).1 e
  exact ⟨hm, h⟩
 ·rintro ⟨h1, h2⟩; exact ⟨_, a, rfl, h1, h2⟩
noncomputable def adD (p : Int) (l : List Int) : D := .tup [.sl dqSh ((adL p l).map drE), (D.int .i64 (adC p l))]
theorem adC_one {p : Int} {l : List Int} (h : codeP p [l] ≠ 0) : adC p l = codeP p [l] ∧ adL p l = [] := by
 refine ⟨by unfold adC; rw [if_pos h], adL_bad fun g => h ?_⟩
 obtain ⟨ip, m, rfl, hm, _⟩ := g
 unfold codeP
 rw [if_pos ⟨isP_true, by simp [isPl_row]⟩]
theorem adC_two {p : Int} {l : List Int} (h : codeP p [l] = 0) (h2 : ¬ AdOk p l) : adC p l = 2 := by
 unfold adC; rw [if_neg (by simpa using h), if_neg h2]
theorem adC_zero {p : Int} {l : List Int} (h : codeP p [l] = 0) (h2 : AdOk p l) : adC p l = 0 := by
 unfold adC; rw [if_neg (by simpa using h), if_pos h2]
def K_AllDrinfeld (O : Oracle) (F : Nat) : Prop := ∀ (p : Int) (l : List Int), Bytes l → l.length = 64 → ask O F [(D.int .i64 p), (D.arr 64 .leaf (ints .u8 l))] = some (adD p l)
open Classical in
theorem k_AllDrinfeld (hT : T F4 = some Z4) (hc : C_polysCode (den T A)) (hif : C_isField (den T A)) (hro : K_rowOf (den T A)) (hdg : C_degree (den T A)) (hno : C_norm (den T A)) (hal : K_all (den T A) Ff) : K_AllDrinfeld (den T A) F4 := by
 intro p l bl gl
 have e1 := hc p [l] (by intro x hx; simp at hx; subst hx; exact ⟨gl, bl⟩) (by simp)
 rw [show List.map arr8 [l] = [(D.arr 64 .leaf (ints .u8 l))] from rfl] at e1
 have e2 := hif p l bl gl
 unfold adD
 refine ask_of hT rfl ?_
 by_cases h0 : codeP p [l] = 0
 ·obtain ⟨ip, a, ha, rfl⟩ := codeP_zero bl gl h0
  rw [h0] at e1
  by_cases hf : Fld a
  ·rw [decide_eq_true ((isFld_good ha).2 hf)] at e2
   have h5 := hf.five
   have h2 := hf.two
   have e3 := hro p a ha
   have e4 := hdg (row a) (by rw [row_length]; omega)
   rw [row_length, show (a.len : Int) - 1 = ((a.len - 1 : Nat) : Int) by omega] at e4
   have e5 := hno p (a.len - 1) 16 (by omega) (by omega)
   have hle := normL_most (p := p) 16 (a.len - 1) 1 (by omega)
   rw [Int.one_mul] at hle
   by_cases h16 : p ^ (a.len - 1) ≤ 16
   ·have hok : AdOk p (pad (row a)) := (adOk_fld ha).2 ⟨hf, h16⟩
    have e6 := hal p a hf h16
    have hgt : ¬ 16 < normL p 16 (a.len - 1) 1 := by have := hle.2 h16; omega
    rw [adC_zero h0 hok, adL_good hok ha]
    generalize (allQ p (pad (row a)) (manyQ p (a.len - 1))).map drE = QD at *
    generalize normL p 16 (a.len - 1) 1 = nl at *
    generalize pad (row a) = Pa at *
    generalize row a = Ra at *
    generalize a.len - 1 = d at *
    simp -implicitDefEqProofs [Z4, Z4_B, dn_cond, e1, e2, e3, e4, e5, e6, hgt, List.replicate]
   ·have hok : ¬ AdOk p (pad (row a)) := fun g => h16 ((adOk_fld ha).1 g).2
    have hgt : 16 < normL p 16 (a.len - 1) 1 := by
     have := mt hle.1 h16; omega
    rw [adC_two h0 hok, adL_bad hok, List.map_nil]
    generalize normL p 16 (a.len - 1) 1 = nl at *
    generalize pad (row a) = Pa at *
    generalize row a = Ra at *
    generalize a.len - 1 = d at *
    simp -implicitDefEqProofs [Z4, Z4_B, dn_cond, e1, e2, e3, e4, e5, hgt, List.replicate]
  ·rw [decide_eq_false (fun g => hf ((isFld_good ha).1 g))] at e2
   have hok : ¬ AdOk p (pad (row a)) := fun g => hf ((adOk_fld ha).1 g).1
   rw [adC_two h0 hok, adL_bad hok, List.map_nil]
   generalize pad (row a) = Pa at *
   simp -implicitDefEqProofs [Z4, Z4_B, dn_cond, e1, e2, List.replicate]
 ·rw [(adC_one h0).1, (adC_one h0).2, List.map_nil]
  generalize codeP p [l] = k at *
  simp -implicitDefEqProofs [Z4, Z4_B, dn_cond, e1, h0, List.replicate]
def H_AllDrinfeld (O : Oracle) : Prop := ∀ (p : Int) (l : List Int), Bytes l → l.length = 64 → ∃ cp : Option Nat,
 O F5 [(.d (.int .i64 p)), .d (D.arr 64 .leaf (ints .u8 l))] [] = some (.tup [.sl 0 [] 0 (adL p l).length cp, (.d (.int .i64 (adC p l)))], [], [.sl false dqSh ((adL p l).map drE)])
open Classical in
theorem h_AllDrinfeld (hT : T F5 = some Z5) (hc : C_polysCode (den T A)) (hif : C_isField (den T A)) (hro : K_rowOf (den T A)) (hdg : C_degree (den T A)) (hno : C_norm (den T A)) (hal : H_all (den T A)) : H_AllDrinfeld (den T A) := by
 intro p l bl gl
 have e1 := hc p [l] (by intro x hx; simp at hx; subst hx; exact ⟨gl, bl⟩) (by simp)
 rw [show List.map arr8 [l] = [(D.arr 64 .leaf (ints .u8 l))] from rfl] at e1
 have e2 := hif p l bl gl
 by_cases h0 : codeP p [l] = 0
 ·obtain ⟨ip, a, ha, rfl⟩ := codeP_zero bl gl h0
  rw [h0] at e1
  by_cases hf : Fld a
  ·rw [decide_eq_true ((isFld_good ha).2 hf)] at e2
   have h5 := hf.five
   have h2 := hf.two
   have e3 := hro p a ha
   have e4 := hdg (row a) (by rw [row_length]; omega)
   rw [row_length, show (a.len : Int) - 1 = ((a.len - 1 : Nat) : Int) by omega] at e4
   have e5 := hno p (a.len - 1) 16 (by omega) (by omega)
   have hle := normL_most (p := p) 16 (a.len - 1) 1 (by omega)
   rw [Int.one_mul] at hle
   by_cases h16 : p ^ (a.len - 1) ≤ 16
   ·have hok : AdOk p (pad (row a)) := (adOk_fld ha).2 ⟨hf, h16⟩
    obtain ⟨c, e6⟩ := hal p a hf h16
    have hgt : ¬ 16 < normL p 16 (a.len - 1) 1 := by have := hle.2 h16; omega
    rw [adC_zero h0 hok, adL_good hok ha]
    refine ⟨c, den_of hT rfl ?_⟩
    generalize (allQ p (pad (row a)) (manyQ p (a.len - 1))).map drE = QD at *
    generalize (allQ p (pad (row a)) (manyQ p (a.len - 1))).length = ql at *
    generalize normL p 16 (a.len - 1) 1 = nl at *
    generalize pad (row a) = Pa at *
    generalize row a = Ra at *
    generalize a.len - 1 = d at *
    simp -implicitDefEqProofs [Z5, Z5_B, dn_cond, e1, e2, e3, e4, e5, e6, hgt, List.replicate, List.idxOf, List.findIdx, List.findIdx.go]
   ·have hok : ¬ AdOk p (pad (row a)) := fun g => h16 ((adOk_fld ha).1 g).2
    have hgt : 16 < normL p 16 (a.len - 1) 1 := by
     have := mt hle.1 h16; omega
    rw [adC_two h0 hok, adL_bad hok, List.map_nil]
    refine ⟨some 0, den_of hT rfl ?_⟩
    generalize normL p 16 (a.len - 1) 1 = nl at *
    generalize pad (row a) = Pa at *
    generalize row a = Ra at *
    generalize a.len - 1 = d at *
    simp -implicitDefEqProofs [Z5, Z5_B, dn_cond, e1, e2, e3, e4, e5, hgt, List.replicate, List.idxOf, List.findIdx, List.findIdx.go]
  ·rw [decide_eq_false (fun g => hf ((isFld_good ha).1 g))] at e2
   have hok : ¬ AdOk p (pad (row a)) := fun g => hf ((adOk_fld ha).1 g).1
   rw [adC_two h0 hok, adL_bad hok, List.map_nil]
   refine ⟨some 0, den_of hT rfl ?_⟩
   generalize pad (row a) = Pa at *
   simp -implicitDefEqProofs [Z5, Z5_B, dn_cond, e1, e2, List.replicate, List.idxOf, List.findIdx, List.findIdx.go]
 ·rw [(adC_one h0).1, (adC_one h0).2, List.map_nil]
  refine ⟨some 0, den_of hT rfl ?_⟩
  generalize codeP p [l] = k at *
  simp -implicitDefEqProofs [Z5, Z5_B, dn_cond, e1, h0, List.replicate, List.idxOf, List.findIdx, List.findIdx.go]
def C_sSmall (O : Oracle) : Prop := ∀ (p : Int) (l : List Int), Bytes l → l.length = 64 → ask O F3e [(D.int .i64 p), (D.arr 64 .leaf (ints .u8 l))] = some (D.int .i64 (adC p l))
open Classical in
theorem c_sSmall (hT : T F3e = some Z3e) (hc : C_sCode (den T A)) (hmo : K_sMonic (den T A)) (hdg : K_sDeg (den T A)) (hin : C_sIn (den T A)) (hct : K_sCount (den T A)) (hir : K_sIrr (den T A)) : C_sSmall (den T A) := by
 intro p l bl gl
 have e1 := hc p [l] (by intro x hx; simp at hx; subst hx; exact ⟨gl, bl⟩) (by simp)
 rw [show List.map arr8 [l] = [(D.arr 64 .leaf (ints .u8 l))] from rfl] at e1
 refine ask_of hT rfl ?_
 by_cases h0 : codeP p [l] = 0
 ·obtain ⟨ip, a, ha, rfl⟩ := codeP_zero bl gl h0
  rw [h0] at e1
  have e2 := hmo p a ha
  have e3 := hdg p a ha
  have e4 := hin ((a.len : Int) - 1) 1 4
  by_cases hM : Monic a
  ·rw [decide_eq_true hM] at e2
   by_cases h : 2 ≤ a.len ∧ a.len ≤ 5
   ·rw [show decide ((1 : Int) ≤ (a.len : Int) - 1 ∧ (a.len : Int) - 1 ≤ 4) = true from decide_eq_true (by omega)] at e4
    rw [show (a.len : Int) - 1 = ((a.len - 1 : Nat) : Int) by omega] at e3 e4
    have e5 := hct p (a.len - 1) (by omega)
    have hp1 : (1 : Int) ≤ p ^ (a.len - 1) := ppow_pos (a.len - 1)
    have e6 := hir p a hM.2 (by omega)
    have hiff : AdOk p (pad (row a)) ↔ Irr a ∧ p ^ (a.len - 1) ≤ 16 := (adOk_fld ha).trans ⟨fun g => ⟨g.1.irr, g.2⟩, fun g => ⟨⟨hM, h.1, h.2, g.1⟩, g.2⟩⟩
    by_cases h16 : p ^ (a.len - 1) ≤ 16
    ·have hgt : ¬ 16 < min (p ^ (a.len - 1)) 1000000000001 := by omega
     by_cases hI : Irr a
     ·rw [decide_eq_true hI] at e6
      rw [adC_zero h0 (hiff.2 ⟨hI, h16⟩)]
      generalize min (p ^ (a.len - 1)) 1000000000001 = pw at *
      generalize pad (row a) = Pa at *
      generalize a.len - 1 = d at *
      simp -implicitDefEqProofs [Z3e, Z3e_B, dn_cond, e1, e2, e3, e4, e5, e6, hgt]
     ·rw [decide_eq_false hI] at e6
      rw [adC_two h0 (fun g => hI (hiff.1 g).1)]
      generalize min (p ^ (a.len - 1)) 1000000000001 = pw at *
      generalize pad (row a) = Pa at *
      generalize a.len - 1 = d at *
      simp -implicitDefEqProofs [Z3e, Z3e_B, dn_cond, e1, e2, e3, e4, e5, e6, hgt]
    ·have hgt : 16 < min (p ^ (a.len - 1)) 1000000000001 := by omega
     rw [adC_two h0 (fun g => h16 (hiff.1 g).2)]
     generalize min (p ^ (a.len - 1)) 1000000000001 = pw at *
     generalize pad (row a) = Pa at *
     generalize a.len - 1 = d at *
     simp -implicitDefEqProofs [Z3e, Z3e_B, dn_cond, e1, e2, e3, e4, e5, hgt]
   ·rw [show decide ((1 : Int) ≤ (a.len : Int) - 1 ∧ (a.len : Int) - 1 ≤ 4) = false from decide_eq_false (by omega)] at e4
    rw [adC_two h0 (fun g => h ⟨((adOk_fld ha).1 g).1.two, ((adOk_fld ha).1 g).1.five⟩)]
    generalize pad (row a) = Pa at *
    simp -implicitDefEqProofs [Z3e, Z3e_B, dn_cond, e1, e2, e3, e4]
  ·rw [decide_eq_false hM] at e2
   rw [adC_two h0 (fun g => hM ((adOk_fld ha).1 g).1.mon)]
   generalize pad (row a) = Pa at *
   simp -implicitDefEqProofs [Z3e, Z3e_B, dn_cond, e1, e2]
 ·rw [(adC_one h0).1]
  have h01 : codeP p [l] = 1 := by
   unfold codeP at h0 ⊢
   split at h0
   ·exact absurd rfl h0
   ·rename_i g; rw [if_neg g]
  rw [h01] at e1 ⊢
  simp -implicitDefEqProofs [Z3e, Z3e_B, dn_cond, e1]
end Pe

namespace Pe
open Go Gq
section
variable {p : Int}
noncomputable def cS (A : List (Fp p)) (i : Nat) : Fp p := (A[i]?).getD 0
theorem cS_ge {A : List (Fp p)} {i : Nat} (h : A.length ≤ i) : cS A i = 0 := by unfold cS; rw [List.getElem?_eq_none h]; rfl
theorem cS_lt {A : List (Fp p)} {i : Nat} (h : i < A.length) : A[i] = cS A i := by unfold cS; rw [List.getElem?_eq_getElem h]; rfl
def IsTrim (A : List (Fp p)) : Prop := ∀ n, A.length = n + 1 → cS A n ≠ 0
theorem cS_trim (S : List (Fp p)) (i : Nat) : cS (trimS S) i = cS S i := by
 unfold cS trimS
 have hle := stl_le S S.length
 by_cases h : i < stl S S.length
 ·rw [List.getElem?_take, if_pos h]
 ·rw [List.getElem?_take, if_neg h]
  by_cases h2 : i < S.length
  ·rw [stl_zero S S.length i (by omega) h2]; rfl
  ·rw [List.getElem?_eq_none (by omega)]
theorem isTrim_trim (S : List (Fp p)) : IsTrim (trimS S) := fun n hn => by
 obtain ⟨a, x, e, hx⟩ := trimS_form (S := S) (by omega)
 rw [e] at hn ⊢
 rw [List.length_append, List.length_singleton] at hn
 unfold cS
 rw [List.getElem?_append_right (by omega), show n - a.length = 0 by omega]
 exact hx
theorem trim_len_le {X : List (Fp p)} {n : Nat} (h : ∀ i, n ≤ i → cS X i = 0) : (trimS X).length ≤ n := by
 rcases Nat.lt_or_ge n (trimS X).length with g | g
 ·have := isTrim_trim X ((trimS X).length - 1) (by omega)
  rw [cS_trim] at this
  exact absurd (h _ (by omega)) this
 ·exact g
theorem isTrim_nil : IsTrim ([] : List (Fp p)) := fun n h => by cases h
theorem cS_nil (i : Nat) : cS ([] : List (Fp p)) i = 0 := rfl
theorem cS_mem {A : List (Fp p)} {N : Nat} (h : ∀ i, (cS A i).len ≤ N) : ∀ c ∈ A, c.len ≤ N := fun c hc => by
 obtain ⟨i, hi, rfl⟩ := List.getElem_of_mem hc
 rw [cS_lt hi]; exact h i
theorem mem_cS {A : List (Fp p)} {N : Nat} (h : ∀ c ∈ A, c.len ≤ N) (i : Nat) : (cS A i).len ≤ N := by
 by_cases hi : i < A.length
 ·rw [← cS_lt hi]; exact h _ (List.getElem_mem hi)
 ·rw [cS_ge (by omega), Pol.len_zero]; omega
theorem cS_map {n : Nat} {f : Nat → Fp p} (i : Nat) : cS ((List.range n).map f) i = if i < n then f i else 0 := by
 unfold cS
 rw [List.getElem?_map]
 by_cases h : i < n
 ·rw [List.getElem?_range h, if_pos h]; rfl
 ·rw [List.getElem?_eq_none (by simpa using h), if_neg h]; rfl
noncomputable def plusS (k : Int) (A B : List (Fp p)) : List (Fp p) := trimS ((List.range (max A.length B.length)).map fun i => cS A i + Pol.C (zp p k) * cS B i)
theorem cS_plus (k : Int) (A B : List (Fp p)) (i : Nat) : cS (plusS k A B) i = cS A i + Pol.C (zp p k) * cS B i := by
 unfold plusS
 rw [cS_trim, cS_map]
 split
 ·rfl
 ·rw [cS_ge (A := A) (by omega), cS_ge (A := B) (by omega), Gq.mul_zero, Gq.add_zero]
theorem isTrim_plus (k : Int) (A B : List (Fp p)) : IsTrim (plusS k A B) := isTrim_trim _
theorem plus_len (k : Int) (A B : List (Fp p)) : (plusS k A B).length ≤ max A.length B.length := trim_len_le fun i hi => by
 rw [cS_map, if_neg (by omega)]
noncomputable def termS (c : Fp p) (k : Nat) : List (Fp p) := List.replicate k 0 ++ [c]
theorem termS_length (c : Fp p) (k : Nat) : (termS c k).length = k + 1 := by unfold termS; rw [List.length_append, List.length_replicate]; rfl
theorem cS_term (c : Fp p) (k i : Nat) : cS (termS c k) i = if i = k then c else 0 := by
 unfold cS termS
 rcases Nat.lt_trichotomy i k with h | h | h
 ·rw [List.getElem?_append_left (by rw [List.length_replicate]; exact h), List.getElem?_replicate, if_pos h, if_neg (by omega)]; rfl
 ·rw [List.getElem?_append_right (by rw [List.length_replicate]; omega), List.length_replicate, h, Nat.sub_self, if_pos rfl]; rfl
 ·rw [List.getElem?_eq_none (by rw [List.length_append, List.length_replicate, List.length_singleton]; omega), if_neg (by omega)]; rfl
theorem isTrim_term {c : Fp p} (h : c ≠ 0) (k : Nat) : IsTrim (termS c k) := fun n hn => by
 rw [termS_length] at hn
 rw [cS_term, if_pos (by omega)]; exact h
theorem trimS_len_le (S : List (Fp p)) : (trimS S).length ≤ S.length := by
 unfold trimS; rw [List.length_take]; omega
theorem cS_set {X : List (Fp p)} {n i : Nat} {c : Fp p} (h : n < X.length) : cS (X.set n c) i = if i = n then c else cS X i := by
 unfold cS
 by_cases hi : i = n
 ·subst hi; rw [List.getElem?_set_self h, if_pos rfl]; rfl
 ·rw [List.getElem?_set_ne (by omega), if_neg hi]
theorem snoc_of {B : List (Fp p)} (h : 1 ≤ B.length) : ∃ b, B = b ++ [cS B (B.length - 1)] ∧ b.length = B.length - 1 := by
 have hlt : B.length - 1 < B.length := by omega
 refine ⟨B.take (B.length - 1), ?_, by rw [List.length_take]; omega⟩
 rw [← cS_lt hlt, ← List.take_succ_eq_append_getElem hlt, show B.length - 1 + 1 = B.length by omega, List.take_length]
end
section
variable {p : Int} [IsP p]
theorem byIn_lens' {m x : Fp p} {i N : Nat} (hm : m ≠ 0) (hN : m.len ≤ N + 1) : ∀ (k : Nat) (b Q : List (Fp p)), (∀ c ∈ Q, c.len ≤ N) → ∀ c ∈ byIn m x i k b Q, c.len ≤ N
 | _, [], _, h => h
 | k, y :: ys, Q, h => byIn_lens' hm hN (k + 1) ys _ (addAt_lens h (by have := Pol.len_mod (x * frIt m (i % (m.len - 1)) y) hm; omega))
theorem byOut_lens' {m : Fp p} {b : List (Fp p)} {N : Nat} (hm : m ≠ 0) (hN : m.len ≤ N + 1) : ∀ (i : Nat) (a Q : List (Fp p)), (∀ c ∈ Q, c.len ≤ N) → ∀ c ∈ byOut m b i a Q, c.len ≤ N
 | _, [], _, h => h
 | i, _x :: xs, Q, h => byOut_lens' hm hN (i + 1) xs _ (byIn_lens' hm hN 0 b Q h)
theorem prodS_lens' {m : Fp p} {a b : List (Fp p)} {N : Nat} (hm : m ≠ 0) (hN : m.len ≤ N + 1) : ∀ c ∈ prodS m a b, c.len ≤ N := fun c hc => by
 unfold prodS at hc
 split at hc
 ·cases hc
 ·have h1 : c ∈ mulS m a b := List.mem_of_mem_take hc
  exact byOut_lens' hm hN 0 a _ (fun c hc => by rw [List.eq_of_mem_replicate hc, Pol.len_zero]; omega) c h1
theorem isTrim_prod (m : Fp p) (a b : List (Fp p)) : IsTrim (prodS m a b) := by
 unfold prodS
 split
 ·exact isTrim_nil
 ·exact isTrim_trim _
theorem prod_len_le {m : Fp p} {a b : List (Fp p)} : (prodS m a b).length ≤ a.length + b.length - 1 := by
 unfold prodS
 split
 ·exact Nat.zero_le _
 ·have := trimS_len_le (mulS m a b)
  have hl : (mulS m a b).length = a.length + b.length - 1 := by unfold mulS; rw [byOut_length, List.length_replicate]
  omega
theorem mulS_val {m x y : Fp p} {a b : List (Fp p)} : cS (mulS m (a ++ [x]) (b ++ [y])) (a.length + b.length) = x * frIt m (a.length % (m.len - 1)) y % m := by
 unfold mulS
 rw [byOut_snoc, byIn_snoc]
 unfold addAt
 rw [byIn_get_ge _ _ _ (by omega), byOut_get_ge _ _ _ (by rw [List.length_append, List.length_cons, List.length_nil]; omega)]
 have hN : 0 + a.length + (0 + b.length) = a.length + b.length := by omega
 rw [hN]
 unfold cS
 rw [List.getElem?_set_self (by rw [byIn_length, byOut_length, List.length_replicate, List.length_append, List.length_append]; simp only [List.length_cons, List.length_nil]; omega)]
 rw [List.getElem?_replicate, if_pos (by rw [List.length_append, List.length_append]; simp only [List.length_cons, List.length_nil]; omega)]
 show (0 : Fp p) + _ = _
 rw [Gq.zero_add, show 0 + a.length = a.length by omega]
theorem prod_top {m : Fp p} {A B : List (Fp p)} (ha : 1 ≤ A.length) (hb : 1 ≤ B.length) : cS (prodS m A B) (A.length - 1 + (B.length - 1)) = cS A (A.length - 1) * frIt m ((A.length - 1) % (m.len - 1)) (cS B (B.length - 1)) % m := by
 obtain ⟨a, ea, la⟩ := snoc_of ha
 obtain ⟨b, eb, lb⟩ := snoc_of hb
 have h := mulS_val (m := m) (x := cS A (A.length - 1)) (y := cS B (B.length - 1)) (a := a) (b := b)
 rw [← ea, ← eb, la, lb] at h
 unfold prodS
 rw [if_neg (by omega), cS_trim]
 exact h
theorem inv_back {m x y : Fp p} (hm : Fld m) (hx : x.len < m.len) (hy : y ≠ 0) (hyl : y.len < m.len) : (x * invm m y % m) * y % m = x ∧ y * (x * invm m y % m) % m = x := by
 have h0 : m ≠ 0 := hm.mon.2
 have e := invm_ok hm hy hyl
 have key : Quo.mk m ((x * invm m y % m) * y) = Quo.mk m x := by
  rw [Quo.mk_mul, Pol.mk_mod, Quo.mk_mul, Gq.mul_assoc, e, Gq.mul_one]
 have h1 := (Pol.mod_eq_iff h0).2 key
 rw [Pol.mod_small hx] at h1
 exact ⟨h1, by rw [Gq.mul_comm]; exact h1⟩
theorem frIt_add {m : Fp p} : ∀ (b a : Nat) (x : Fp p), frIt m (a + b) x = frIt m a (frIt m b x)
 | 0, _, _ => rfl
 | b + 1, a, x => by
  show frIt m (a + b) (pw x p.toNat % m) = frIt m a (frIt m b (pw x p.toNat % m))
  exact frIt_add b a _
theorem frIt_round {m : Fp p} (hm : Fld m) (j : Nat) {z : Fp p} (hz : z.len < m.len) : frIt m (j % (m.len - 1)) (frIt m ((m.len - 1 - j % (m.len - 1)) % (m.len - 1)) z) = z := by
 have h2 := hm.two
 have hlt := Nat.mod_lt j (show 0 < m.len - 1 by omega)
 rw [frIt_mod hm _ hz, ← frIt_add, show j % (m.len - 1) + (m.len - 1 - j % (m.len - 1)) = m.len - 1 by omega, ← frIt_mod hm _ hz, Nat.mod_self]
 rfl
noncomputable def qc (left : Bool) (m : Fp p) (A B : List (Fp p)) : Fp p :=
 if left then frIt m ((m.len - 1 - (B.length - 1) % (m.len - 1)) % (m.len - 1)) (cS A (A.length - 1) * invm m (cS B (B.length - 1)) % m)
 else cS A (A.length - 1) * invm m (frIt m ((A.length - B.length) % (m.len - 1)) (cS B (B.length - 1))) % m
noncomputable def qT (left : Bool) (m : Fp p) (A B : List (Fp p)) : List (Fp p) := termS (qc left m A B) (A.length - B.length)
noncomputable def qP (left : Bool) (m : Fp p) (A B : List (Fp p)) : List (Fp p) := if left then prodS m B (qT left m A B) else prodS m (qT left m A B) B
end
section
variable {p : Int}
structure Sk (m : Fp p) (A : List (Fp p)) : Prop where
 trim : IsTrim A
 eight : A.length ≤ 8
 res : ∀ c ∈ A, c.len < m.len
theorem Sk.cs {m : Fp p} {A : List (Fp p)} (h : Sk m A) (hm : m ≠ 0) (i : Nat) : (cS A i).len < m.len := by
 have := mem_cS (N := m.len - 1) (fun c hc => by have := h.res c hc; omega) i
 have := Pol.len_pos hm
 omega
theorem Sk.top {m : Fp p} {A : List (Fp p)} (h : Sk m A) (h1 : 1 ≤ A.length) : cS A (A.length - 1) ≠ 0 := h.trim _ (by omega)
theorem Sk.nil (m : Fp p) : Sk m [] := ⟨isTrim_nil, by simp, fun c h => by cases h⟩
end
section
variable {p : Int} [IsP p]
theorem c_ge' {p : Int} {a : Fp p} {n : Nat} (h : a.len ≤ n) : a.c n = 0 := a.lt_len n h
theorem Sk.plus {m : Fp p} {A B : List (Fp p)} (hm : m ≠ 0) (hA : Sk m A) (hB : Sk m B) (k : Int) : Sk m (plusS k A B) := by
 have h1 := Pol.len_pos hm
 refine ⟨isTrim_plus k A B, by have := plus_len k A B; have := hA.eight; have := hB.eight; omega, fun c hc => ?_⟩
 have := cS_mem (A := plusS k A B) (N := m.len - 1) (fun i => by
  rw [cS_plus]
  have a1 := hA.cs hm i
  have a2 := hB.cs hm i
  exact Pol.len_add_le (by omega) (Pol.len_le fun j hj => by rw [Pol.c_Cmul, c_ge' (by omega), Gq.mul_zero])) c hc
 omega
theorem step_ok (left : Bool) {m : Fp p} (hm : Fld m) {A B : List (Fp p)} (hA : Sk m A) (hB : Sk m B) (h1 : 1 ≤ B.length) (hle : B.length ≤ A.length) :
 qc left m A B ≠ 0 ∧ (qc left m A B).len < m.len ∧ Sk m (qT left m A B) ∧ Sk m (qP left m A B) ∧ (plusS (-1) A (qP left m A B)).length < A.length ∧ Sk m (plusS (-1) A (qP left m A B)) := by
 have h0 : m ≠ 0 := hm.mon.2
 have hx := hA.top (by omega)
 have hxl := hA.cs h0 (A.length - 1)
 have hy := hB.top h1
 have hyl := hB.cs h0 (B.length - 1)
 have hfy : frIt m ((A.length - B.length) % (m.len - 1)) (cS B (B.length - 1)) ≠ 0 := frIt_ne hm _ _ hy hyl
 have hfl := frIt_len h0 ((A.length - B.length) % (m.len - 1)) (cS B (B.length - 1)) hyl
 have hb1 := inv_back hm hxl hfy hfl
 have hb2 := inv_back hm hxl hy hyl
 have hzl : (cS A (A.length - 1) * invm m (cS B (B.length - 1)) % m).len < m.len := Pol.len_mod _ h0
 have hz0 : cS A (A.length - 1) * invm m (cS B (B.length - 1)) % m ≠ 0 := fun h => by
  have := hb2.1
  rw [h, Gq.zero_mul, Pol.zero_mod h0] at this
  exact hx this.symm
 have hc0 : qc left m A B ≠ 0 := by
  unfold qc
  cases left with
  | true => simp only [if_true]; exact frIt_ne hm _ _ hz0 hzl
  | false =>
   simp only [Bool.false_eq_true, if_false]
   intro h
   have := hb1.1
   rw [h, Gq.zero_mul, Pol.zero_mod h0] at this
   exact hx this.symm
 have hcl : (qc left m A B).len < m.len := by
  unfold qc
  cases left with
  | true => simp only [if_true]; exact frIt_len h0 _ _ hzl
  | false => simp only [Bool.false_eq_true, if_false]; exact Pol.len_mod _ h0
 have hTl : (qT left m A B).length = A.length - B.length + 1 := termS_length _ _
 have h8 := hA.eight
 have hT : Sk m (qT left m A B) := ⟨isTrim_term hc0 _, by omega, fun c hc => by
  unfold qT termS at hc
  rcases List.mem_append.1 hc with h | h
  ·rw [List.eq_of_mem_replicate h, Pol.len_zero]; exact Pol.len_pos h0
  ·rw [List.mem_singleton.1 h]; exact hcl⟩
 have hPl : (qP left m A B).length ≤ A.length := by
  unfold qP
  cases left with
  | true => have := prod_len_le (m := m) (a := B) (b := qT true m A B); simp only [if_true]; omega
  | false => have := prod_len_le (m := m) (a := qT false m A B) (b := B); simp only [Bool.false_eq_true, if_false]; omega
 have hP : Sk m (qP left m A B) := by
  have hm1 := Pol.len_pos h0
  refine ⟨?_, by omega, ?_⟩
  ·unfold qP
   cases left with
   | true => exact isTrim_prod _ _ _
   | false => exact isTrim_prod _ _ _
  ·intro c hc
   have : c.len ≤ m.len - 1 := by
    unfold qP at hc
    cases left with
    | true => exact prodS_lens' h0 (by omega) c hc
    | false => exact prodS_lens' h0 (by omega) c hc
   omega
 have htop : cS (qP left m A B) (A.length - 1) = cS A (A.length - 1) := by
  unfold qP
  cases left with
  | true =>
   simp only [if_true]
   have h := prod_top (m := m) (A := B) (B := qT true m A B) h1 (by omega)
   rw [hTl, show B.length - 1 + (A.length - B.length + 1 - 1) = A.length - 1 by omega, show A.length - B.length + 1 - 1 = A.length - B.length by omega] at h
   rw [h]
   unfold qT
   rw [cS_term, if_pos rfl]
   unfold qc
   simp only [if_true]
   rw [frIt_round hm (B.length - 1) hzl]
   exact hb2.2
  | false =>
   simp only [Bool.false_eq_true, if_false]
   have h := prod_top (m := m) (A := qT false m A B) (B := B) (by omega) h1
   rw [hTl, show A.length - B.length + 1 - 1 + (B.length - 1) = A.length - 1 by omega, show A.length - B.length + 1 - 1 = A.length - B.length by omega] at h
   rw [h]
   unfold qT
   rw [cS_term, if_pos rfl]
   unfold qc
   simp only [Bool.false_eq_true, if_false]
   exact hb1.1
 have hneg : ∀ x : Fp p, x + Pol.C (zp p (-1)) * x = 0 := fun x => by
  rw [zp_neg, zp_one, Pol.C_neg, Pol.C_one]
  exact ring_of [x] rfl
 refine ⟨hc0, hcl, hT, hP, ?_, hA.plus h0 hP (-1)⟩
 have hlt : (plusS (-1) A (qP left m A B)).length ≤ A.length - 1 := trim_len_le fun i hi => by
  rw [cS_map]
  split
  ·rcases Nat.lt_or_ge i A.length with g | g
   ·rw [show i = A.length - 1 by omega, htop, hneg]
   ·rw [cS_ge g, cS_ge (A := qP left m A B) (by omega), Gq.mul_zero, Gq.add_zero]
  ·rfl
 omega
def Zto (Q A B : List (Fp p)) : Prop := ∀ j, j + B.length ≤ A.length → cS Q j = 0
theorem Zto.step {left : Bool} {m : Fp p} (hm : Fld m) {Q A B : List (Fp p)} (hA : Sk m A) (hB : Sk m B) (h1 : 1 ≤ B.length) (hle : B.length ≤ A.length) (hz : Zto Q A B) : Zto (plusS 1 Q (qT left m A B)) (plusS (-1) A (qP left m A B)) B := fun j hj => by
 obtain ⟨_, _, _, _, h, _⟩ := step_ok left hm hA hB h1 hle
 unfold qT
 rw [cS_plus, hz j (by omega), cS_term, if_neg (by omega), Gq.mul_zero, Gq.add_zero]
end
end Pe

namespace Pe
open Go Gq
variable {T : Nat → Option Fn} {A : Oracle}
def K_single (O : Oracle) : Prop := ∀ (p : Int) [IsP p] (c : Fp p) (k : Nat), k < 10000 → ask O F1o [(D.sl .leaf (ints .i64 (row c))), (D.int .i64 k)] = some (skD (termS c k))
theorem termS_map {p : Int} (c : Fp p) (k : Nat) : (List.replicate (k + 1) (D.sl .leaf [])).set k (D.sl .leaf (ints .i64 (row c))) = (termS c k).map rowD := by
 unfold termS
 rw [List.map_append, List.map_replicate, show rowD (0 : Fp p) = .sl .leaf [] by show (D.sl .leaf (ints .i64 (row (0 : Fp p)))) = _; rw [row_zero, ints_nil], List.replicate_succ', List.set_append_right _ _ (by rw [List.length_replicate]; omega), List.length_replicate, Nat.sub_self]
 rfl
theorem k_single (hT : T F1o = some Z1o) : K_single (den T A) := by
 intro p ip c k hk
 have w1 : IntKind.i64.wrap ((k : Int) + 1) = ((k + 1 : Nat) : Int) := (w64 (x := (k : Int) + 1) (by omega)).trans (by omega)
 have h24 : (k + 1) * 24 ≤ 1099511627776 := by omega
 have hn : (0 : Int) ≤ ((k + 1 : Nat) : Int) := by omega
 have hlt : k < k + 1 := by omega
 have hsk : skD (termS c k) = .sl .leaf ((termS c k).map rowD) := rfl
 have htm := termS_map c k
 have hTL : ((termS c k).map rowD).length = k + 1 := by rw [List.length_map, termS_length]
 have htk : ((termS c k).map rowD).take (k + 1) = (termS c k).map rowD := List.take_of_length_le (by omega)
 rw [hsk]
 refine ask_of hT rfl ?_
 have hRL : (List.replicate (k + 1) (D.sl .leaf [])).length = k + 1 := List.length_replicate ..
 have hRg : ∀ h : k < (List.replicate (k + 1) (D.sl .leaf [])).length, (List.replicate (k + 1) (D.sl .leaf []))[k]'h = D.sl .leaf [] := fun h => List.getElem_replicate h
 generalize (termS c k).map rowD = TD at *
 generalize row c = Rc at *
 generalize hRR : List.replicate (k + 1) (D.sl .leaf []) = RR at *
 generalize k + 1 = k1 at *
 simp -implicitDefEqProofs [Z1o, Z1o_B, w1, h24, hlt, hRR, hRL, hRg, htm, hTL, htk]
def K_skAt (O : Oracle) : Prop := ∀ (p : Int) [IsP p] (A : List (Fp p)) (i : Nat), ask O F1p [skD A, (D.int .i64 i)] = some (D.sl .leaf (ints .i64 (row (cS A i))))
theorem k_skAt (hT : T F1p = some Z1p) : K_skAt (den T A) := by
 intro p ip S i
 have hsk : skD S = .sl .leaf (S.map rowD) := rfl
 have hL : (S.map rowD).length = S.length := List.length_map ..
 rw [hsk]
 refine ask_of hT rfl ?_
 by_cases h : i < S.length
 ·have hx : ∀ h : i < (S.map rowD).length, (S.map rowD)[i]'h = (D.sl .leaf (ints .i64 (row (cS S i)))) := fun h' => by rw [List.getElem_map, cS_lt h]
  generalize row (cS S i) = Rc at *
  generalize S.map rowD = SD at *
  simp -implicitDefEqProofs [Z1p, Z1p_B, dn_cond, h, hL, hx]
 ·rw [cS_ge (by omega), row_zero]
  generalize S.map rowD = SD at *
  simp -implicitDefEqProofs [Z1p, Z1p_B, dn_cond, h, hL, ints_nil]
theorem l_plus {O : Oracle} (hat : K_skAt O) (hco : K_combine O) {p : Int} [IsP p] {m : Fp p} {X Y : List (Fp p)} {k : Int} (hk : -1000 ≤ k ∧ k ≤ 1000) (hX : ∀ c ∈ X, c.len ≤ 64) (hY : ∀ c ∈ Y, c.len ≤ 64) {n : Nat} (hn : n < 100000) {cp cq : Option Nat} : ∀ (r i : Nat) (Q : List D), i + r = n → Q.length = n → (∀ d ∈ Q, d.sh.beq .leaf = true) → Q.take i = ((List.range n).map fun i => rowD (cS X i + Pol.C (zp p k) * cS Y i)).take i →
 dn O 0 (.loop Zs_L0) ⟨[(1, .d (skD X)), (2, .d (skD Y)), (3, (.d (.int .i64 k))), (4, .ptr 0 []), (9, .sl 1 [] 0 n cp), (18, (.d (.int .i64 n))), (19, (.d (.int .i64 i)))], [.box false (fldD m), .sl false .leaf Q]⟩ =
  some (.exit 0, ⟨[(1, .d (skD X)), (2, .d (skD Y)), (3, (.d (.int .i64 k))), (4, .ptr 0 []), (9, .sl 1 [] 0 n cp), (18, (.d (.int .i64 n))), (19, (.d (.int .i64 n))), (20, (.d (.bool false)))], [.box false (fldD m), .sl false .leaf ((List.range n).map fun i => rowD (cS X i + Pol.C (zp p k) * cS Y i))]⟩)
 | 0, i, Q, hi, hq, hQ, ht => by
  obtain rfl : i = n := by omega
  rw [List.take_of_length_le (by omega), List.take_of_length_le (by rw [List.length_map, List.length_range]; omega)] at ht
  subst ht
  refine dn_stop ?_
  generalize (List.range i).map (fun i => rowD (cS X i + Pol.C (zp p k) * cS Y i)) = LQ at *
  simp -implicitDefEqProofs [Zs_L0, dn_cond]
 | r + 1, i, Q, hi, hq, hQ, ht => by
  have hlt : i < n := by omega
  have hltq : i < Q.length := by omega
  have hsh : ∀ h : i < Q.length, (Q[i]'h).sh.beq .leaf = true := fun h => hQ _ (List.getElem_mem h)
  have e1 := hat p X i
  have e2 := hat p Y i
  have a1 := mem_cS hX i
  have a2 := mem_cS hY i
  have e3 := hco p k (cS X i) (cS Y i) (by omega) (by omega) (by omega) (by omega)
  have w4 : IntKind.i64.wrap ((i : Int) + 1) = ((i + 1 : Nat) : Int) := (w64 (x := (i : Int) + 1) (by omega)).trans (by omega)
  have hLn : ((List.range n).map fun i => rowD (cS X i + Pol.C (zp p k) * cS Y i)).length = n := by rw [List.length_map, List.length_range]
  refine dn_round ?_ (l_plus hat hco (m := m) hk hX hY hn (cp := cp) (cq := cq) r (i + 1) (Q.set i (D.sl .leaf (ints .i64 (row (cS X i + Pol.C (zp p k) * cS Y i))))) (by omega) (by rw [List.length_set]; exact hq) (fun d hd => by
   rcases List.mem_or_eq_of_mem_set hd with h1 | rfl
   ·exact hQ d h1
   ·rfl) (by
   rw [List.take_succ_eq_append_getElem (by rw [List.length_set]; exact hltq), List.getElem_set_self, List.take_set, List.set_eq_of_length_le (by rw [List.length_take]; omega), ht, List.take_succ_eq_append_getElem (by omega), List.getElem_map, List.getElem_range]))
  have hfd : fldD m = .st [.leaf, .leaf] [(D.int .i64 p), (D.sl .leaf (ints .i64 (row m)))] := rfl
  have hsX : skD X = .sl .leaf (X.map rowD) := rfl
  have hsY : skD Y = .sl .leaf (Y.map rowD) := rfl
  rw [hfd]
  rw [hsX] at e1 ⊢
  rw [hsY] at e2 ⊢
  generalize row (cS X i + Pol.C (zp p k) * cS Y i) = R3 at *
  generalize row (cS X i) = R1 at *
  generalize row (cS Y i) = R2 at *
  generalize X.map rowD = XD at *
  generalize Y.map rowD = YD at *
  generalize row m = Rm at *
  simp -implicitDefEqProofs [Zs_L0, dn_cond, hlt, hq, hsh, e1, e2, e3, w4]
def K_plus (O : Oracle) : Prop := ∀ (p : Int) [IsP p] (m : Fp p) (X Y : List (Fp p)) (k : Int), -1000 ≤ k → k ≤ 1000 → X.length < 10000 → Y.length < 10000 → (∀ c ∈ X, c.len ≤ 64) → (∀ c ∈ Y, c.len ≤ 64) → ask O Fs [fldD m, skD X, skD Y, (D.int .i64 k)] = some (skD (plusS k X Y))
theorem k_plus (hT : T Fs = some Zs) (hat : K_skAt (den T A)) (hco : K_combine (den T A)) (htr : K_sktrim (den T A)) : K_plus (den T A) := by
 intro p ip m X Y k hk1 hk2 hXl hYl hX hY
 have e1 := l_plus (O := den T A) hat hco (m := m) ⟨hk1, hk2⟩ hX hY (n := max X.length Y.length) (by omega) (cp := some (max X.length Y.length)) (cq := none) (max X.length Y.length) 0 (List.replicate (max X.length Y.length) (.sl .leaf [])) (Nat.zero_add _) (List.length_replicate ..) (fun d hd => by rw [List.eq_of_mem_replicate hd]; rfl) (by rw [List.take_zero, List.take_zero])
 have e00 : ((0 : Nat) : Int) = 0 := rfl
 have e2 := htr p ((List.range (max X.length Y.length)).map fun i => cS X i + Pol.C (zp p k) * cS Y i) (by rw [List.length_map, List.length_range]; omega)
 have hsum : skD ((List.range (max X.length Y.length)).map fun i => cS X i + Pol.C (zp p k) * cS Y i) = .sl .leaf ((List.range (max X.length Y.length)).map fun i => rowD (cS X i + Pol.C (zp p k) * cS Y i)) := by
  show D.sl .leaf (List.map _ (List.map _ _)) = _
  rw [List.map_map]; rfl
 rw [hsum, show trimS ((List.range (max X.length Y.length)).map fun i => cS X i + Pol.C (zp p k) * cS Y i) = plusS k X Y from rfl] at e2
 rw [e00] at e1
 have hsX : skD X = .sl .leaf (X.map rowD) := rfl
 have hsY : skD Y = .sl .leaf (Y.map rowD) := rfl
 have hsP : skD (plusS k X Y) = .sl .leaf ((plusS k X Y).map rowD) := rfl
 have hX1 : (X.map rowD).length = X.length := List.length_map ..
 have hY1 : (Y.map rowD).length = Y.length := List.length_map ..
 have hmx : (if X.length < Y.length then ((Y.length : Nat) : Int) else ((X.length : Nat) : Int)) = ((max X.length Y.length : Nat) : Int) := by split <;> omega
 have h24 : max X.length Y.length * 24 ≤ 1099511627776 := by omega
 have hLn : ((List.range (max X.length Y.length)).map fun i => rowD (cS X i + Pol.C (zp p k) * cS Y i)).length = max X.length Y.length := by rw [List.length_map, List.length_range]
 have htk : ((List.range (max X.length Y.length)).map fun i => rowD (cS X i + Pol.C (zp p k) * cS Y i)).take (max X.length Y.length) = ((List.range (max X.length Y.length)).map fun i => rowD (cS X i + Pol.C (zp p k) * cS Y i)) := List.take_of_length_le (by omega)
 rw [hsP] at e2 ⊢
 rw [hsX, hsY] at e1 ⊢
 refine ask_of hT rfl ?_
 generalize ((List.range (max X.length Y.length)).map fun i => rowD (cS X i + Pol.C (zp p k) * cS Y i)) = LQ at *
 generalize X.map rowD = XD at *
 generalize Y.map rowD = YD at *
 generalize (plusS k X Y).map rowD = PD at *
 generalize hmm : max X.length Y.length = n at *
 simp -implicitDefEqProofs [Zs, Zs_B, hX1, hY1, hmx, h24, e1, e2, hLn, htk]
def K_by2 (O : Oracle) : Prop := ∀ (p : Int) [IsP p] (m : Fp p) (a b : List (Fp p)), 2 ≤ m.len → m.len ≤ 64 → (∀ c ∈ a, c.len ≤ 64) → (∀ c ∈ b, c.len ≤ 64) → a.length < 10000 → b.length < 10000 → ask O Fo [fldD m, skD a, skD b] = some (skD (prodS m a b))
theorem k_by2 {O : Oracle} (h : K_by O) : K_by2 O := by
 intro p ip m a b h2 hml ha hb hal hbl
 rw [h p m a b h2 hml ha hb hal hbl]
 unfold prodS
 split <;> rfl
end Pe

namespace Pe
open Go Gq
variable {T : Nat → Option Fn} {A : Oracle}
end Pe


namespace Pe
open Go Gq
variable {T : Nat → Option Fn} {A : Oracle}
end Pe

namespace Pe
open Go Gq
variable {T : Nat → Option Fn} {A : Oracle}
end Pe

namespace Pe
open Go Gq
variable {T : Nat → Option Fn} {A : Oracle}
section
variable {p : Int} [IsP p]
theorem byIn_cS {m x : Fp p} {i n : Nat} : ∀ (k : Nat) (b Q : List (Fp p)), i + k + b.length ≤ Q.length → cS (byIn m x i k b Q) n = if i + k ≤ n ∧ n < i + k + b.length then cS Q n + x * frIt m (i % (m.len - 1)) (cS b (n - (i + k))) % m else cS Q n
 | k, [], Q, _ => by rw [if_neg (by rw [List.length_nil]; omega)]; rfl
 | k, y :: ys, Q, h => by
  rw [List.length_cons] at h
  show cS (byIn m x i (k + 1) ys (addAt Q (i + k) _)) n = _
  rw [byIn_cS (k + 1) ys _ (by rw [addAt_length]; omega)]
  have hadd : ∀ v : Fp p, cS (addAt Q (i + k) v) n = if n = i + k then cS Q n + v else cS Q n := fun v => by
   unfold addAt
   rw [cS_set (by omega)]
   split
   ·rename_i h; rw [h]; rfl
   ·rfl
  rw [hadd]
  by_cases h1 : n = i + k
  ·subst h1
   rw [if_neg (by omega), if_pos rfl, if_pos (by rw [List.length_cons]; omega), Nat.sub_self]
   rfl
  ·rw [if_neg h1]
   by_cases h2 : i + k ≤ n ∧ n < i + k + (y :: ys).length
   ·rw [List.length_cons] at h2
    rw [if_pos (by omega), if_pos (by rw [List.length_cons]; omega)]
    have : cS (y :: ys) (n - (i + k)) = cS ys (n - (i + (k + 1))) := by
     unfold cS
     rw [show n - (i + k) = (n - (i + (k + 1))) + 1 by omega, List.getElem?_cons_succ]
    rw [this]
   ·rw [if_neg h2, if_neg (by rw [List.length_cons] at h2; omega)]
noncomputable def monS (m : Fp p) (X : List (Fp p)) : List (Fp p) := prodS m (termS (invm m (cS X (X.length - 1))) 0) X
theorem Sk.mon {m : Fp p} {X : List (Fp p)} (hm : m ≠ 0) (hX : Sk m X) : Sk m (monS m X) := by
 have h1 := Pol.len_pos hm
 have hl := prod_len_le (m := m) (a := termS (invm m (cS X (X.length - 1))) 0) (b := X)
 rw [termS_length] at hl
 have h8 := hX.eight
 exact ⟨isTrim_prod _ _ _, by unfold monS; omega, fun c hc => by have := prodS_lens' (N := m.len - 1) hm (by omega) c hc; omega⟩
end
end Pe

namespace Pe
open Go Gq
variable {T : Nat → Option Fn} {A : Oracle}
section
variable {p : Int}
theorem c_one {y : Fp p} (h : Pol.C (zp p 1) * y = 0) : y = 0 := by
 rw [zp_one, Pol.C_one, Gq.one_mul] at h; exact h
end
section
variable {p : Int} [IsP p]
theorem prodS_len {m : Fp p} (hm : Fld m) {X Y : List (Fp p)} (hX : IsTrim X) (hY : IsTrim Y) (hXl : ∀ c ∈ X, c.len < m.len) (hYl : ∀ c ∈ Y, c.len < m.len) (h1 : 1 ≤ X.length) (h2 : 1 ≤ Y.length) : (prodS m X Y).length = X.length + Y.length - 1 := by
 obtain ⟨a, ea, la⟩ := snoc_of h1
 obtain ⟨b, eb, lb⟩ := snoc_of h2
 have hx := hX (X.length - 1) (by omega)
 have hy := hY (Y.length - 1) (by omega)
 have ht := mulS_top hm (a := a) (b := b) hx (hXl _ (by rw [← cS_lt (show X.length - 1 < X.length by omega)]; exact List.getElem_mem _)) hy (hYl _ (by rw [← cS_lt (show Y.length - 1 < Y.length by omega)]; exact List.getElem_mem _))
 rw [← ea, ← eb] at ht
 unfold prodS
 rw [if_neg (by omega), ht]
 unfold mulS
 rw [byOut_length, List.length_replicate]
theorem one_ne8 : (1 : Fp p) ≠ 0 := fun h => by
 have e : (1 : Fp p).len = 1 := Pol.len_one
 rw [h, Pol.len_zero] at e
 cases e
theorem mon_len {m : Fp p} (hm : Fld m) {X : List (Fp p)} (hX : IsTrim X) (hr : ∀ c ∈ X, c.len < m.len) (h1 : 1 ≤ X.length) : (monS m X).length = X.length := by
 have h0 := hm.mon.2
 have hx : cS X (X.length - 1) ≠ 0 := hX _ (by omega)
 have hxl : (cS X (X.length - 1)).len < m.len := by
  rw [← cS_lt (show X.length - 1 < X.length by omega)]; exact hr _ (List.getElem_mem _)
 have hi : invm m (cS X (X.length - 1)) ≠ 0 := fun h => by
  have e := inv_back hm (x := 1) (by have := hm.two; have : (1 : Fp p).len = 1 := Pol.len_one; omega) hx hxl
  rw [h, Gq.mul_zero, Pol.zero_mod h0, Gq.zero_mul, Pol.zero_mod h0] at e
  exact one_ne8 e.1.symm
 have hil := invm_len h0 (cS X (X.length - 1))
 have := prodS_len hm (isTrim_term hi 0) hX (fun c hc => by
  unfold termS at hc
  rw [List.replicate_zero, List.nil_append] at hc
  rw [List.mem_singleton.1 hc]; exact hil) hr (by rw [termS_length]; omega) h1
 rw [termS_length] at this
 unfold monS
 omega
end
end Pe


namespace Pe
open Go Gq
variable {T : Nat → Option Fn} {A : Oracle}
section
variable {p : Int} [IsP p]
end
end Pe

namespace Pe
open Go Gq
section
variable {p : Int}
noncomputable def sg {m : Fp p} : Nat → Quo m → Quo m
 | 0, x => x
 | k + 1, x => sg k (pw x p.toNat)
theorem sg_succ {m : Fp p} : ∀ (k : Nat) (x : Quo m), sg (k + 1) x = pw (sg k x) p.toNat
 | 0, _ => rfl
 | k + 1, x => by
  show sg (k + 1) (pw x p.toNat) = _
  rw [sg_succ k]
  rfl
theorem sg_mk [IsP p] {m : Fp p} : ∀ (k : Nat) (a : Fp p), Quo.mk m (frIt m k a) = sg k (Quo.mk m a)
 | 0, _ => rfl
 | k + 1, a => by
  show Quo.mk m (frIt m k (pw a p.toNat % m)) = sg k (pw (Quo.mk m a) p.toNat)
  rw [sg_mk k, Pol.mk_mod, Quo.mk_pow]
theorem pw_zero_pos [IsP p] {m : Fp p} : pw (0 : Quo m) p.toNat = 0 := by
 have h := IsP.pos (p := p)
 have : p.toNat = (p.toNat - 1) + 1 := by omega
 rw [this]
 show pw (0 : Quo m) (p.toNat - 1) * 0 = 0
 exact Gq.mul_zero _
theorem sg_zero [IsP p] {m : Fp p} : ∀ k, sg k (0 : Quo m) = 0
 | 0 => rfl
 | k + 1 => by
  show sg k (pw (0 : Quo m) p.toNat) = 0
  rw [pw_zero_pos, sg_zero k]
theorem sg_one {m : Fp p} : ∀ k, sg k (1 : Quo m) = 1
 | 0 => rfl
 | k + 1 => by
  show sg k (pw (1 : Quo m) p.toNat) = 1
  rw [pw_one, sg_one k]
section
variable {m : Fp p}
noncomputable def Lop (t0 t1 t2 : Quo m) (X : Nat → Quo m) : Nat → Quo m
 | 0 => t0 * X 0
 | 1 => t0 * X 1 + t1 * sg 1 (X 0)
 | n + 2 => t0 * X (n + 2) + t1 * sg 1 (X (n + 1)) + t2 * sg 2 (X n)
noncomputable def Rop (t0 t1 t2 : Quo m) (X : Nat → Quo m) : Nat → Quo m
 | 0 => X 0 * t0
 | 1 => X 1 * sg 1 t0 + X 0 * t1
 | n + 2 => X (n + 2) * sg (n + 2) t0 + X (n + 1) * sg (n + 1) t1 + X n * sg n t2
noncomputable def e0 : Nat → Quo m
 | 0 => 1
 | _ + 1 => 0
theorem sg1_add [IsP p] (x y : Quo m) : sg 1 (x + y) = sg 1 x + sg 1 y := frob_add x y
theorem sg1_mul (x y : Quo m) : sg 1 (x * y) = sg 1 x * sg 1 y := pw_mul x y _
theorem sg2_add [IsP p] (x y : Quo m) : sg 2 (x + y) = sg 2 x + sg 2 y := by
 rw [show sg 2 (x + y) = sg 1 (sg 1 (x + y)) from rfl, sg1_add, sg1_add]; rfl
theorem sg2_mul [IsP p] (x y : Quo m) : sg 2 (x * y) = sg 2 x * sg 2 y := by
 rw [show sg 2 (x * y) = sg 1 (sg 1 (x * y)) from rfl, sg1_mul, sg1_mul]; rfl
theorem sg1_sg [IsP p] (k : Nat) (x : Quo m) : sg 1 (sg k x) = sg (k + 1) x := (sg_succ k x).symm
theorem sg2_sg [IsP p] (k : Nat) (x : Quo m) : sg 2 (sg k x) = sg (k + 2) x := by
 rw [show sg 2 (sg k x) = sg 1 (sg 1 (sg k x)) from rfl, sg1_sg k x, sg1_sg (k + 1) x]
theorem nine (t0 t1 t2 a b c d e f g h i s u v : Quo m) : t0 * (a * s + b * u + c * v) + t1 * (d * s + e * u + f * v) + t2 * (g * s + h * u + i * v) = (t0 * a + t1 * d + t2 * g) * s + (t0 * b + t1 * e + t2 * h) * u + (t0 * c + t1 * f + t2 * i) * v := by
 have l : ∀ t a b c : Quo m, t * (a * s + b * u + c * v) = t * a * s + t * b * u + t * c * v := fun t a b c => ring_of [t, a, b, c, s, u, v] rfl
 have q : ∀ x y z w : Quo m, (x + y + z) * w = x * w + y * w + z * w := fun x y z w => ring_of [x, y, z, w] rfl
 have z : ∀ p1 p2 p3 q1 q2 q3 r1 r2 r3 : Quo m, (p1 + p2 + p3) + (q1 + q2 + q3) + (r1 + r2 + r3) = (p1 + q1 + r1) + (p2 + q2 + r2) + (p3 + q3 + r3) := fun p1 p2 p3 q1 q2 q3 r1 r2 r3 => ring_of [p1, p2, p3, q1, q2, q3, r1, r2, r3] rfl
 rw [l, l, l, q, q, q, z]
theorem eight [IsP p] (t0 t1 t2 a b c d e f g h s u v : Quo m) : t0 * (a * s + b * u + c * v) + t1 * (d * s + e * u + f * v) + t2 * (g * s + h * u) = (t0 * a + t1 * d + t2 * g) * s + (t0 * b + t1 * e + t2 * h) * u + (t0 * c + t1 * f) * v := by
 have := nine t0 t1 t2 a b c d e f g h 0 s u v
 simp only [Gq.zero_mul, Gq.mul_zero, Gq.add_zero] at this
 exact this
theorem op_comm [IsP p] (t0 t1 t2 : Quo m) (X : Nat → Quo m) (n : Nat) : Lop t0 t1 t2 (Rop t0 t1 t2 X) n = Rop t0 t1 t2 (Lop t0 t1 t2 X) n := by
 have s0 : ∀ x : Quo m, sg 0 x = x := fun _ => rfl
 match n with
 | 0 =>
  simp only [Lop, Rop]
  exact ring_of [t0, X 0] rfl
 | 1 =>
  simp only [Lop, Rop, sg1_mul]
  exact ring_of [t0, t1, X 0, X 1, sg 1 t0, sg 1 (X 0)] rfl
 | 2 =>
  simp only [Lop, Rop, sg1_add, sg1_mul, sg2_mul, sg1_sg, s0]
  exact ring_of [t0, t1, t2, X 0, X 1, X 2, sg 1 t0, sg 2 t0, sg 1 t1, sg 1 (X 0), sg 1 (X 1), sg 2 (X 0), sg (1 + 1) t0] rfl
 | 3 =>
  simp only [Lop, Rop, sg1_add, sg1_mul, sg2_add, sg2_mul, sg1_sg, sg2_sg, s0]
  exact eight _ _ _ _ _ _ _ _ _ _ _ _ _ _
 | k + 4 =>
  have hR : ∀ Y : Nat → Quo m, ∀ j, Rop t0 t1 t2 Y (j + 2) = Y (j + 2) * sg (j + 2) t0 + Y (j + 1) * sg (j + 1) t1 + Y j * sg j t2 := fun _ _ => rfl
  have hL : ∀ Y : Nat → Quo m, ∀ j, Lop t0 t1 t2 Y (j + 2) = t0 * Y (j + 2) + t1 * sg 1 (Y (j + 1)) + t2 * sg 2 (Y j) := fun _ _ => rfl
  rw [show k + 4 = (k + 2) + 2 from rfl, hL, hR, hR (Lop t0 t1 t2 X) (k + 2), hL X (k + 2), show k + 2 + 1 = (k + 1) + 2 from rfl, hL X (k + 1), hR X (k + 1), hL X k, hR X k]
  simp only [sg1_add, sg1_mul, sg2_add, sg2_mul, sg1_sg, sg2_sg]
  rw [show k + 1 + 2 = k + 3 from rfl, show k + 1 + 1 = k + 2 from rfl, show k + 2 + 2 = k + 4 from rfl, show k + 2 + 1 = k + 3 from rfl, show k + 3 + 1 = k + 4 from rfl]
  exact nine _ _ _ _ _ _ _ _ _ _ _ _ _ _ _
theorem op_e0 [IsP p] (t0 t1 t2 : Quo m) (n : Nat) : Lop t0 t1 t2 e0 n = Rop t0 t1 t2 e0 n := by
 have s0 : ∀ x : Quo m, sg 0 x = x := fun _ => rfl
 match n with
 | 0 => simp only [Lop, Rop, e0]; exact ring_of [t0] rfl
 | 1 => simp only [Lop, Rop, e0, sg_one]; exact ring_of [t0, t1, sg 1 t0] rfl
 | 2 => simp only [Lop, Rop, e0, sg_one, sg_zero, s0]; exact ring_of [t0, t1, t2, sg 2 t0, sg 1 t1, sg (0 + 1) t1, sg (0 + 2) t0] rfl
 | k + 3 =>
  have hR : ∀ Y : Nat → Quo m, ∀ j, Rop t0 t1 t2 Y (j + 2) = Y (j + 2) * sg (j + 2) t0 + Y (j + 1) * sg (j + 1) t1 + Y j * sg j t2 := fun _ _ => rfl
  have hL : ∀ Y : Nat → Quo m, ∀ j, Lop t0 t1 t2 Y (j + 2) = t0 * Y (j + 2) + t1 * sg 1 (Y (j + 1)) + t2 * sg 2 (Y j) := fun _ _ => rfl
  rw [show k + 3 = (k + 1) + 2 from rfl, hL, hR]
  simp only [e0, sg_zero]
  simp only [Gq.mul_zero, Gq.zero_mul, Gq.add_zero]
theorem op_add (t0 t1 t2 : Quo m) (X Y : Nat → Quo m) (n : Nat) : Rop t0 t1 t2 (fun i => X i + Y i) n = Rop t0 t1 t2 X n + Rop t0 t1 t2 Y n := by
 match n with
 | 0 => simp only [Rop]; exact ring_of [t0, X 0, Y 0] rfl
 | 1 => simp only [Rop]; exact ring_of [sg 1 t0, t1, X 0, Y 0, X 1, Y 1] rfl
 | k + 2 => simp only [Rop]; exact ring_of [sg (k + 2) t0, sg (k + 1) t1, sg k t2, X k, Y k, X (k + 1), Y (k + 1), X (k + 2), Y (k + 2)] rfl
theorem op_smul (t0 t1 t2 c : Quo m) (X : Nat → Quo m) (n : Nat) : Rop t0 t1 t2 (fun i => c * X i) n = c * Rop t0 t1 t2 X n := by
 match n with
 | 0 => simp only [Rop]; exact ring_of [t0, X 0, c] rfl
 | 1 => simp only [Rop]; exact ring_of [sg 1 t0, t1, X 0, X 1, c] rfl
 | k + 2 => simp only [Rop]; exact ring_of [sg (k + 2) t0, sg (k + 1) t1, sg k t2, X k, X (k + 1), X (k + 2), c] rfl
theorem op_zero (t0 t1 t2 : Quo m) (n : Nat) : Rop t0 t1 t2 (fun _ => 0) n = 0 := by
 match n with
 | 0 => simp only [Rop, Gq.zero_mul]
 | 1 => simp only [Rop, Gq.zero_mul, Gq.add_zero]
 | k + 2 => simp only [Rop, Gq.zero_mul, Gq.add_zero]
noncomputable def Rk (t0 t1 t2 : Quo m) : Nat → Nat → Quo m
 | 0 => e0
 | k + 1 => Rop t0 t1 t2 (Rk t0 t1 t2 k)
noncomputable def Lk (t0 t1 t2 : Quo m) : Nat → Nat → Quo m
 | 0 => e0
 | k + 1 => Lop t0 t1 t2 (Lk t0 t1 t2 k)
theorem lop_rk [IsP p] (t0 t1 t2 : Quo m) : ∀ k, Lop t0 t1 t2 (Rk t0 t1 t2 k) = Rk t0 t1 t2 (k + 1)
 | 0 => funext fun n => op_e0 t0 t1 t2 n
 | k + 1 => by
  have ih := lop_rk t0 t1 t2 k
  funext n
  show Lop t0 t1 t2 (Rop t0 t1 t2 (Rk t0 t1 t2 k)) n = Rop t0 t1 t2 (Rk t0 t1 t2 (k + 1)) n
  rw [op_comm, ih]
theorem lk_rk [IsP p] (t0 t1 t2 : Quo m) : ∀ k, Lk t0 t1 t2 k = Rk t0 t1 t2 k
 | 0 => rfl
 | k + 1 => by
  show Lop t0 t1 t2 (Lk t0 t1 t2 k) = _
  rw [lk_rk t0 t1 t2 k, lop_rk]
noncomputable def hsum (t0 t1 t2 : Quo m) : (Nat → Quo m) → Nat → Nat → Nat → Quo m
 | _, _, 0, _ => 0
 | c, k, n + 1, i => c 0 * Rk t0 t1 t2 k i + hsum t0 t1 t2 (fun j => c (j + 1)) (k + 1) n i
theorem hsum_rop [IsP p] (t0 t1 t2 : Quo m) : ∀ (n : Nat) (c : Nat → Quo m) (k : Nat), Rop t0 t1 t2 (hsum t0 t1 t2 c k n) = hsum t0 t1 t2 c (k + 1) n
 | 0, c, k => funext fun i => op_zero t0 t1 t2 i
 | n + 1, c, k => by
  funext i
  show Rop t0 t1 t2 (fun i => c 0 * Rk t0 t1 t2 k i + hsum t0 t1 t2 (fun j => c (j + 1)) (k + 1) n i) i = _
  rw [op_add, op_smul]
  show c 0 * Rk t0 t1 t2 (k + 1) i + Rop t0 t1 t2 (hsum t0 t1 t2 (fun j => c (j + 1)) (k + 1) n) i = c 0 * Rk t0 t1 t2 (k + 1) i + hsum t0 t1 t2 (fun j => c (j + 1)) (k + 1 + 1) n i
  rw [hsum_rop t0 t1 t2 n]
theorem hsum_snoc (t0 t1 t2 : Quo m) (i : Nat) : ∀ (n : Nat) (c : Nat → Quo m) (k : Nat), hsum t0 t1 t2 c k (n + 1) i = hsum t0 t1 t2 c k n i + c n * Rk t0 t1 t2 (k + n) i
 | 0, c, k => by
  show c 0 * Rk t0 t1 t2 k i + 0 = 0 + c 0 * Rk t0 t1 t2 (k + 0) i
  rw [Nat.add_zero, Gq.add_zero, Gq.zero_add]
 | n + 1, c, k => by
  show c 0 * Rk t0 t1 t2 k i + hsum t0 t1 t2 (fun j => c (j + 1)) (k + 1) (n + 1) i = c 0 * Rk t0 t1 t2 k i + hsum t0 t1 t2 (fun j => c (j + 1)) (k + 1) n i + c (n + 1) * Rk t0 t1 t2 (k + (n + 1)) i
  rw [hsum_snoc t0 t1 t2 i n (fun j => c (j + 1)) (k + 1), show k + 1 + n = k + (n + 1) by omega]
  exact (Gq.add_assoc _ _ _).symm
theorem hsum_congr (t0 t1 t2 : Quo m) (i : Nat) : ∀ (n : Nat) (c d : Nat → Quo m) (k : Nat), (∀ j, j < n → c j = d j) → hsum t0 t1 t2 c k n i = hsum t0 t1 t2 d k n i
 | 0, _, _, _, _ => rfl
 | n + 1, c, d, k, h => by
  show c 0 * Rk t0 t1 t2 k i + _ = d 0 * Rk t0 t1 t2 k i + _
  rw [h 0 (by omega), hsum_congr t0 t1 t2 i n (fun j => c (j + 1)) (fun j => d (j + 1)) (k + 1) fun j hj => h (j + 1) (by omega)]
end
noncomputable def qcf (m : Fp p) (A : List (Fp p)) (n : Nat) : Quo m := Quo.mk m (cS A n)
theorem qcf_nil (m : Fp p) (n : Nat) : qcf m [] n = 0 := rfl
theorem qcf_ge {m : Fp p} {A : List (Fp p)} {n : Nat} (h : A.length ≤ n) : qcf m A n = 0 := by unfold qcf; rw [cS_ge h]; rfl
theorem qcf_eq [IsP p] {m : Fp p} (hm : m ≠ 0) {A B : List (Fp p)} {n : Nat} (hA : (cS A n).len < m.len) (hB : (cS B n).len < m.len) (h : qcf m A n = qcf m B n) : cS A n = cS B n := by
 have e := (Pol.mod_eq_iff hm).2 h
 rwa [Pol.mod_small hA, Pol.mod_small hB] at e
theorem qcf_set {m : Fp p} {A : List (Fp p)} {j n : Nat} {v : Fp p} (h : j < A.length) : qcf m (addAt A j v) n = qcf m A n + (if n = j then Quo.mk m v else 0) := by
 unfold qcf addAt
 rw [cS_set h]
 by_cases hn : n = j
 ·rw [if_pos hn, if_pos hn, hn]; rfl
 ·rw [if_neg hn, if_neg hn, Gq.add_zero]
theorem qcf_zeros (m : Fp p) (k n : Nat) : qcf m (List.replicate k 0) n = 0 := by
 unfold qcf cS
 rw [List.getElem?_replicate]
 split <;> rfl
theorem byIn_q [IsP p] {m x : Fp p} (hm : Fld m) {b : List (Fp p)} (hb : ∀ c ∈ b, c.len < m.len) {i n : Nat} {Q : List (Fp p)} (h : i + b.length ≤ Q.length) : qcf m (byIn m x i 0 b Q) n = qcf m Q n + (if i ≤ n then Quo.mk m x * sg i (qcf m b (n - i)) else 0) := by
 have h1 := Pol.len_pos hm.mon.2
 unfold qcf
 rw [byIn_cS 0 b Q (by omega), Nat.add_zero]
 have hl : (cS b (n - i)).len < m.len := by
  have := mem_cS (A := b) (N := m.len - 1) (fun c hc => by have := hb c hc; omega) (n - i)
  omega
 by_cases h0 : i ≤ n ∧ n < i + b.length
 ·rw [if_pos h0, if_pos h0.1, Quo.mk_add, Pol.mk_mod, Quo.mk_mul, frIt_mod hm i hl, sg_mk]
 ·rw [if_neg h0]
  split
  ·rename_i h2
   rw [cS_ge (A := b) (by omega)]
   show _ = Quo.mk m (cS Q n) + Quo.mk m x * sg i 0
   rw [sg_zero, Gq.mul_zero, Gq.add_zero]
  ·exact (Gq.add_zero _).symm
theorem byOut_q [IsP p] {m t0 t1 t2 : Fp p} (hm : Fld m) (hb : ∀ c ∈ [t0, t1, t2], c.len < m.len) {n : Nat} : ∀ (A : List (Fp p)) (i : Nat) (Q : List (Fp p)), i + A.length + 2 ≤ Q.length → qcf m (byOut m [t0, t1, t2] i A Q) n = qcf m Q n + ((if i ≤ n then qcf m A (n - i) * sg n (Quo.mk m t0) else 0) + (if i + 1 ≤ n then qcf m A (n - i - 1) * sg (n - 1) (Quo.mk m t1) else 0) + (if i + 2 ≤ n then qcf m A (n - i - 2) * sg (n - 2) (Quo.mk m t2) else 0))
 | [], i, Q, _ => by
  show qcf m Q n = _
  have z : ∀ j, qcf m ([] : List (Fp p)) j = 0 := fun _ => rfl
  simp only [z, Gq.zero_mul, ite_self, Gq.add_zero]
 | x :: xs, i, Q, h => by
  rw [List.length_cons] at h
  show qcf m (byOut m [t0, t1, t2] (i + 1) xs (byIn m x i 0 [t0, t1, t2] Q)) n = _
  rw [byOut_q hm hb xs (i + 1) _ (by rw [byIn_length]; omega), byIn_q hm hb (by simp only [List.length_cons, List.length_nil]; omega)]
  have hx0 : qcf m (x :: xs) 0 = Quo.mk m x := rfl
  have hxs : ∀ j, qcf m (x :: xs) (j + 1) = qcf m xs j := fun j => rfl
  have ht0 : qcf m [t0, t1, t2] 0 = Quo.mk m t0 := rfl
  have ht1 : qcf m [t0, t1, t2] 1 = Quo.mk m t1 := rfl
  have ht2 : qcf m [t0, t1, t2] 2 = Quo.mk m t2 := rfl
  rcases Nat.lt_or_ge n i with h1 | h1
  ·rw [if_neg (by omega), if_neg (by omega), if_neg (by omega), if_neg (by omega), if_neg (by omega), if_neg (by omega), if_neg (by omega)]
   simp only [Gq.add_zero]
  ·obtain ⟨e, rfl⟩ : ∃ e, n = i + e := ⟨n - i, by omega⟩
   match e with
   | 0 =>
    rw [if_pos (by omega), if_neg (by omega), if_neg (by omega), if_neg (by omega), if_pos (by omega), if_neg (by omega), if_neg (by omega), show i + 0 - i = 0 by omega, hx0, ht0, show i + 0 = i from rfl]
    simp only [Gq.add_zero]
   | 1 =>
    rw [if_pos (by omega), if_pos (by omega), if_neg (by omega), if_neg (by omega), if_pos (by omega), if_pos (by omega), if_neg (by omega), show i + 1 - i = 0 + 1 by omega, show i + 1 - (i + 1) = 0 by omega, show 0 + 1 - 1 = 0 from rfl, hxs, hx0, show i + 1 - 1 = i by omega]
    rw [show (0 + 1 : Nat) = 1 from rfl, ht1]
    exact ring_of [qcf m Q (i + 1), Quo.mk m x, sg i (Quo.mk m t1), qcf m xs 0, sg (i + 1) (Quo.mk m t0)] rfl
   | 2 =>
    rw [if_pos (by omega), if_pos (by omega), if_pos (by omega), if_neg (by omega), if_pos (by omega), if_pos (by omega), if_pos (by omega), show i + 2 - (i + 1) - 1 = 0 by omega, show i + 2 - (i + 1) = 1 by omega, show i + 2 - i - 2 = 0 by omega, show i + 2 - i - 1 = 0 + 1 by omega, show i + 2 - i = 1 + 1 by omega, hxs, hxs, hx0, show i + 2 - 1 = i + 1 by omega, show i + 2 - 2 = i by omega]
    rw [show (1 + 1 : Nat) = 2 from rfl, ht2]
    exact ring_of [qcf m Q (i + 2), Quo.mk m x, sg i (Quo.mk m t2), qcf m xs 0, qcf m xs 1, sg (i + 2) (Quo.mk m t0), sg (i + 1) (Quo.mk m t1)] rfl
   | k + 3 =>
    have hz : qcf m [t0, t1, t2] (k + 3) = 0 := rfl
    rw [if_pos (by omega), if_pos (by omega), if_pos (by omega), if_pos (by omega), if_pos (by omega), if_pos (by omega), if_pos (by omega), show i + (k + 3) - (i + 1) - 2 = k by omega, show i + (k + 3) - (i + 1) - 1 = k + 1 by omega, show i + (k + 3) - (i + 1) = k + 2 by omega, show i + (k + 3) - i - 2 = k + 1 by omega, show i + (k + 3) - i - 1 = (k + 1) + 1 by omega, show i + (k + 3) - i = k + 3 by omega, hz, sg_zero, Gq.mul_zero, Gq.add_zero, hxs, hxs]
    rw [show k + 3 = (k + 2) + 1 from rfl, hxs]
theorem prod_R [IsP p] {m t0 t1 t2 : Fp p} (hm : Fld m) (hb : ∀ c ∈ [t0, t1, t2], c.len < m.len) (A : List (Fp p)) (n : Nat) : qcf m (prodS m A [t0, t1, t2]) n = Rop (Quo.mk m t0) (Quo.mk m t1) (Quo.mk m t2) (qcf m A) n := by
 unfold prodS
 by_cases h0 : A.length = 0
 ·rw [if_pos (.inl h0), List.length_eq_zero_iff.1 h0]
  exact (op_zero _ _ _ n).symm
 ·rw [if_neg (by simp only [List.length_cons]; omega)]
  have e : qcf m (trimS (mulS m A [t0, t1, t2])) n = qcf m (mulS m A [t0, t1, t2]) n := by unfold qcf; rw [cS_trim]
  rw [e]
  unfold mulS
  rw [byOut_q hm hb A 0 _ (by rw [List.length_replicate]; simp only [List.length_cons, List.length_nil]; omega), qcf_zeros, Gq.zero_add]
  match n with
  | 0 =>
   rw [if_pos (by omega), if_neg (by omega), if_neg (by omega)]
   simp only [Rop, Gq.add_zero]
   rfl
  | 1 =>
   rw [if_pos (by omega), if_pos (by omega), if_neg (by omega)]
   simp only [Rop, Gq.add_zero]
   rfl
  | k + 2 =>
   rw [if_pos (by omega), if_pos (by omega), if_pos (by omega)]
   rfl
noncomputable def cmpIn [IsP p] (m : Fp p) (k : Nat) : Nat → List (Fp p) → Fp p → List (Fp p) → List (Fp p)
 | _, [], _, Q => Q
 | i, u :: us, w, Q => cmpIn m k (i + 1) us (pw w p.toNat % m) (addAt Q (i + k) (u * w % m))
noncomputable def cmpOut [IsP p] (m : Fp p) (us : List (Fp p)) : Nat → List (Fp p) → List (Fp p) → List (Fp p)
 | _, [], Q => Q
 | k, v :: vs, Q => cmpOut m us (k + 1) vs (cmpIn m k 0 us v Q)
theorem cmpIn_length [IsP p] (m : Fp p) (k : Nat) : ∀ (us : List (Fp p)) (i : Nat) (w : Fp p) (Q : List (Fp p)), (cmpIn m k i us w Q).length = Q.length
 | [], _, _, _ => rfl
 | u :: us, i, w, Q => by
  show (cmpIn m k (i + 1) us _ (addAt Q (i + k) _)).length = _
  rw [cmpIn_length m k us, addAt_length]
theorem cmpOut_length [IsP p] (m : Fp p) (us : List (Fp p)) : ∀ (vs : List (Fp p)) (k : Nat) (Q : List (Fp p)), (cmpOut m us k vs Q).length = Q.length
 | [], _, _ => rfl
 | v :: vs, k, Q => by
  show (cmpOut m us (k + 1) vs _).length = _
  rw [cmpOut_length m us vs, cmpIn_length]
theorem cmpIn_lens [IsP p] {m : Fp p} {N : Nat} (hm : m ≠ 0) (hN : m.len ≤ N + 1) (k : Nat) : ∀ (us : List (Fp p)) (i : Nat) (w : Fp p) (Q : List (Fp p)), (∀ c ∈ Q, c.len ≤ N) → ∀ c ∈ cmpIn m k i us w Q, c.len ≤ N
 | [], _, _, _, h => h
 | u :: us, i, w, Q, h => cmpIn_lens hm hN k us (i + 1) _ _ (addAt_lens h (by have := Pol.len_mod (u * w) hm; omega))
theorem cmpOut_lens [IsP p] {m : Fp p} {N : Nat} (hm : m ≠ 0) (hN : m.len ≤ N + 1) (us : List (Fp p)) : ∀ (vs : List (Fp p)) (k : Nat) (Q : List (Fp p)), (∀ c ∈ Q, c.len ≤ N) → ∀ c ∈ cmpOut m us k vs Q, c.len ≤ N
 | [], _, _, h => h
 | v :: vs, k, Q, h => cmpOut_lens hm hN us vs (k + 1) _ (cmpIn_lens hm hN k us 0 v Q h)
theorem cmpIn_q [IsP p] {m t0 t1 t2 v : Fp p} {k n : Nat} {Q : List (Fp p)} (h : k + 3 ≤ Q.length) : qcf m (cmpIn m k 0 [t0, t1, t2] v Q) n = qcf m Q n + ((if n = k then Quo.mk m t0 * Quo.mk m v else 0) + (if n = k + 1 then Quo.mk m t1 * sg 1 (Quo.mk m v) else 0) + (if n = k + 2 then Quo.mk m t2 * sg 2 (Quo.mk m v) else 0)) := by
 have e1 : Quo.mk m (pw v p.toNat % m) = sg 1 (Quo.mk m v) := by rw [Pol.mk_mod, Quo.mk_pow]; rfl
 have e2 : Quo.mk m (pw (pw v p.toNat % m) p.toNat % m) = sg 2 (Quo.mk m v) := by rw [Pol.mk_mod, Quo.mk_pow, e1]; rfl
 show qcf m (addAt (addAt (addAt Q (0 + k) (t0 * v % m)) (1 + k) (t1 * (pw v p.toNat % m) % m)) (2 + k) (t2 * (pw (pw v p.toNat % m) p.toNat % m) % m)) n = _
 rw [qcf_set (by rw [addAt_length, addAt_length]; omega), qcf_set (by rw [addAt_length]; omega), qcf_set (by omega)]
 have m1 : ∀ a b : Fp p, Quo.mk m (a * b % m) = Quo.mk m a * Quo.mk m b := fun a b => by rw [Pol.mk_mod, Quo.mk_mul]
 rw [m1, m1, m1, e1, e2, show 0 + k = k by omega, show 1 + k = k + 1 by omega, show 2 + k = k + 2 by omega]
 simp only [Gq.add_assoc]
theorem cmpOut_q [IsP p] {m t0 t1 t2 : Fp p} {n : Nat} : ∀ (vs : List (Fp p)) (k : Nat) (Q : List (Fp p)), k + vs.length + 2 ≤ Q.length → qcf m (cmpOut m [t0, t1, t2] k vs Q) n = qcf m Q n + ((if k ≤ n then Quo.mk m t0 * qcf m vs (n - k) else 0) + (if k + 1 ≤ n then Quo.mk m t1 * sg 1 (qcf m vs (n - k - 1)) else 0) + (if k + 2 ≤ n then Quo.mk m t2 * sg 2 (qcf m vs (n - k - 2)) else 0))
 | [], k, Q, _ => by
  show qcf m Q n = _
  have z : ∀ j, qcf m ([] : List (Fp p)) j = 0 := fun _ => rfl
  simp only [z, sg_zero, Gq.mul_zero, ite_self, Gq.add_zero]
 | v :: vs, k, Q, h => by
  rw [List.length_cons] at h
  show qcf m (cmpOut m [t0, t1, t2] (k + 1) vs (cmpIn m k 0 [t0, t1, t2] v Q)) n = _
  rw [cmpOut_q vs (k + 1) _ (by rw [cmpIn_length]; omega), cmpIn_q (by omega)]
  have hx0 : qcf m (v :: vs) 0 = Quo.mk m v := rfl
  have hxs : ∀ j, qcf m (v :: vs) (j + 1) = qcf m vs j := fun j => rfl
  rcases Nat.lt_or_ge n k with h1 | h1
  ·rw [if_neg (by omega), if_neg (by omega), if_neg (by omega), if_neg (by omega), if_neg (by omega), if_neg (by omega), if_neg (by omega), if_neg (by omega), if_neg (by omega)]
   simp only [Gq.add_zero]
  ·obtain ⟨e, rfl⟩ : ∃ e, n = k + e := ⟨n - k, by omega⟩
   match e with
   | 0 =>
    rw [if_pos (by omega), if_neg (by omega), if_neg (by omega), if_neg (by omega), if_neg (by omega), if_neg (by omega), if_pos (by omega), if_neg (by omega), if_neg (by omega), show k + 0 - k = 0 by omega, hx0]
    simp only [Gq.add_zero]
   | 1 =>
    rw [if_neg (by omega), if_pos (by omega), if_neg (by omega), if_pos (by omega), if_neg (by omega), if_neg (by omega), if_pos (by omega), if_pos (by omega), if_neg (by omega), show k + 1 - (k + 1) = 0 by omega, show k + 1 - k = 0 + 1 by omega, hxs, show 0 + 1 - 1 = 0 from rfl, hx0]
    exact ring_of [qcf m Q (k + 1), Quo.mk m t0, Quo.mk m t1, sg 1 (Quo.mk m v), qcf m vs 0] rfl
   | 2 =>
    rw [if_neg (by omega), if_neg (by omega), if_pos (by omega), if_pos (by omega), if_pos (by omega), if_neg (by omega), if_pos (by omega), if_pos (by omega), if_pos (by omega), show k + 2 - (k + 1) - 1 = 0 by omega, show k + 2 - (k + 1) = 1 by omega, show k + 2 - k - 2 = 0 by omega, show k + 2 - k - 1 = 0 + 1 by omega, show k + 2 - k = 1 + 1 by omega, hxs, hxs, hx0]
    exact ring_of [qcf m Q (k + 2), Quo.mk m t0, Quo.mk m t1, Quo.mk m t2, sg 2 (Quo.mk m v), qcf m vs 1, sg 1 (qcf m vs 0)] rfl
   | j + 3 =>
    rw [if_neg (by omega), if_neg (by omega), if_neg (by omega), if_pos (by omega), if_pos (by omega), if_pos (by omega), if_pos (by omega), if_pos (by omega), if_pos (by omega), show k + (j + 3) - (k + 1) - 2 = j by omega, show k + (j + 3) - (k + 1) - 1 = j + 1 by omega, show k + (j + 3) - (k + 1) = j + 2 by omega, show k + (j + 3) - k - 2 = j + 1 by omega, show k + (j + 3) - k - 1 = (j + 1) + 1 by omega, show k + (j + 3) - k = (j + 2) + 1 by omega, hxs, hxs, hxs]
    simp only [Gq.add_zero]
noncomputable def cmpS [IsP p] (m : Fp p) (us vs : List (Fp p)) : List (Fp p) := trimS (cmpOut m us 0 vs (List.replicate (us.length + vs.length) 0))
theorem cmp_L [IsP p] {m t0 t1 t2 : Fp p} (vs : List (Fp p)) (n : Nat) : qcf m (cmpS m [t0, t1, t2] vs) n = Lop (Quo.mk m t0) (Quo.mk m t1) (Quo.mk m t2) (qcf m vs) n := by
 have e : qcf m (cmpS m [t0, t1, t2] vs) n = qcf m (cmpOut m [t0, t1, t2] 0 vs (List.replicate ([t0, t1, t2].length + vs.length) 0)) n := by unfold qcf cmpS; rw [cS_trim]
 rw [e, cmpOut_q vs 0 _ (by rw [List.length_replicate]; simp only [List.length_cons, List.length_nil]; omega), qcf_zeros, Gq.zero_add]
 match n with
 | 0 =>
  rw [if_pos (by omega), if_neg (by omega), if_neg (by omega)]
  simp only [Lop, Gq.add_zero]
 | 1 =>
  rw [if_pos (by omega), if_pos (by omega), if_neg (by omega)]
  simp only [Lop, Gq.add_zero]
 | k + 2 =>
  rw [if_pos (by omega), if_pos (by omega), if_pos (by omega)]
  rfl
theorem cmp_lens [IsP p] {m : Fp p} (hm : m ≠ 0) (us vs : List (Fp p)) : ∀ c ∈ cmpS m us vs, c.len < m.len := fun c hc => by
 have h1 := Pol.len_pos hm
 have := cmpOut_lens (N := m.len - 1) hm (by omega) us vs 0 (List.replicate (us.length + vs.length) 0) (fun c hc => by rw [List.eq_of_mem_replicate hc, Pol.len_zero]; omega) c (List.mem_of_mem_take hc)
 omega
theorem cmp_len [IsP p] {m : Fp p} (hm : m ≠ 0) {t0 t1 t2 : Fp p} (vs : List (Fp p)) : (cmpS m [t0, t1, t2] vs).length ≤ vs.length + 2 := by
 have h1 := Pol.len_pos hm
 unfold cmpS
 refine trim_len_le fun i hi => ?_
 have hz := qcf_eq (A := cmpOut m [t0, t1, t2] 0 vs (List.replicate ([t0, t1, t2].length + vs.length) 0)) (B := []) (n := i) hm (by
  have := mem_cS (N := m.len - 1) (cmpOut_lens (N := m.len - 1) hm (by omega) [t0, t1, t2] vs 0 (List.replicate ([t0, t1, t2].length + vs.length) 0) (fun c hc => by rw [List.eq_of_mem_replicate hc, Pol.len_zero]; omega)) i
  omega) (by rw [cS_nil, Pol.len_zero]; omega) (by
  rw [cmpOut_q vs 0 _ (by rw [List.length_replicate]; simp only [List.length_cons, List.length_nil]; omega), qcf_zeros, Gq.zero_add, if_pos (by omega), if_pos (by omega), if_pos (by omega), qcf_ge (show vs.length ≤ i - 0 by omega), qcf_ge (show vs.length ≤ i - 0 - 1 by omega), qcf_ge (show vs.length ≤ i - 0 - 2 by omega), sg_zero, sg_zero, Gq.mul_zero, Gq.mul_zero, Gq.mul_zero, Gq.add_zero, Gq.add_zero]
  rfl)
 rw [hz]; rfl
noncomputable def actN [IsP p] (m t0 t1 t2 a : Fp p) (n : Nat) : Nat → List (Fp p)
 | 0 => []
 | j + 1 => plusS 1 (prodS m (actN m t0 t1 t2 a n j) [t0, t1, t2]) (termS (Pol.C (a.c (n - 1 - j))) 0)
theorem const_len (c : Zp p) : (Pol.C c).len ≤ 1 := Pol.len_le fun i hi => by
 cases i with
 | zero => omega
 | succ i => rfl
theorem actN_lens [IsP p] {m : Fp p} (hm : Fld m) (t0 t1 t2 a : Fp p) (n : Nat) : ∀ j, ∀ c ∈ actN m t0 t1 t2 a n j, c.len < m.len
 | 0 => fun c h => by cases h
 | j + 1 => fun c hc => by
  have h2 := hm.two
  have := cS_mem (A := actN m t0 t1 t2 a n (j + 1)) (N := m.len - 1) (fun i => by
   show (cS (plusS 1 _ _) i).len ≤ _
   rw [cS_plus, zp_one, Pol.C_one, Gq.one_mul, cS_term]
   refine Pol.len_add_le (mem_cS (fun c hc => prodS_lens' hm.mon.2 (by omega) c hc) i) ?_
   split
   ·have := const_len (p := p) (a.c (n - 1 - j)); omega
   ·rw [Pol.len_zero]; omega) c hc
  omega
theorem actN_len [IsP p] (m t0 t1 t2 a : Fp p) (n : Nat) : ∀ j, (actN m t0 t1 t2 a n j).length ≤ 2 * j + 1
 | 0 => Nat.zero_le _
 | j + 1 => by
  have ih := actN_len m t0 t1 t2 a n j
  have h1 := plus_len 1 (prodS m (actN m t0 t1 t2 a n j) [t0, t1, t2]) (termS (Pol.C (a.c (n - 1 - j))) 0)
  have h2 := prod_len_le (m := m) (a := actN m t0 t1 t2 a n j) (b := [t0, t1, t2])
  rw [termS_length] at h1
  simp only [List.length_cons, List.length_nil] at h2
  show (plusS 1 _ _).length ≤ _
  omega
theorem actN_q [IsP p] {m t0 t1 t2 : Fp p} (hm : Fld m) (hb : ∀ c ∈ [t0, t1, t2], c.len < m.len) (a : Fp p) (n : Nat) : ∀ j, j ≤ n → qcf m (actN m t0 t1 t2 a n j) = hsum (Quo.mk m t0) (Quo.mk m t1) (Quo.mk m t2) (fun k => Quo.mk m (Pol.C (a.c (n - j + k)))) 0 j
 | 0, _ => rfl
 | j + 1, hj => by
  have ih := actN_q hm hb a n j (by omega)
  funext i
  have e : qcf m (actN m t0 t1 t2 a n (j + 1)) i = qcf m (prodS m (actN m t0 t1 t2 a n j) [t0, t1, t2]) i + Quo.mk m (if i = 0 then Pol.C (a.c (n - 1 - j)) else 0) := by
   show Quo.mk m (cS (plusS 1 _ _) i) = _
   rw [cS_plus, zp_one, Pol.C_one, Gq.one_mul, cS_term]
   rfl
  rw [e, prod_R hm hb, ih, hsum_rop]
  have e2 : ∀ k, n - (j + 1) + (k + 1) = n - j + k := fun k => by omega
  show _ = Quo.mk m (Pol.C (a.c (n - (j + 1) + 0))) * Rk _ _ _ 0 i + hsum _ _ _ (fun k => Quo.mk m (Pol.C (a.c (n - (j + 1) + (k + 1))))) (0 + 1) j i
  simp only [e2]
  rw [Gq.add_comm, show n - (j + 1) + 0 = n - 1 - j by omega]
  congr 1
  cases i with
  | zero => rw [if_pos rfl]; exact (Gq.mul_one _).symm
  | succ i => rw [if_neg (by omega)]; exact (Gq.mul_zero _).symm
noncomputable def spIn (c : Fp p) : Nat → List (Fp p) → List (Fp p) → List (Fp p)
 | _, [], Q => Q
 | i, x :: xs, Q => spIn c (i + 1) xs (addAt Q i (c * x))
theorem spIn_length (c : Fp p) : ∀ (xs : List (Fp p)) (i : Nat) (Q : List (Fp p)), (spIn c i xs Q).length = Q.length
 | [], _, _ => rfl
 | x :: xs, i, Q => by
  show (spIn c (i + 1) xs _).length = _
  rw [spIn_length c xs, addAt_length]
theorem spIn_q [IsP p] {m c : Fp p} {n : Nat} : ∀ (xs : List (Fp p)) (i : Nat) (Q : List (Fp p)), i + xs.length ≤ Q.length → qcf m (spIn c i xs Q) n = qcf m Q n + (if i ≤ n then Quo.mk m c * qcf m xs (n - i) else 0)
 | [], i, Q, _ => by
  show qcf m Q n = _
  rw [qcf_nil, Gq.mul_zero, ite_self, Gq.add_zero]
 | x :: xs, i, Q, h => by
  rw [List.length_cons] at h
  show qcf m (spIn c (i + 1) xs (addAt Q i (c * x))) n = _
  rw [spIn_q xs (i + 1) _ (by rw [addAt_length]; omega), qcf_set (by omega)]
  have hx0 : qcf m (x :: xs) 0 = Quo.mk m x := rfl
  have hxs : ∀ j, qcf m (x :: xs) (j + 1) = qcf m xs j := fun j => rfl
  rcases Nat.lt_trichotomy n i with h1 | h1 | h1
  ·rw [if_neg (by omega), if_neg (by omega), if_neg (by omega)]
   simp only [Gq.add_zero]
  ·subst h1
   rw [if_pos rfl, if_neg (by omega), if_pos (by omega), Nat.sub_self, hx0, Gq.add_zero]
   rfl
  ·rw [if_neg (by omega), if_pos (by omega), if_pos (by omega), show n - i = (n - (i + 1)) + 1 by omega, hxs, Gq.add_zero]
theorem spIn_lens [IsP p] {N : Nat} {c : Zp p} : ∀ (xs : List (Fp p)) (i : Nat) (Q : List (Fp p)), (∀ x ∈ xs, x.len ≤ N) → (∀ x ∈ Q, x.len ≤ N) → ∀ x ∈ spIn (Pol.C c) i xs Q, x.len ≤ N
 | [], _, _, _, h => h
 | x :: xs, i, Q, hx, hQ => spIn_lens xs (i + 1) _ (fun y hy => hx y (by simp [hy])) fun y hy => by
  unfold addAt at hy
  have hxl := hx x (by simp)
  have hcx : (Pol.C c * x).len ≤ N := Pol.len_le fun j hj => by rw [Pol.c_Cmul, c_ge' (by omega), Gq.mul_zero]
  rcases List.mem_or_eq_of_mem_set hy with h | rfl
  ·exact hQ y h
  ·refine Pol.len_add_le ?_ hcx
   cases hq : Q[i]? with
   | none => show (0 : Fp p).len ≤ N; rw [Pol.len_zero]; omega
   | some q => exact hQ q (List.mem_of_getElem? hq)
noncomputable def nwS [IsP p] (m t0 t1 t2 : Fp p) : Nat → List (Fp p)
 | 0 => [1]
 | k + 1 => cmpS m [t0, t1, t2] (nwS m t0 t1 t2 k)
theorem nwS_len [IsP p] {m : Fp p} (hm : m ≠ 0) (t0 t1 t2 : Fp p) : ∀ k, (nwS m t0 t1 t2 k).length ≤ 2 * k + 1
 | 0 => Nat.le_refl _
 | k + 1 => by
  have := nwS_len hm t0 t1 t2 k
  have := cmp_len hm (t0 := t0) (t1 := t1) (t2 := t2) (nwS m t0 t1 t2 k)
  show (cmpS m _ _).length ≤ _
  omega
theorem nwS_lens [IsP p] {m : Fp p} (hm : Fld m) (t0 t1 t2 : Fp p) : ∀ k, ∀ c ∈ nwS m t0 t1 t2 k, c.len < m.len
 | 0 => fun c hc => by
  rw [List.mem_singleton.1 hc]
  have h2 := hm.two
  have : (1 : Fp p).len = 1 := Pol.len_one
  omega
 | _ + 1 => cmp_lens hm.mon.2 _ _
theorem nwS_q [IsP p] {m : Fp p} (t0 t1 t2 : Fp p) : ∀ k, qcf m (nwS m t0 t1 t2 k) = Lk (Quo.mk m t0) (Quo.mk m t1) (Quo.mk m t2) k
 | 0 => funext fun i => by cases i <;> rfl
 | k + 1 => funext fun i => by
  show qcf m (cmpS m _ _) i = Lop _ _ _ (Lk _ _ _ k) i
  rw [cmp_L, nwS_q t0 t1 t2 k]
noncomputable def outS [IsP p] (m t0 t1 t2 a : Fp p) (N : Nat) : Nat → List (Fp p)
 | 0 => List.replicate N 0
 | j + 1 => spIn (Pol.C (a.c j)) 0 (nwS m t0 t1 t2 j) (outS m t0 t1 t2 a N j)
theorem outS_length [IsP p] (m t0 t1 t2 a : Fp p) (N : Nat) : ∀ j, (outS m t0 t1 t2 a N j).length = N
 | 0 => List.length_replicate
 | j + 1 => by
  show (spIn _ 0 _ _).length = N
  rw [spIn_length, outS_length]
theorem outS_lens [IsP p] {m : Fp p} (hm : Fld m) (t0 t1 t2 a : Fp p) (N : Nat) : ∀ j, ∀ c ∈ outS m t0 t1 t2 a N j, c.len < m.len
 | 0 => fun c hc => by rw [List.eq_of_mem_replicate hc, Pol.len_zero]; exact Pol.len_pos hm.mon.2
 | j + 1 => fun c hc => by
  have h1 := Pol.len_pos hm.mon.2
  have := spIn_lens (N := m.len - 1) (nwS m t0 t1 t2 j) 0 (outS m t0 t1 t2 a N j) (fun x hx => by have := nwS_lens hm t0 t1 t2 j x hx; omega) (fun x hx => by have := outS_lens hm t0 t1 t2 a N j x hx; omega) c hc
  omega
theorem outS_q [IsP p] {m : Fp p} (hm : m ≠ 0) (t0 t1 t2 a : Fp p) {N : Nat} : ∀ j, 2 * j ≤ N + 1 → ∀ i, qcf m (outS m t0 t1 t2 a N j) i = hsum (Quo.mk m t0) (Quo.mk m t1) (Quo.mk m t2) (fun k => Quo.mk m (Pol.C (a.c k))) 0 j i
 | 0, _, i => qcf_zeros m N i
 | j + 1, hj, i => by
  have hl := nwS_len hm t0 t1 t2 j
  show qcf m (spIn (Pol.C (a.c j)) 0 (nwS m t0 t1 t2 j) (outS m t0 t1 t2 a N j)) i = _
  rw [spIn_q _ 0 _ (by rw [outS_length]; omega), outS_q hm t0 t1 t2 a j (by omega), if_pos (Nat.zero_le _), nwS_q, hsum_snoc, Nat.sub_zero, Nat.zero_add, lk_rk]
theorem act_out [IsP p] {m t0 t1 t2 : Fp p} (hm : Fld m) (hb : ∀ c ∈ [t0, t1, t2], c.len < m.len) (a : Fp p) {n N : Nat} (hN : 2 * n ≤ N + 1) (i : Nat) : cS (actN m t0 t1 t2 a n n) i = cS (outS m t0 t1 t2 a N n) i := by
 have h1 := Pol.len_pos hm.mon.2
 refine qcf_eq hm.mon.2 ?_ ?_ ?_
 ·have := mem_cS (N := m.len - 1) (fun c hc => by have := actN_lens hm t0 t1 t2 a n n c hc; omega) i; omega
 ·have := mem_cS (N := m.len - 1) (fun c hc => by have := outS_lens hm t0 t1 t2 a N n c hc; omega) i; omega
 ·rw [actN_q hm hb a n n (Nat.le_refl _), outS_q hm.mon.2 t0 t1 t2 a n hN]
  exact hsum_congr _ _ _ i n _ _ 0 fun j _ => by rw [Nat.sub_self, Nat.zero_add]
noncomputable def nmS [IsP p] (m x : Fp p) : Nat → Fp p
 | 0 => 1
 | i + 1 => nmS m x i * frIt m i x % m
theorem nmS_len [IsP p] {m : Fp p} (hm : Fld m) (x : Fp p) : ∀ i, (nmS m x i).len < m.len
 | 0 => by show (1 : Fp p).len < _; rw [Pol.len_one]; have := hm.two; omega
 | _ + 1 => Pol.len_mod _ hm.mon.2
theorem nmS_ne [IsP p] {m x : Fp p} (hm : Fld m) (hx : x ≠ 0) (hxl : x.len < m.len) : ∀ i, nmS m x i ≠ 0
 | 0 => one_ne8
 | i + 1 => mul_mod_ne hm.irr (nmS_ne hm hx hxl i) (nmS_len hm x i) (frIt_ne hm i x hx hxl) (frIt_len hm.mon.2 i x hxl)
theorem nmS_fix [IsP p] {m x : Fp p} : ∀ i, pw (Quo.mk m (nmS m x i)) p.toNat * Quo.mk m x = Quo.mk m (nmS m x i) * sg i (Quo.mk m x)
 | 0 => by
  show pw (1 : Quo m) p.toNat * _ = 1 * _
  rw [pw_one]; rfl
 | i + 1 => by
  have ih := nmS_fix (m := m) (x := x) i
  have e : Quo.mk m (nmS m x (i + 1)) = Quo.mk m (nmS m x i) * sg i (Quo.mk m x) := by
   show Quo.mk m (nmS m x i * frIt m i x % m) = _
   rw [Pol.mk_mod, Quo.mk_mul, sg_mk]
  rw [e, pw_mul, ← sg_succ, ← ih]
  exact ring_of [pw (Quo.mk m (nmS m x i)) p.toNat, Quo.mk m x, sg (i + 1) (Quo.mk m x)] rfl
theorem dv_list [IsP p] {m a : Fp p} (hm : Irr m) : ∀ l : List (Fp p), Dv m (l.foldr (fun c r => (a - c) * r) 1) → ∃ c ∈ l, Dv m (a - c)
 | [], h => by
  have h0 : Dv m 1 := h
  have h1 := h0.len Pol.one_ne
  have := hm.len
  rw [Pol.len_one] at h1
  omega
 | c :: l, h => by
  rcases hm.prime (show Dv m ((a - c) * _) from h) with h1 | h1
  ·exact ⟨c, by simp, h1⟩
  ·obtain ⟨d, hd, h2⟩ := dv_list hm l h1
   exact ⟨d, by simp [hd], h2⟩
theorem ip_zero {m : Fp p} {n : Int} (h : p = n) : (ic n : Quo m) = 0 := by
 subst h
 exact ic_p
theorem fix_const [IsP p] {m a : Fp p} (hm : Fld m) (hal : a.len < m.len) (h : pw (Quo.mk m a) p.toNat = Quo.mk m a) : a.len ≤ 1 := by
 have h2 := hm.two
 have main : ∀ l : List (Fp p), (∀ c ∈ l, c.len ≤ 1) → l.foldr (fun c r => (Quo.mk m a - Quo.mk m c) * r) (1 : Quo m) = 0 → a.len ≤ 1 := by
  intro l hl hz
  have e : ∀ l : List (Fp p), Quo.mk m (l.foldr (fun c r => (a - c) * r) 1) = l.foldr (fun c r => (Quo.mk m a - Quo.mk m c) * r) (1 : Quo m) := by
   intro l
   induction l with
   | nil => rfl
   | cons c l ih =>
    show Quo.mk m ((a - c) * _) = (Quo.mk m a - Quo.mk m c) * _
    rw [Quo.mk_mul, Quo.mk_sub, ih]
  obtain ⟨c, hc, hd⟩ := dv_list (a := a) hm.irr l (dv_iff_mk.2 ((e l).trans hz))
  have hcl := hl c hc
  have hz : a - c = 0 := by
   rcases Classical.em (a - c = 0) with h0 | h0
   ·exact h0
   ·have := hd.len h0
    have : (a - c).len ≤ m.len - 1 := by
     rw [Gq.sub_eq]
     exact Pol.len_add_le (by omega) (by rw [Pol.len_neg]; omega)
    omega
  have : a = c := by
   have h3 : a = (a - c) + c := ring_of [a, c] rfl
   rw [h3, hz, Gq.zero_add]
  rw [this]; exact hcl
 have c0 : (0 : Fp p).len ≤ 1 := by rw [Pol.len_zero]; omega
 have c1 : (1 : Fp p).len ≤ 1 := by rw [Pol.len_one]; omega
 have cs : ∀ c : Fp p, c.len ≤ 1 → (c + 1).len ≤ 1 := fun c hc => Pol.len_add_le hc c1
 have k0 : ∀ c : Fp p, c = 0 → c.len ≤ 1 := fun c hc => by rw [hc]; exact c0
 rcases IsP.h (p := p) with hp | hp | hp | hp
 ·have hn : p.toNat = 2 := by omega
  rw [hn] at h
  refine main [0, 1] (by intro c hc; simp at hc; rcases hc with rfl | rfl <;> assumption) ?_
  have h' : Quo.mk m a ^ 2 = Quo.mk m a := h
  show (Quo.mk m a - 0) * ((Quo.mk m a - 1) * 1) = 0
  generalize Quo.mk m a = y at h'
  have e : (y - 0) * ((y - 1) * 1) = y ^ 2 - y := ring_of [y] rfl
  rw [e, h']
  exact ring_of [y] rfl
 ·have hn : p.toNat = 3 := by omega
  have hz := ip_zero (m := m) hp
  rw [hn] at h
  refine main [0, 1, 1 + 1] (by intro c hc; simp at hc; rcases hc with rfl | rfl | rfl <;> first | exact c0 | exact c1 | exact cs _ c1 | exact cs _ (cs _ c1) | exact cs _ (cs _ (cs _ c1)) | exact cs _ (cs _ (cs _ (cs _ c1))) | exact cs _ (cs _ (cs _ (cs _ (cs _ c1))))) ?_
  have h' : Quo.mk m a ^ 3 = Quo.mk m a := h
  show (Quo.mk m a - 0) * ((Quo.mk m a - 1) * ((Quo.mk m a - (1 + 1)) * 1)) = 0
  generalize Quo.mk m a = y at h'
  have e : (y - 0) * ((y - 1) * ((y - (1 + 1)) * 1)) = y ^ 3 - y + ic 3 * (y - y ^ 2) := ring_of [y] rfl
  rw [e, h', hz]
  exact ring_of [y] rfl
 ·have hn : p.toNat = 5 := by omega
  have hz := ip_zero (m := m) hp
  rw [hn] at h
  refine main [0, 1, 1 + 1, 1 + 1 + 1, 1 + 1 + 1 + 1] (by intro c hc; simp at hc; rcases hc with rfl | rfl | rfl | rfl | rfl <;> first | exact c0 | exact c1 | exact cs _ c1 | exact cs _ (cs _ c1) | exact cs _ (cs _ (cs _ c1)) | exact cs _ (cs _ (cs _ (cs _ c1))) | exact cs _ (cs _ (cs _ (cs _ (cs _ c1))))) ?_
  have h' : Quo.mk m a ^ 5 = Quo.mk m a := h
  show (Quo.mk m a - 0) * ((Quo.mk m a - 1) * ((Quo.mk m a - (1 + 1)) * ((Quo.mk m a - (1 + 1 + 1)) * ((Quo.mk m a - (1 + 1 + 1 + 1)) * 1)))) = 0
  generalize Quo.mk m a = y at h'
  have e : (y - 0) * ((y - 1) * ((y - (1 + 1)) * ((y - (1 + 1 + 1)) * ((y - (1 + 1 + 1 + 1)) * 1)))) = y ^ 5 - y + ic 5 * (ic 7 * y ^ 3 + ic 5 * y - ic 2 * y ^ 4 - ic 10 * y ^ 2) := ring_of [y] rfl
  rw [e, h', hz]
  exact ring_of [y] rfl
 ·have hn : p.toNat = 7 := by omega
  have hz := ip_zero (m := m) hp
  rw [hn] at h
  refine main [0, 1, 1 + 1, 1 + 1 + 1, 1 + 1 + 1 + 1, 1 + 1 + 1 + 1 + 1, 1 + 1 + 1 + 1 + 1 + 1] (by intro c hc; simp at hc; rcases hc with rfl | rfl | rfl | rfl | rfl | rfl | rfl <;> first | exact c0 | exact c1 | exact cs _ c1 | exact cs _ (cs _ c1) | exact cs _ (cs _ (cs _ c1)) | exact cs _ (cs _ (cs _ (cs _ c1))) | exact cs _ (cs _ (cs _ (cs _ (cs _ c1))))) ?_
  have h' : Quo.mk m a ^ 7 = Quo.mk m a := h
  show (Quo.mk m a - 0) * ((Quo.mk m a - 1) * ((Quo.mk m a - (1 + 1)) * ((Quo.mk m a - (1 + 1 + 1)) * ((Quo.mk m a - (1 + 1 + 1 + 1)) * ((Quo.mk m a - (1 + 1 + 1 + 1 + 1)) * ((Quo.mk m a - (1 + 1 + 1 + 1 + 1 + 1)) * 1)))))) = 0
  generalize Quo.mk m a = y at h'
  have e : (y - 0) * ((y - 1) * ((y - (1 + 1)) * ((y - (1 + 1 + 1)) * ((y - (1 + 1 + 1 + 1)) * ((y - (1 + 1 + 1 + 1 + 1)) * ((y - (1 + 1 + 1 + 1 + 1 + 1)) * 1)))))) = y ^ 7 - y + ic 7 * (ic 25 * y ^ 5 + ic 232 * y ^ 3 + ic 103 * y - ic 3 * y ^ 6 - ic 105 * y ^ 4 - ic 252 * y ^ 2) := ring_of [y] rfl
  rw [e, h', hz]
  exact ring_of [y] rfl
theorem norm_const [IsP p] {m x : Fp p} (hm : Fld m) (hx : x ≠ 0) (hxl : x.len < m.len) : (nmS m x (m.len - 1)).len = 1 ∧ (nmS m x (m.len - 1)).c 0 ≠ 0 := by
 have h2 := hm.two
 have h0 := hm.mon.2
 have hN := nmS_len hm x (m.len - 1)
 have hn0 := nmS_ne hm hx hxl (m.len - 1)
 have e := nmS_fix (m := m) (x := x) (m.len - 1)
 have e1 : sg (m.len - 1) (Quo.mk m x) = Quo.mk m x := by
  rw [← sg_mk, ← frIt_mod hm _ hxl, Nat.mod_self]; rfl
 rw [e1] at e
 have hi := invm_ok hm hx hxl
 have e2 : pw (Quo.mk m (nmS m x (m.len - 1))) p.toNat = Quo.mk m (nmS m x (m.len - 1)) := by
  have h3 : ∀ a b c d : Quo m, d * c = 1 → a * c = b * c → a = b := fun a b c d h1 h2 => by
   have : a * c * d = b * c * d := by rw [h2]
   rw [Gq.mul_assoc, Gq.mul_assoc, Gq.mul_comm c d, h1, Gq.mul_one, Gq.mul_one] at this
   exact this
  exact h3 _ _ _ _ hi e
 have hl := fix_const hm hN e2
 have hp := Pol.len_pos hn0
 refine ⟨by omega, ?_⟩
 intro hc
 apply hn0
 refine Pol.ext fun i => ?_
 cases i with
 | zero => exact hc
 | succ i => exact c_ge' (by omega)
end
end Pe

namespace Pe
open Go Gq
variable {T : Nat → Option Fn} {A : Oracle}
theorem trim_const {p : Int} [IsP p] (c : Zp p) : trim [rep c] = row (Pol.C c) := by
 apply trim_row
 intro i
 cases i with
 | zero => rfl
 | succ i =>
  rw [cf_ge (by simp)]
  show (0 : Int) = rep ((Pol.C c).c (i + 1))
  rw [c_ge' (by have := const_len (p := p) c; omega), rep_zero]
theorem l_act {O : Oracle} (hby : K_by2 O) (htr : C_trimmed O) (hsi : K_single O) (hpl : K_plus O) {p : Int} [IsP p] {m t0 t1 t2 a : Fp p} (hm : Fld m) (hb : ∀ c ∈ [t0, t1, t2], c.len < m.len) (ha : a.len ≤ 64) : ∀ (r j : Nat), j + r = a.len →
 dn O 0 (.loop Z8_L0) ⟨[(1, (.d (.sl .leaf (ints .i64 (row a))))), (5, .ptr 1 []), (6, .d (skD [t0, t1, t2])), (7, .d (skD (actN m t0 t1 t2 a a.len j))), (8, (.d (.int .i64 ((a.len : Int) - 1 - j))))], [.hole, .box false (fldD m), .hole]⟩ =
  some (.exit 0, ⟨[(1, (.d (.sl .leaf (ints .i64 (row a))))), (5, .ptr 1 []), (6, .d (skD [t0, t1, t2])), (7, .d (skD (actN m t0 t1 t2 a a.len a.len))), (8, (.d (.int .i64 (-1)))), (17, (.d (.bool false)))], [.hole, .box false (fldD m), .hole]⟩)
 | 0, j, hj => by
  obtain rfl : j = a.len := by omega
  rw [show (a.len : Int) - 1 - (a.len : Nat) = -1 by omega]
  refine dn_stop ?_
  generalize skD (actN m t0 t1 t2 a a.len a.len) = AD at *
  generalize skD [t0, t1, t2] = TD at *
  generalize row a = Ra at *
  simp -implicitDefEqProofs [Z8_L0, dn_cond]
 | r + 1, j, hj => by
  have h5 := hm.five
  have h2 := hm.two
  obtain ⟨i, hi⟩ : ∃ i : Nat, a.len - 1 - j = i := ⟨_, rfl⟩
  have hic : (a.len : Int) - 1 - j = (i : Nat) := by omega
  have hlt2 : i < (row a).length := by rw [row_length]; omega
  have hx : (row a)[i]? = some (rep (a.c i)) := by rw [List.getElem?_eq_getElem hlt2, ← cf_lt hlt2, row_cf]
  have g1 := actN_lens hm t0 t1 t2 a a.len j
  have g2 := actN_len m t0 t1 t2 a a.len j
  have p1 := prod_len_le (m := m) (a := actN m t0 t1 t2 a a.len j) (b := [t0, t1, t2])
  simp only [List.length_cons, List.length_nil] at p1
  have hcl := const_len (p := p) (a.c i)
  have e1 := hby p m (actN m t0 t1 t2 a a.len j) [t0, t1, t2] h2 (by omega) (fun c hc => by have := g1 c hc; omega) (fun c hc => by have := hb c hc; omega) (by omega) (by simp)
  have e2 := htr [rep (a.c i)] (by simp)
  rw [trim_const, show ints .i64 [rep (a.c i)] = [.int .i64 (rep (a.c i))] from rfl] at e2
  have e3 := hsi p (Pol.C (a.c i)) 0 (by omega)
  rw [show ((0 : Nat) : Int) = 0 from rfl] at e3
  have e4 := hpl p m (prodS m (actN m t0 t1 t2 a a.len j) [t0, t1, t2]) (termS (Pol.C (a.c i)) 0) 1 (by omega) (by omega) (by omega) (by rw [termS_length]; omega) (fun c hc => by have := prodS_lens' (N := m.len - 1) hm.mon.2 (by omega) c hc; omega) (fun c hc => by
   unfold termS at hc
   rw [List.replicate_zero, List.nil_append] at hc
   rw [List.mem_singleton.1 hc]; omega)
  have hact : plusS 1 (prodS m (actN m t0 t1 t2 a a.len j) [t0, t1, t2]) (termS (Pol.C (a.c i)) 0) = actN m t0 t1 t2 a a.len (j + 1) := by
   show _ = plusS 1 _ (termS (Pol.C (a.c (a.len - 1 - j))) 0)
   rw [hi]
  rw [hact] at e4
  have w4 : IntKind.i64.wrap ((i : Int) - 1) = (a.len : Int) - 1 - ((j + 1 : Nat) : Int) := (w64 (by omega)).trans (by omega)
  refine dn_round ?_ (l_act hby htr hsi hpl hm hb ha r (j + 1) (by omega))
  rw [hic]
  have hfd : fldD m = .st [.leaf, .leaf] [(D.int .i64 p), (D.sl .leaf (ints .i64 (row m)))] := rfl
  rw [show skD (actN m t0 t1 t2 a a.len (j + 1)) = .sl .leaf ((actN m t0 t1 t2 a a.len (j + 1)).map rowD) from rfl] at e4 ⊢
  rw [show skD (prodS m (actN m t0 t1 t2 a a.len j) [t0, t1, t2]) = .sl .leaf ((prodS m (actN m t0 t1 t2 a a.len j) [t0, t1, t2]).map rowD) from rfl] at e1 e4
  rw [show skD (termS (Pol.C (a.c i)) 0) = .sl .leaf ((termS (Pol.C (a.c i)) 0).map rowD) from rfl] at e3 e4
  rw [show skD (actN m t0 t1 t2 a a.len j) = .sl .leaf ((actN m t0 t1 t2 a a.len j).map rowD) from rfl, show skD [t0, t1, t2] = .sl .leaf ([t0, t1, t2].map rowD) from rfl, hfd] at e1 ⊢
  rw [hfd] at e4
  generalize (a.len : Int) - 1 - ((j + 1 : Nat) : Int) = k1 at *
  generalize (actN m t0 t1 t2 a a.len (j + 1)).map rowD = D1 at *
  generalize (prodS m (actN m t0 t1 t2 a a.len j) [t0, t1, t2]).map rowD = D2 at *
  generalize (termS (Pol.C (a.c i)) 0).map rowD = D3 at *
  generalize (actN m t0 t1 t2 a a.len j).map rowD = D4 at *
  generalize [t0, t1, t2].map rowD = TD at *
  generalize row (Pol.C (a.c i)) = R1 at *
  generalize row m = Rm at *
  simp -implicitDefEqProofs [Z8_L0, dn_cond, hx, e1, e2, e3, e4, w4]
def K_action (O : Oracle) : Prop := ∀ (p : Int) [IsP p] (m g d a : Fp p), Fld m → g.len < m.len → d.len < m.len → a.len ≤ 64 → ask O F8 [drD p (pad (row m)) (pad (row g)) (pad (row d)), (D.sl .leaf (ints .i64 (row a)))] = some (skD (actN m (Pol.X % m) g d a a.len a.len))
theorem mem3 {p : Int} {t0 t1 t2 : Fp p} {n : Nat} (h0 : t0.len < n) (h1 : t1.len < n) (h2 : t2.len < n) : ∀ c ∈ [t0, t1, t2], c.len < n := fun c hc => by
 simp at hc
 rcases hc with rfl | rfl | rfl <;> assumption
theorem k_action (hT : T F8 = some Z8) (hfi : K_drField (den T A)) (hla : K_letterAction (den T A)) (hby : K_by2 (den T A)) (htr : C_trimmed (den T A)) (hsi : K_single (den T A)) (hpl : K_plus (den T A)) : K_action (den T A) := by
 intro p ip m g d a hm hg hd ha
 have h5 := hm.five
 have h0 := hm.mon.2
 have e1 := hfi p m (pad (row g)) (pad (row d)) (by omega)
 have e2 := hla p m g d h0 (by omega) (by omega) (by omega)
 have e3 := l_act (O := den T A) (t0 := Pol.X % m) (t1 := g) (t2 := d) (a := a) hby htr hsi hpl hm (mem3 (Pol.len_mod _ h0) hg hd) ha a.len 0 (by omega)
 rw [show actN m (Pol.X % m) g d a a.len 0 = [] from rfl, show ((0 : Nat) : Int) = 0 from rfl, Int.sub_zero] at e3
 have hl : (row a).length = a.len := row_length a
 have w1 : IntKind.i64.wrap ((a.len : Int) - 1) = (a.len : Int) - 1 := w64 (by omega)
 have hfd : fldD m = .st [.leaf, .leaf] [(D.int .i64 p), (D.sl .leaf (ints .i64 (row m)))] := rfl
 rw [show skD (actN m (Pol.X % m) g d a a.len a.len) = .sl .leaf ((actN m (Pol.X % m) g d a a.len a.len).map rowD) from rfl] at e3 ⊢
 rw [show skD [Pol.X % m, g, d] = .sl .leaf ([Pol.X % m, g, d].map rowD) from rfl] at e2 e3
 rw [show skD ([] : List (Fp p)) = .sl .leaf [] from rfl, hfd] at e3
 rw [hfd] at e1
 refine ask_of hT rfl ?_
 generalize (actN m (Pol.X % m) g d a a.len a.len).map rowD = D1 at *
 generalize [Pol.X % m, g, d].map rowD = TD at *
 generalize row a = Ra at *
 generalize pad (row m) = Pm at *
 generalize pad (row g) = Pg at *
 generalize pad (row d) = Pd at *
 generalize row m = Rm at *
 simp -implicitDefEqProofs [Z8, Z8_B, e1, e2, e3, hl, w1]
theorem l_normOf3 {O : Oracle} (hfr : K_frob O) (hpr : K_product O) {p : Int} [IsP p] {m x : Fp p} (hm : Fld m) (hx : x.len < m.len) : ∀ (r i : Nat), i + r = m.len - 1 →
 dn O 0 (.loop Zr_L0) ⟨[(1, (.d (.sl .leaf (ints .i64 (row (frIt m i x)))))), (2, .ptr 0 []), (5, (.d (.sl .leaf (ints .i64 (row (nmS m x i)))))), (9, (.d (.int .i64 (((m.len - 1 : Nat) : Int))))), (10, (.d (.int .i64 i)))], [.box false (fldD m), .hole]⟩ =
  some (.exit 0, ⟨[(1, (.d (.sl .leaf (ints .i64 (row (frIt m (m.len - 1) x)))))), (2, .ptr 0 []), (5, (.d (.sl .leaf (ints .i64 (row (nmS m x (m.len - 1))))))), (9, (.d (.int .i64 (((m.len - 1 : Nat) : Int))))), (10, (.d (.int .i64 (((m.len - 1 : Nat) : Int))))), (11, (.d (.bool false)))], [.box false (fldD m), .hole]⟩)
 | 0, i, hi => by
  obtain rfl : i = m.len - 1 := by omega
  refine dn_stop ?_
  generalize row (frIt m (m.len - 1) x) = R1 at *
  generalize row (nmS m x (m.len - 1)) = R2 at *
  generalize m.len - 1 = n at *
  simp -implicitDefEqProofs [Zr_L0, dn_cond]
 | r + 1, i, hi => by
  have h5 := hm.five
  have h2 := hm.two
  have h0 := hm.mon.2
  have f1 := frIt_len h0 i x hx
  have n1 := nmS_len hm x i
  have e1 := hpr p m (nmS m x i) (frIt m i x) h0 (by omega) (by omega) (by omega)
  rw [show nmS m x i * frIt m i x % m = nmS m x (i + 1) from rfl] at e1
  have e2 := hfr p m (frIt m i x) 1 h2 (by omega) (by omega) (by omega)
  rw [frIt_mod hm 1 f1, ← frIt_add, Nat.add_comm 1 i, show ((1 : Nat) : Int) = 1 from rfl] at e2
  have hlt : i < m.len - 1 := by omega
  have hlt' : (i : Int) < ((m.len - 1 : Nat) : Int) := by omega
  have w4 : IntKind.i64.wrap ((i : Int) + 1) = ((i + 1 : Nat) : Int) := (w64 (x := (i : Int) + 1) (by omega)).trans (by omega)
  refine dn_round ?_ (l_normOf3 hfr hpr hm hx r (i + 1) (by omega))
  generalize row (frIt m (i + 1) x) = R1 at *
  generalize row (frIt m i x) = R2 at *
  generalize row (nmS m x (i + 1)) = R3 at *
  generalize row (nmS m x i) = R4 at *
  generalize m.len - 1 = n at *
  simp -implicitDefEqProofs [Zr_L0, dn_cond, hlt', e1, e2, w4]
def K_normOf (O : Oracle) : Prop := ∀ (p : Int) [IsP p] (m x : Fp p), Fld m → x.len < m.len → ask O Fr [fldD m, (D.sl .leaf (ints .i64 (row x)))] = some (D.int .i64 (rep ((nmS m x (m.len - 1)).c 0)))
theorem k_normOf (hT : T Fr = some Zr) (hdg : C_degree (den T A)) (hat : C_at (den T A)) (hfr : K_frob (den T A)) (hpr : K_product (den T A)) : K_normOf (den T A) := by
 intro p ip m x hm hx
 have h5 := hm.five
 have h2 := hm.two
 have h0 := hm.mon.2
 have e1 := hdg (row m) (by rw [row_length]; omega)
 rw [row_length, show (m.len : Int) - 1 = ((m.len - 1 : Nat) : Int) by omega] at e1
 have e2 := hpr p m 1 x h0 (by omega) (by rw [Pol.len_one]; omega) (by omega)
 rw [row_one, show ints .i64 [1] = [.int .i64 1] from rfl, show (1 : Fp p) * x % m = nmS m x 1 from rfl] at e2
 have e3 := hfr p m x 1 h2 (by omega) (by omega) (by omega)
 rw [frIt_mod hm 1 hx, show ((1 : Nat) : Int) = 1 from rfl] at e3
 have e4 := l_normOf3 (O := den T A) hfr hpr hm hx (m.len - 2) 1 (by omega)
 rw [show ((1 : Nat) : Int) = 1 from rfl] at e4
 have e5 := hat (row (nmS m x (m.len - 1))) 0 (by omega)
 rw [row_cf, show ((0 : Nat) : Int) = 0 from rfl] at e5
 have hlt : (0 : Int) < ((m.len - 1 : Nat) : Int) := by omega
 have hlt' : 0 < m.len - 1 := by omega
 have hfd : fldD m = .st [.leaf, .leaf] [(D.int .i64 p), (D.sl .leaf (ints .i64 (row m)))] := rfl
 rw [hfd] at e2 e3 e4 ⊢
 have e6 : dn (den T A) 0 (.loop Zr_L0) ⟨[(1, (.d (.sl .leaf (ints .i64 (row x))))), (2, .ptr 0 []), (5, .sl 1 [] 0 1 (some 1)), (9, (.d (.int .i64 (((m.len - 1 : Nat) : Int))))), (10, (.d (.int .i64 0)))], [.box false (.st [.leaf, .leaf] [(D.int .i64 p), (D.sl .leaf (ints .i64 (row m)))]), .sl false .leaf [.int .i64 1]]⟩ =
  some (.exit 0, ⟨[(1, (.d (.sl .leaf (ints .i64 (row (frIt m (m.len - 1) x)))))), (2, .ptr 0 []), (5, (.d (.sl .leaf (ints .i64 (row (nmS m x (m.len - 1))))))), (9, (.d (.int .i64 (((m.len - 1 : Nat) : Int))))), (10, (.d (.int .i64 (((m.len - 1 : Nat) : Int))))), (11, (.d (.bool false)))], [.box false (.st [.leaf, .leaf] [(D.int .i64 p), (D.sl .leaf (ints .i64 (row m)))]), .hole]⟩) := by
  refine dn_round ?_ e4
  generalize row (frIt m 1 x) = R1 at *
  generalize row (nmS m x 1) = R2 at *
  generalize row x = Rx at *
  generalize row m = Rm at *
  generalize m.len - 1 = n at *
  have w0 : IntKind.i64.wrap 1 = 1 := w64 (by omega)
  simp -implicitDefEqProofs [Zr_L0, dn_cond, hlt', e2, e3, w0]
 refine ask_of hT rfl ?_
 generalize rep ((nmS m x (m.len - 1)).c 0) = v at *
 generalize row (frIt m (m.len - 1) x) = R1 at *
 generalize row (nmS m x (m.len - 1)) = R2 at *
 generalize row x = Rx at *
 generalize row m = Rm at *
 generalize m.len - 1 = n at *
 simp -implicitDefEqProofs [Zr, Zr_B, e1, e6, e5]
section
variable {p : Int}
noncomputable def frK [IsP p] (m d : Fp p) : Int := if (m.len - 1) % 2 = 1 then -inv p (rep ((nmS m d (m.len - 1)).c 0)) else inv p (rep ((nmS m d (m.len - 1)).c 0))
noncomputable def frB [IsP p] (m d : Fp p) : Fp p := Pol.C (zp p (frK m d)) * m
noncomputable def frA [IsP p] (m g d : Fp p) : Fp p := cS (actN m (Pol.X % m) g d (frB m d) (frB m d).len (frB m d).len) (m.len - 1)
theorem frK_in [IsP p] {m d : Fp p} : -1000 ≤ frK m d ∧ frK m d ≤ 1000 := by
 have hp : 2 ≤ p := by rcases IsP.h (p := p) with h | h | h | h <;> omega
 have h7 := IsP.le (p := p)
 have := ipow_in (p := p) (n := rep ((nmS m d (m.len - 1)).c 0)) (by omega) (p - 2).toNat
 unfold frK inv
 split <;> omega
theorem frB_len [IsP p] {m d : Fp p} : (frB m d).len ≤ m.len := Pol.len_le fun j hj => by
 unfold frB
 rw [Pol.c_Cmul, c_ge' (by omega), Gq.mul_zero]
end
def K_drFrob (O : Oracle) : Prop := ∀ (p : Int) [IsP p] (m g d : Fp p), Fld m → g.len < m.len → d.len < m.len → ask O Fa [drD p (pad (row m)) (pad (row g)) (pad (row d))] = some (.tup [(D.sl .leaf (ints .i64 (row (frA m g d)))), (D.sl .leaf (ints .i64 (row (frB m d))))])
theorem k_drFrob (hT : T Fa = some Za) (hfi : K_drField (den T A)) (hro : K_rowOf (den T A)) (hno : K_normOf (den T A)) (hin : C_inverse (den T A)) (hdg : C_degree (den T A)) (hsc : K_scale (den T A)) (hac : K_action (den T A)) (hat : K_skAt (den T A)) : K_drFrob (den T A) := by
 intro p ip m g d hm hg hd
 have h5 := hm.five
 have h2 := hm.two
 have h0 := hm.mon.2
 have hp : 2 ≤ p := by rcases IsP.h (p := p) with h | h | h | h <;> omega
 have h7 := IsP.le (p := p)
 have hr := rep_in ((nmS m d (m.len - 1)).c 0)
 have hbl := frB_len (m := m) (d := d)
 obtain ⟨k1, k2⟩ := frK_in (m := m) (d := d)
 have hiv := ipow_in (p := p) (n := rep ((nmS m d (m.len - 1)).c 0)) (by omega) (p - 2).toNat
 have e1 := hfi p m (pad (row g)) (pad (row d)) (by omega)
 have e2 := hro p d (by omega)
 have e3 := hno p m d hm hd
 have e4 := hin p (rep ((nmS m d (m.len - 1)).c 0)) (by omega) (by omega) hr.1 hr.2
 have e5 := hdg (row m) (by rw [row_length]; omega)
 rw [row_length, show (m.len : Int) - 1 = ((m.len - 1 : Nat) : Int) by omega] at e5
 have e6 := hsc p (frK m d) m (by omega) (by omega) (by omega)
 rw [show Pol.C (zp p (frK m d)) * m = frB m d from rfl] at e6
 have e7 := hac p m g d (frB m d) hm hg hd (by omega)
 have e8 := hat p (actN m (Pol.X % m) g d (frB m d) (frB m d).len (frB m d).len) (m.len - 1)
 rw [show cS (actN m (Pol.X % m) g d (frB m d) (frB m d).len (frB m d).len) (m.len - 1) = frA m g d from rfl] at e8
 have hfd : fldD m = .st [.leaf, .leaf] [(D.int .i64 p), (D.sl .leaf (ints .i64 (row m)))] := rfl
 rw [hfd] at e1 e3
 rw [show skD (actN m (Pol.X % m) g d (frB m d) (frB m d).len (frB m d).len) = .sl .leaf ((actN m (Pol.X % m) g d (frB m d) (frB m d).len (frB m d).len).map rowD) from rfl] at e7 e8
 have hrem : Int.tmod ((m.len - 1 : Nat) : Int) 2 = (((m.len - 1) % 2 : Nat) : Int) := rfl
 unfold frK at e6 k1 k2
 unfold inv at e4 e6 k1 k2
 refine ask_of hT rfl ?_
 generalize (actN m (Pol.X % m) g d (frB m d) (frB m d).len (frB m d).len).map rowD = D1 at *
 generalize row (frA m g d) = R1 at *
 generalize row (frB m d) = R2 at *
 generalize ipow p (rep ((nmS m d (m.len - 1)).c 0)) (p - 2).toNat = iv at *
 generalize rep ((nmS m d (m.len - 1)).c 0) = nv at *
 generalize row d = Rd at *
 generalize pad (row m) = Pm at *
 generalize pad (row g) = Pg at *
 generalize pad (row d) = Pd at *
 generalize row m = Rm at *
 generalize m.len - 1 = n at *
 have w1 : IntKind.i64.wrap (-iv) = -iv := w64 (by omega)
 by_cases hodd : n % 2 = 1
 ·rw [if_pos hodd] at e6
  rw [hodd] at hrem
  simp -implicitDefEqProofs [Za, Za_B, dn_cond, e1, e2, e3, e4, e5, e6, e7, e8, hrem, w1]
 ·rw [if_neg hodd] at e6
  rw [show n % 2 = 0 by omega] at hrem
  simp -implicitDefEqProofs [Za, Za_B, dn_cond, e1, e2, e3, e4, e5, e6, e7, e8, hrem]
end Pe

namespace Pe
open Go Gq
variable {T : Nat → Option Fn} {A : Oracle}
noncomputable abbrev aD {p : Int} (L : List (Fp p)) : D := .sl (.arr 64 .leaf) ((skP L).map arr8)
theorem skA_get {p : Int} {L : List (Fp p)} {i : Nat} (h : i < L.length) : ((skP L).map arr8)[i]? = some (D.arr 64 .leaf (ints .u8 (pad (row L[i])))) := by
 unfold skP
 rw [List.getElem?_map, List.getElem?_map, List.getElem?_eq_getElem h]
 rfl
theorem skA_getE {p : Int} {L : List (Fp p)} {i : Nat} (h : i < L.length) : ∀ h' : i < ((skP L).map arr8).length, ((skP L).map arr8)[i]'h' = (D.arr 64 .leaf (ints .u8 (pad (row L[i])))) := fun h' => by
 have := skA_get h
 rw [List.getElem?_eq_getElem h'] at this
 exact Option.some.inj this
theorem skA_len {p : Int} (L : List (Fp p)) : ((skP L).map arr8).length = L.length := by unfold skP; rw [List.length_map, List.length_map]
theorem skA_take {p : Int} (L : List (Fp p)) (n : Nat) : ((skP L).map arr8).take n = (skP (L.take n)).map arr8 := by unfold skP; rw [← List.map_take, ← List.map_take]
theorem skA_set {p : Int} (L : List (Fp p)) (n : Nat) (c : Fp p) : (skP (L.set n c)).map arr8 = ((skP L).map arr8).set n (D.arr 64 .leaf (ints .u8 (pad (row c)))) := by unfold skP; rw [List.map_set, List.map_set]
theorem l_sTrim4 {O : Oracle} {p : Int} [IsP p] {L : List (Fp p)} (hl : ∀ c ∈ L, c.len ≤ 64) (hL : L.length ≤ 1000000) : ∀ n, n ≤ L.length →
 dn O 0 (.loop Z38_L0) ⟨[(0, .d (aD (L.take n)))], []⟩ = some (.exit 0, ⟨[(0, .d (aD (L.take (stl L n)))), (15, (.d (.bool false)))], []⟩)
 | 0, _ => by
  refine dn_stop ?_
  rw [List.take_zero, show aD ([] : List (Fp p)) = .sl (.arr 64 .leaf) [] from rfl, show stl L 0 = 0 from rfl, List.take_zero, show aD ([] : List (Fp p)) = .sl (.arr 64 .leaf) [] from rfl]
  simp -implicitDefEqProofs [Z38_L0, dn_cond]
 | n + 1, hn => by
  have hlt : n < L.length := by omega
  have hc := hl _ (List.getElem_mem hlt)
  have hg := skA_get (L := L.take (n + 1)) (i := n) (by rw [List.length_take]; omega)
  rw [List.getElem_take] at hg
  have hlen : ((skP (L.take (n + 1))).map arr8).length = n + 1 := by rw [skA_len, List.length_take]; omega
  have w1 : IntKind.i64.wrap (n : Int) = (n : Int) := w64 (by omega)
  have hpos : (0 : Int) < (n : Int) + 1 := by omega
  have hgE := skA_getE (L := L.take (n + 1)) (i := n) (by rw [List.length_take]; omega)
  rw [List.getElem_take] at hgE
  have heq := beq_P (l := pad (row L[n])) (m := pad []) (pad_length _) (pad_length _)
  by_cases h0 : L[n] = 0
  ·have hst : stl L (n + 1) = stl L n := by
    conv => lhs; unfold stl
    rw [if_pos (by rw [List.getElem?_eq_getElem hlt, h0])]
   rw [hst]
   have ih := l_sTrim4 (O := O) hl hL n (by omega)
   rw [h0, row_zero, decide_eq_true rfl] at heq
   rw [h0, row_zero] at hg hgE
   have htk : ((skP (L.take (n + 1))).map arr8).take n = (skP (L.take n)).map arr8 := by
    rw [skA_take, List.take_take, Nat.min_eq_left (by omega)]
   refine dn_round ?_ ih
   show _ = some (_, (⟨[(0, .d (.sl (.arr 64 .leaf) ((skP (L.take n)).map arr8)))], _⟩ : St))
   show dn O 0 _ ⟨[(0, .d (.sl (.arr 64 .leaf) ((skP (L.take (n + 1))).map arr8)))], _⟩ = _
   generalize (skP (L.take n)).map arr8 = L1 at *
   generalize (skP (L.take (n + 1))).map arr8 = L2 at *
   simp -implicitDefEqProofs [Z38_L0, dn_cond, hgE, hlen, w1, hpos, heq, htk]
  ·have hst : stl L (n + 1) = n + 1 := by
    conv => lhs; unfold stl
    rw [if_neg (by rw [List.getElem?_eq_getElem hlt]; exact fun h => h0 (Option.some.inj h))]
   rw [hst]
   have hne : ¬ pad (row L[n]) = pad [] := fun h => h0 ((pad_row_inj hc (by rw [Pol.len_zero]; omega)).1 (by rw [h, row_zero]))
   rw [decide_eq_false hne] at heq
   have key : ∀ (L2 : List D) (P1 : List Int), L2.length = n + 1 → (∀ h' : n < L2.length, L2[n]'h' = (D.arr 64 .leaf (ints .u8 P1))) → D.beq (.arr 64 .leaf .int) (D.arr 64 .leaf (ints .u8 P1)) (D.arr 64 .leaf (ints .u8 (pad []))) = some false →
    dn O 0 Z38_L0 ⟨[(0, .d (.sl (.arr 64 .leaf) L2))], []⟩ = some (.exit 0, ⟨[(0, .d (.sl (.arr 64 .leaf) L2)), (15, (.d (.bool false)))], []⟩) := by
    intro L2 P1 f1 f2 f3
    simp -implicitDefEqProofs [Z38_L0, dn_cond, f1, f2, w1, hpos, f3]
   exact dn_stop (key _ _ hlen hgE heq)
def K_sTrim4 (O : Oracle) : Prop := ∀ (p : Int) [IsP p] (L : List (Fp p)), (∀ c ∈ L, c.len ≤ 64) → L.length ≤ 1000000 → ask O F38 [aD L] = some (aD (trimS L))
theorem k_sTrim4 (hT : T F38 = some Z38) : K_sTrim4 (den T A) := by
 intro p ip L hl hL
 have e1 := l_sTrim4 (O := den T A) hl hL L.length (Nat.le_refl _)
 rw [List.take_length, show L.take (stl L L.length) = trimS L from rfl] at e1
 rw [show aD L = .sl (.arr 64 .leaf) ((skP L).map arr8) from rfl, show aD (trimS L) = .sl (.arr 64 .leaf) ((skP (trimS L)).map arr8) from rfl] at e1 ⊢
 refine ask_of hT rfl ?_
 generalize (skP (trimS L)).map arr8 = L1 at *
 generalize (skP L).map arr8 = L2 at *
 simp -implicitDefEqProofs [Z38, Z38_B, e1]
theorem l_cmpIn {O : Oracle} (hti : K_sTimes6 O) (had : K_sAdd O) (hup : K_sUp6 O) {p : Int} [IsP p] {m : Fp p} {v1 v2 : List Int} (hm : m ≠ 0) (hml : m.len ≤ 64) {us : List (Fp p)} (hus : ∀ c ∈ us, c.len ≤ 64) {VD : D} {N k : Nat} (hN : N ≤ 1000) (hk : us.length + k ≤ N) : ∀ (r i : Nat) (w : Fp p) (Q : List (Fp p)), i + r = us.length → Q.length = N → (∀ c ∈ Q, c.len ≤ 64) → w.len ≤ 64 → ∃ w' : List Int,
 dn O 0 (.loop Z3b_L0) ⟨[(1, .d (aD us)), (2, .d VD), (3, .ptr 0 []), (7, .sl 1 [] 0 N (some N)), (8, (.d (.int .i64 k))), (9, .ptr 2 []), (10, (.d (.int .i64 i)))], [.box false (drD p (pad (row m)) v1 v2), .sl false (.arr 64 .leaf) ((skP Q).map arr8), .box false (D.arr 64 .leaf (ints .u8 (pad (row w))))]⟩ =
  some (.exit 2, ⟨[(1, .d (aD us)), (2, .d VD), (3, .ptr 0 []), (7, .sl 1 [] 0 N (some N)), (8, (.d (.int .i64 k))), (9, .ptr 2 []), (10, (.d (.int .i64 us.length))), (30, (.d (.bool false)))], [.box false (drD p (pad (row m)) v1 v2), .sl false (.arr 64 .leaf) ((skP (cmpIn m k i (us.drop i) w Q)).map arr8), .box false (D.arr 64 .leaf (ints .u8 w'))]⟩)
 | 0, i, w, Q, hi, hq, hQ, hw => by
  obtain rfl : i = us.length := by omega
  rw [List.drop_length]
  refine ⟨pad (row w), dn_stop ?_⟩
  have hUL := skA_len us
  show dn O 0 _ ⟨[(1, .d (.sl (.arr 64 .leaf) ((skP us).map arr8))), _, _, _, _, _, _], _⟩ = some (_, (⟨[(1, .d (.sl (.arr 64 .leaf) ((skP us).map arr8))), _, _, _, _, _, _, _], [_, .sl false (.arr 64 .leaf) ((skP Q).map arr8), _]⟩ : St))
  generalize (skP us).map arr8 = UD at *
  generalize (skP Q).map arr8 = QD at *
  generalize pad (row w) = Pw at *
  simp -implicitDefEqProofs [Z3b_L0, dn_cond, hUL]
 | r + 1, i, w, Q, hi, hq, hQ, hw => by
  have hlt : i < us.length := by omega
  have hik : i + k < N := by omega
  have hikQ : i + k < Q.length := by omega
  have hu1 := hus _ (List.getElem_mem hlt)
  have hq1 := hQ _ (List.getElem_mem hikQ)
  have hUL := skA_len us
  have hQL : ((skP Q).map arr8).length = N := (skA_len Q).trans hq
  have g1 := skA_get hlt
  have g2 := skA_get hikQ
  have g1E := skA_getE hlt
  have g2E := skA_getE hikQ
  have e1 := hti p m us[i] w v1 v2 hm hml hu1 hw
  have l1 := Pol.len_mod (us[i] * w) hm
  have e2 := had p 1 Q[i + k] (us[i] * w % m) (by omega) (by omega) hq1 (by omega)
  rw [zp_one, Pol.C_one, Gq.one_mul] at e2
  have e3 := hup p m w v1 v2 1 hm hml hw (by omega)
  rw [show frIt m 1 w = pw w p.toNat % m from rfl, show ((1 : Nat) : Int) = 1 from rfl] at e3
  have l2 := Pol.len_mod (pw w p.toNat) hm
  have hadd : addAt Q (i + k) (us[i] * w % m) = Q.set (i + k) (Q[i + k] + us[i] * w % m) := by
   unfold addAt; rw [List.getElem?_eq_getElem hikQ]; rfl
  have hQ' : ∀ c ∈ addAt Q (i + k) (us[i] * w % m), c.len ≤ 64 := addAt_lens hQ (by omega)
  have w0 : IntKind.i64.wrap ((i : Int) + k) = ((i + k : Nat) : Int) := (w64 (x := (i : Int) + k) (by omega)).trans (by omega)
  have hs0 : (0 : Int) ≤ (i : Int) + k := by omega
  have hs1 : ((i : Int) + k).toNat = i + k := by omega
  have w4 : IntKind.i64.wrap ((i : Int) + 1) = ((i + 1 : Nat) : Int) := (w64 (x := (i : Int) + 1) (by omega)).trans (by omega)
  have hlt' : (i : Int) < us.length := by omega
  obtain ⟨w', ih⟩ := l_cmpIn hti had hup hm hml hus (VD := VD) hN hk (v1 := v1) (v2 := v2) r (i + 1) (pw w p.toNat % m) (addAt Q (i + k) (us[i] * w % m)) (by omega) (by rw [addAt_length]; exact hq) hQ' (by omega)
  have hby : cmpIn m k i (us.drop i) w Q = cmpIn m k (i + 1) (us.drop (i + 1)) (pw w p.toNat % m) (addAt Q (i + k) (us[i] * w % m)) := by
   rw [List.drop_eq_getElem_cons hlt]; rfl
  rw [hby]
  refine ⟨w', dn_round ?_ ih⟩
  rw [hadd, skA_set]
  show dn O 0 _ ⟨[(1, .d (.sl (.arr 64 .leaf) ((skP us).map arr8))), _, _, _, _, _, _], _⟩ = some (_, (⟨[(1, .d (.sl (.arr 64 .leaf) ((skP us).map arr8))), _, _, _, _, _, _], _⟩ : St))
  generalize pad (row (Q[i + k] + us[i] * w % m)) = P1 at *
  generalize pad (row (us[i] * w % m)) = P2 at *
  generalize pad (row us[i]) = P3 at *
  generalize pad (row Q[i + k]) = P4 at *
  generalize pad (row (pw w p.toNat % m)) = P5 at *
  generalize pad (row w) = Pw at *
  generalize (skP us).map arr8 = UD at *
  generalize (skP Q).map arr8 = QD at *
  generalize pad (row m) = Pm at *
  simp -implicitDefEqProofs [Z3b_L0, dn_cond, hUL, hQL, hlt, hlt', hik, hs0, hs1, g1E, g2E, e1, e2, e3, w0, w4]
theorem l_cmpOut {O : Oracle} (hti : K_sTimes6 O) (had : K_sAdd O) (hup : K_sUp6 O) {p : Int} [IsP p] {m : Fp p} {v1 v2 : List Int} (hm : m ≠ 0) (hml : m.len ≤ 64) {us vs : List (Fp p)} (hus : ∀ c ∈ us, c.len ≤ 64) (hvs : ∀ c ∈ vs, c.len ≤ 64) {N : Nat} (hN : N ≤ 1000) (hk : us.length + vs.length ≤ N) : ∀ (r k : Nat) (Q : List (Fp p)), k + r = vs.length → Q.length = N → (∀ c ∈ Q, c.len ≤ 64) →
 dn O 0 (.loop Z3b_L1) ⟨[(1, .d (aD us)), (2, .d (aD vs)), (3, .ptr 0 []), (7, .sl 1 [] 0 N (some N)), (8, (.d (.int .i64 k)))], [.box false (drD p (pad (row m)) v1 v2), .sl false (.arr 64 .leaf) ((skP Q).map arr8), .hole]⟩ =
  some (.exit 0, ⟨[(1, .d (aD us)), (2, .d (aD vs)), (3, .ptr 0 []), (7, .sl 1 [] 0 N (some N)), (8, (.d (.int .i64 vs.length))), (20, (.d (.bool false)))], [.box false (drD p (pad (row m)) v1 v2), .sl false (.arr 64 .leaf) ((skP (cmpOut m us k (vs.drop k) Q)).map arr8), .hole]⟩)
 | 0, k, Q, hi, hq, hQ => by
  obtain rfl : k = vs.length := by omega
  rw [List.drop_length]
  refine dn_stop ?_
  have hVL := skA_len vs
  show dn O 0 _ ⟨[_, (2, .d (.sl (.arr 64 .leaf) ((skP vs).map arr8))), _, _, _], _⟩ = some (_, (⟨[_, (2, .d (.sl (.arr 64 .leaf) ((skP vs).map arr8))), _, _, _, _], [_, .sl false (.arr 64 .leaf) ((skP Q).map arr8), _]⟩ : St))
  generalize aD us = UD at *
  generalize (skP vs).map arr8 = VD at *
  generalize (skP Q).map arr8 = QD at *
  simp -implicitDefEqProofs [Z3b_L1, dn_cond, hVL]
 | r + 1, k, Q, hi, hq, hQ => by
  have hlt : k < vs.length := by omega
  have hv1 := hvs _ (List.getElem_mem hlt)
  have hVL := skA_len vs
  have g1 := skA_get hlt
  have g1E := skA_getE hlt
  have w4 : IntKind.i64.wrap ((k : Int) + 1) = ((k + 1 : Nat) : Int) := (w64 (x := (k : Int) + 1) (by omega)).trans (by omega)
  have hlt' : (k : Int) < vs.length := by omega
  obtain ⟨w', e1⟩ := l_cmpIn hti had hup hm hml hus (VD := aD vs) hN (k := k) (by omega) (v1 := v1) (v2 := v2) us.length 0 vs[k] Q (by omega) hq hQ hv1
  rw [List.drop_zero, show ((0 : Nat) : Int) = 0 from rfl] at e1
  have hQ' : ∀ c ∈ cmpIn m k 0 us vs[k] Q, c.len ≤ 64 := cmpIn_lens (N := 64) hm (by omega) k us 0 vs[k] Q hQ
  have ih := l_cmpOut hti had hup hm hml hus hvs hN hk (v1 := v1) (v2 := v2) r (k + 1) (cmpIn m k 0 us vs[k] Q) (by omega) (by rw [cmpIn_length]; exact hq) hQ'
  have hby : cmpOut m us k (vs.drop k) Q = cmpOut m us (k + 1) (vs.drop (k + 1)) (cmpIn m k 0 us vs[k] Q) := by
   rw [List.drop_eq_getElem_cons hlt]; rfl
  rw [hby]
  refine dn_round ?_ ih
  rw [show aD vs = .sl (.arr 64 .leaf) ((skP vs).map arr8) from rfl] at e1 ⊢
  generalize aD us = UD at *
  generalize (skP (cmpIn m k 0 us vs[k] Q)).map arr8 = Q2 at *
  generalize (skP vs).map arr8 = VD at *
  generalize (skP Q).map arr8 = QD at *
  generalize pad (row vs[k]) = P1 at *
  generalize pad (row m) = Pm at *
  simp -implicitDefEqProofs [Z3b_L1, dn_cond, hVL, hlt, hlt', g1E, e1, w4]
def K_sComp (O : Oracle) : Prop := ∀ (p : Int) [IsP p] (m : Fp p) (v1 v2 : List Int) (us vs : List (Fp p)), m ≠ 0 → m.len ≤ 64 → (∀ c ∈ us, c.len ≤ 64) → (∀ c ∈ vs, c.len ≤ 64) → us.length + vs.length ≤ 1000 → ask O F3b [drD p (pad (row m)) v1 v2, aD us, aD vs] = some (aD (cmpS m us vs))
theorem skA_zeros (p : Int) (n : Nat) : (skP (List.replicate n (0 : Fp p))).map arr8 = List.replicate n (D.arr 64 .leaf (ints .u8 (pad []))) := by
 unfold skP
 rw [List.map_replicate, List.map_replicate, row_zero]
theorem k_sComp (hT : T F3b = some Z3b) (hti : K_sTimes6 (den T A)) (had : K_sAdd (den T A)) (hup : K_sUp6 (den T A)) (htr : K_sTrim4 (den T A)) : K_sComp (den T A) := by
 intro p ip m v1 v2 us vs hm hml hus hvs hN
 have hz : ∀ c ∈ List.replicate (us.length + vs.length) (0 : Fp p), c.len ≤ 64 := fun c hc => by rw [List.eq_of_mem_replicate hc, Pol.len_zero]; omega
 have e1 := l_cmpOut (O := den T A) hti had hup hm hml hus hvs hN (Nat.le_refl _) (v1 := v1) (v2 := v2) vs.length 0 (List.replicate (us.length + vs.length) 0) (by omega) List.length_replicate hz
 rw [List.drop_zero, show ((0 : Nat) : Int) = 0 from rfl, skA_zeros] at e1
 have e2 := htr p (cmpOut m us 0 vs (List.replicate (us.length + vs.length) 0)) (cmpOut_lens (N := 64) hm (by omega) us vs 0 _ hz) (by rw [cmpOut_length, List.length_replicate]; omega)
 rw [show trimS (cmpOut m us 0 vs (List.replicate (us.length + vs.length) 0)) = cmpS m us vs from rfl] at e2
 have hUL := skA_len us
 have hVL := skA_len vs
 have hOL : ((skP (cmpOut m us 0 vs (List.replicate (us.length + vs.length) 0))).map arr8).length = us.length + vs.length := by rw [skA_len, cmpOut_length, List.length_replicate]
 have w1 : IntKind.i64.wrap ((us.length : Int) + vs.length) = ((us.length + vs.length : Nat) : Int) := (w64 (x := (us.length : Int) + vs.length) (by omega)).trans (by omega)
 have hmul : (us.length + vs.length) * 64 ≤ 1099511627776 := by omega
 have hs0 : (0 : Int) ≤ (us.length : Int) + vs.length := by omega
 have hs1 : ((us.length : Int) + vs.length).toNat = us.length + vs.length := by omega
 rw [show aD us = .sl (.arr 64 .leaf) ((skP us).map arr8) from rfl, show aD vs = .sl (.arr 64 .leaf) ((skP vs).map arr8) from rfl] at e1 ⊢
 rw [show aD (cmpS m us vs) = .sl (.arr 64 .leaf) ((skP (cmpS m us vs)).map arr8) from rfl] at e2 ⊢
 rw [show aD (cmpOut m us 0 vs (List.replicate (us.length + vs.length) 0)) = .sl (.arr 64 .leaf) ((skP (cmpOut m us 0 vs (List.replicate (us.length + vs.length) 0))).map arr8) from rfl] at e2
 have htk : ((skP (cmpOut m us 0 vs (List.replicate (us.length + vs.length) 0))).map arr8).take (us.length + vs.length) = (skP (cmpOut m us 0 vs (List.replicate (us.length + vs.length) 0))).map arr8 := List.take_of_length_le (by omega)
 refine ask_of hT rfl ?_
 generalize (skP (cmpS m us vs)).map arr8 = CD at *
 generalize (skP (cmpOut m us 0 vs (List.replicate (us.length + vs.length) 0))).map arr8 = OD at *
 generalize (skP us).map arr8 = UD at *
 generalize (skP vs).map arr8 = VD at *
 generalize us.length = nu at *
 generalize vs.length = nv at *
 generalize pad (row m) = Pm at *
 simp -implicitDefEqProofs [Z3b, Z3b_B, hUL, hVL, hOL, w1, hmul, hs0, hs1, htk, e1, e2]
def K_sT6 (O : Oracle) : Prop := ∀ (p : Int) [IsP p] (m g d : Fp p), m ≠ 0 → m.len ≤ 64 → ask O F3f [drD p (pad (row m)) (pad (row g)) (pad (row d))] = some (aD [Pol.X % m, g, d])
theorem k_sT6 (hT : T F3f = some Z3f) (ht : K_sT (den T A)) (hmo : K_sMod (den T A)) : K_sT6 (den T A) := by
 intro p ip m g d hm hml
 have e1 := ht p
 have e2 := hmo p Pol.X m hm (by rw [Pol.len_X]; omega) hml
 rw [show aD [Pol.X % m, g, d] = .sl (.arr 64 .leaf) [(D.arr 64 .leaf (ints .u8 (pad (row (Pol.X % m))))), (D.arr 64 .leaf (ints .u8 (pad (row g)))), (D.arr 64 .leaf (ints .u8 (pad (row d))))] from rfl]
 refine ask_of hT rfl ?_
 generalize pad (row (Pol.X % m)) = P1 at *
 generalize pad (row (Pol.X : Fp p)) = P2 at *
 generalize pad (row m) = Pm at *
 generalize pad (row g) = Pg at *
 generalize pad (row d) = Pd at *
 simp -implicitDefEqProofs [Z3f, Z3f_B, e1, e2, List.replicate]
theorem conv_rep {p : Int} [IsP p] (c : Zp p) : IntKind.i64.wrap (rep c) = rep c := by
 have := rep_in c
 have h7 := IsP.le (p := p)
 exact w64 (by omega)
theorem l_sAct0 {O : Oracle} (had : K_sAdd O) {p : Int} [IsP p] {m a : Fp p} {v1 v2 : List Int} (ha : a.len ≤ 64) {X : List (Fp p)} (hX : ∀ c ∈ X, c.len ≤ 64) {N k : Nat} {n5 : Int} (hN : N ≤ 1000) (hXN : X.length ≤ N) (hk : k < 64) : ∀ (r i : Nat) (Q : List (Fp p)), i + r = X.length → Q.length = N → (∀ c ∈ Q, c.len ≤ 64) →
 dn O 0 (.loop Z39_L0) ⟨[(2, .ptr 0 []), (3, .ptr 1 []), (5, (.d (.int .i64 n5))), (6, .sl 2 [] 0 N (some N)), (7, .d (aD X)), (8, (.d (.int .i64 k))), (9, (.d (.int .i64 i)))], [.box false (drD p (pad (row m)) v1 v2), .box false (D.arr 64 .leaf (ints .u8 (pad (row a)))), .sl false (.arr 64 .leaf) ((skP Q).map arr8), .hole]⟩ =
  some (.exit 2, ⟨[(2, .ptr 0 []), (3, .ptr 1 []), (5, (.d (.int .i64 n5))), (6, .sl 2 [] 0 N (some N)), (7, .d (aD X)), (8, (.d (.int .i64 k))), (9, (.d (.int .i64 X.length))), (27, (.d (.bool false)))], [.box false (drD p (pad (row m)) v1 v2), .box false (D.arr 64 .leaf (ints .u8 (pad (row a)))), .sl false (.arr 64 .leaf) ((skP (spIn (Pol.C (a.c k)) i (X.drop i) Q)).map arr8), .hole]⟩)
 | 0, i, Q, hi, hq, hQ => by
  obtain rfl : i = X.length := by omega
  rw [List.drop_length]
  refine dn_stop ?_
  have hXL := skA_len X
  show dn O 0 _ ⟨[_, _, _, _, (7, .d (.sl (.arr 64 .leaf) ((skP X).map arr8))), _, _], _⟩ = some (_, (⟨[_, _, _, _, (7, .d (.sl (.arr 64 .leaf) ((skP X).map arr8))), _, _, _], [_, _, .sl false (.arr 64 .leaf) ((skP Q).map arr8), _]⟩ : St))
  generalize (skP X).map arr8 = XD at *
  generalize (skP Q).map arr8 = QD at *
  simp -implicitDefEqProofs [Z39_L0, dn_cond, hXL]
 | r + 1, i, Q, hi, hq, hQ => by
  have hlt : i < X.length := by omega
  have hiQ : i < Q.length := by omega
  have hiN : i < N := by omega
  have hx1 := hX _ (List.getElem_mem hlt)
  have hq1 := hQ _ (List.getElem_mem hiQ)
  have hXL := skA_len X
  have hQL : ((skP Q).map arr8).length = N := (skA_len Q).trans hq
  have g1 := skA_getE hlt
  have g2 := skA_getE hiQ
  have hr := rep_in (a.c k)
  have h7 := IsP.le (p := p)
  have e1 := had p (rep (a.c k)) Q[i] X[i] (by omega) (by omega) hq1 hx1
  rw [zp_rep] at e1
  have hadd : addAt Q i (Pol.C (a.c k) * X[i]) = Q.set i (Q[i] + Pol.C (a.c k) * X[i]) := by
   unfold addAt; rw [List.getElem?_eq_getElem hiQ]; rfl
  have hcl : (Pol.C (a.c k) * X[i]).len ≤ 64 := Pol.len_le fun j hj => by rw [Pol.c_Cmul, c_ge' (a := X[i]) (n := j) (by omega), Gq.mul_zero]
  have hQ' : ∀ c ∈ addAt Q i (Pol.C (a.c k) * X[i]), c.len ≤ 64 := addAt_lens hQ hcl
  have w4 : IntKind.i64.wrap ((i : Int) + 1) = ((i + 1 : Nat) : Int) := (w64 (x := (i : Int) + 1) (by omega)).trans (by omega)
  have hlt' : (i : Int) < X.length := by omega
  have hpl : (pad (row a)).length = 64 := pad_length _
  have hpk : ∀ h : k < (pad (row a)).length, (pad (row a))[k]'h = rep (a.c k) := fun h => by rw [← cf_lt h, pad_cf (by rw [row_length]; omega), row_cf]
  have hwr := conv_rep (a.c k)
  have hby : spIn (Pol.C (a.c k)) i (X.drop i) Q = spIn (Pol.C (a.c k)) (i + 1) (X.drop (i + 1)) (addAt Q i (Pol.C (a.c k) * X[i])) := by
   rw [List.drop_eq_getElem_cons hlt]; rfl
  rw [hby]
  refine dn_round ?_ (l_sAct0 had (m := m) (v1 := v1) (v2 := v2) ha hX hN hXN hk r (i + 1) (addAt Q i (Pol.C (a.c k) * X[i])) (by omega) (by rw [addAt_length]; exact hq) hQ')
  rw [hadd, skA_set]
  show dn O 0 _ ⟨[_, _, _, _, (7, .d (.sl (.arr 64 .leaf) ((skP X).map arr8))), _, _], _⟩ = some (_, (⟨[_, _, _, _, (7, .d (.sl (.arr 64 .leaf) ((skP X).map arr8))), _, _], _⟩ : St))
  generalize pad (row (Q[i] + Pol.C (a.c k) * X[i])) = P1 at *
  generalize pad (row X[i]) = P2 at *
  generalize pad (row Q[i]) = P3 at *
  generalize (skP X).map arr8 = XD at *
  generalize (skP Q).map arr8 = QD at *
  generalize rep (a.c k) = ck at *
  generalize pad (row a) = Pa at *
  generalize pad (row m) = Pm at *
  simp -implicitDefEqProofs [Z39_L0, dn_cond, hXL, hQL, hlt, hlt', hiN, g1, g2, hk, hpl, hpk, hwr, e1, w4]
end Pe

namespace Pe
open Go Gq
variable {T : Nat → Option Fn} {A : Oracle}
theorem l_sAct0f {O : Oracle} (had : K_sAdd O) {p : Int} [IsP p] {m a : Fp p} {v1 v2 : List Int} (ha : a.len ≤ 64) {N : Nat} {n5 : Int} (hN : N ≤ 1000) (hN1 : 1 ≤ N) {Q : List (Fp p)} (hq : Q.length = N) (hQ : ∀ c ∈ Q, c.len ≤ 64) :
 dn O 0 (.loop Z39_L0) ⟨[(2, .ptr 0 []), (3, .ptr 1 []), (5, (.d (.int .i64 n5))), (6, .sl 2 [] 0 N (some N)), (7, .sl 3 [] 0 1 (some 1)), (8, (.d (.int .i64 0))), (9, (.d (.int .i64 0)))], [.box false (drD p (pad (row m)) v1 v2), .box false (D.arr 64 .leaf (ints .u8 (pad (row a)))), .sl false (.arr 64 .leaf) ((skP Q).map arr8), .sl false (.arr 64 .leaf) [(D.arr 64 .leaf (ints .u8 (pad (row (1 : Fp p)))))]]⟩ =
  some (.exit 2, ⟨[(2, .ptr 0 []), (3, .ptr 1 []), (5, (.d (.int .i64 n5))), (6, .sl 2 [] 0 N (some N)), (7, .sl 3 [] 0 1 (some 1)), (8, (.d (.int .i64 0))), (9, (.d (.int .i64 1))), (27, (.d (.bool false)))], [.box false (drD p (pad (row m)) v1 v2), .box false (D.arr 64 .leaf (ints .u8 (pad (row a)))), .sl false (.arr 64 .leaf) ((skP (spIn (Pol.C (a.c 0)) 0 [1] Q)).map arr8), .sl false (.arr 64 .leaf) [(D.arr 64 .leaf (ints .u8 (pad (row (1 : Fp p)))))]]⟩) := by
 have hiQ : 0 < Q.length := by omega
 have hiN : 0 < N := by omega
 have hq1 := hQ _ (List.getElem_mem hiQ)
 have hQL : ((skP Q).map arr8).length = N := (skA_len Q).trans hq
 have g2 := skA_getE hiQ
 have hr := rep_in (a.c 0)
 have h7 := IsP.le (p := p)
 have e1 := had p (rep (a.c 0)) Q[0] 1 (by omega) (by omega) hq1 (by rw [Pol.len_one]; omega)
 rw [zp_rep] at e1
 have hadd : spIn (Pol.C (a.c 0)) 0 [1] Q = Q.set 0 (Q[0] + Pol.C (a.c 0) * 1) := by
  show addAt Q 0 (Pol.C (a.c 0) * 1) = _
  unfold addAt; rw [List.getElem?_eq_getElem hiQ]; rfl
 have w4 : IntKind.i64.wrap 1 = 1 := w64 (by omega)
 have hpl : (pad (row a)).length = 64 := pad_length _
 have hpk : ∀ h : 0 < (pad (row a)).length, (pad (row a))[0]'h = rep (a.c 0) := fun h => by rw [← cf_lt h, pad_cf (by rw [row_length]; omega), row_cf]
 have hwr := conv_rep (a.c 0)
 rw [hadd, skA_set]
 have stop : ∀ (QD : List D) (P1 : D), dn O 0 (.loop Z39_L0) ⟨[(2, .ptr 0 []), (3, .ptr 1 []), (5, (.d (.int .i64 n5))), (6, .sl 2 [] 0 N (some N)), (7, .sl 3 [] 0 1 (some 1)), (8, (.d (.int .i64 0))), (9, (.d (.int .i64 1)))], [.box false (drD p (pad (row m)) v1 v2), .box false (D.arr 64 .leaf (ints .u8 (pad (row a)))), .sl false (.arr 64 .leaf) QD, .sl false (.arr 64 .leaf) [P1]]⟩ =
  some (.exit 2, ⟨[(2, .ptr 0 []), (3, .ptr 1 []), (5, (.d (.int .i64 n5))), (6, .sl 2 [] 0 N (some N)), (7, .sl 3 [] 0 1 (some 1)), (8, (.d (.int .i64 0))), (9, (.d (.int .i64 1))), (27, (.d (.bool false)))], [.box false (drD p (pad (row m)) v1 v2), .box false (D.arr 64 .leaf (ints .u8 (pad (row a)))), .sl false (.arr 64 .leaf) QD, .sl false (.arr 64 .leaf) [P1]]⟩) := fun QD P1 => by
  refine dn_stop ?_
  generalize pad (row a) = Pa at *
  generalize pad (row m) = Pm at *
  simp -implicitDefEqProofs [Z39_L0, dn_cond]
 refine dn_round ?_ (stop _ _)
 generalize pad (row (Q[0] + Pol.C (a.c 0) * 1)) = P1 at *
 generalize pad (row (1 : Fp p)) = P2 at *
 generalize pad (row Q[0]) = P3 at *
 generalize (skP Q).map arr8 = QD at *
 generalize rep (a.c 0) = ck at *
 generalize pad (row a) = Pa at *
 generalize pad (row m) = Pm at *
 simp -implicitDefEqProofs [Z39_L0, dn_cond, hQL, hiN, g2, hpl, hpk, hwr, e1, w4]
theorem l_sAct1 {O : Oracle} (had : K_sAdd O) (ht : K_sT6 O) (hco : K_sComp O) {p : Int} [IsP p] {m g d a : Fp p} (hm : Fld m) (hg : g.len < m.len) (hd : d.len < m.len) (ha : a.len ≤ 64) {N : Nat} (hN : N + 1 = 2 * a.len) : ∀ (r k : Nat), k + r + 1 = a.len → ∃ X' : V,
 dn O 0 (.loop Z39_L1) ⟨[(2, .ptr 0 []), (3, .ptr 1 []), (5, (.d (.int .i64 ((a.len : Int) - 1)))), (6, .sl 2 [] 0 N (some N)), (7, .d (aD (nwS m (Pol.X % m) g d k))), (8, (.d (.int .i64 k)))], [.box false (drD p (pad (row m)) (pad (row g)) (pad (row d))), .box false (D.arr 64 .leaf (ints .u8 (pad (row a)))), .sl false (.arr 64 .leaf) ((skP (outS m (Pol.X % m) g d a N k)).map arr8), .hole]⟩ =
  some (.exit 0, ⟨[(2, .ptr 0 []), (3, .ptr 1 []), (5, (.d (.int .i64 ((a.len : Int) - 1)))), (6, .sl 2 [] 0 N (some N)), (7, X'), (8, (.d (.int .i64 a.len))), (21, (.d (.bool false)))], [.box false (drD p (pad (row m)) (pad (row g)) (pad (row d))), .box false (D.arr 64 .leaf (ints .u8 (pad (row a)))), .sl false (.arr 64 .leaf) ((skP (outS m (Pol.X % m) g d a N a.len)).map arr8), .hole]⟩)
 | r, k, hk => by
  have h5 := hm.five
  have h0 := hm.mon.2
  have nl := nwS_len h0 (Pol.X % m) g d k
  have nr := nwS_lens hm (Pol.X % m) g d k
  have ol := outS_length m (Pol.X % m) g d a N k
  have or_ := outS_lens hm (Pol.X % m) g d a N k
  have e1 := l_sAct0 (O := O) had (m := m) (v1 := pad (row g)) (v2 := pad (row d)) (n5 := (a.len : Int) - 1) ha (X := nwS m (Pol.X % m) g d k) (fun c hc => by have := nr c hc; omega) (N := N) (k := k) (by omega) (by omega) (by omega) (nwS m (Pol.X % m) g d k).length 0 (outS m (Pol.X % m) g d a N k) (Nat.zero_add _) ol (fun c hc => by have := or_ c hc; omega)
  rw [List.drop_zero, show spIn (Pol.C (a.c k)) 0 (nwS m (Pol.X % m) g d k) (outS m (Pol.X % m) g d a N k) = outS m (Pol.X % m) g d a N (k + 1) from rfl, show ((0 : Nat) : Int) = 0 from rfl] at e1
  have hle : (k : Int) ≤ (a.len : Int) - 1 := by omega
  have w4 : IntKind.i64.wrap ((k : Int) + 1) = ((k + 1 : Nat) : Int) := (w64 (x := (k : Int) + 1) (by omega)).trans (by omega)
  have hXL := nl
  match r with
  | 0 =>
   have hk1 : a.len = k + 1 := by omega
   have hnlt : ¬ (k : Int) < (a.len : Int) - 1 := by omega
   have hnle : ¬ ((k + 1 : Nat) : Int) ≤ (a.len : Int) - 1 := by omega
   refine ⟨.d (aD (nwS m (Pol.X % m) g d k)), ?_⟩
   have stop : ∀ (QD : List D) (XD : D), dn O 0 (.loop Z39_L1) ⟨[(2, .ptr 0 []), (3, .ptr 1 []), (5, (.d (.int .i64 ((a.len : Int) - 1)))), (6, .sl 2 [] 0 N (some N)), (7, .d XD), (8, (.d (.int .i64 (((k + 1 : Nat) : Int)))))], [.box false (drD p (pad (row m)) (pad (row g)) (pad (row d))), .box false (D.arr 64 .leaf (ints .u8 (pad (row a)))), .sl false (.arr 64 .leaf) QD, .hole]⟩ =
    some (.exit 0, ⟨[(2, .ptr 0 []), (3, .ptr 1 []), (5, (.d (.int .i64 ((a.len : Int) - 1)))), (6, .sl 2 [] 0 N (some N)), (7, .d XD), (8, (.d (.int .i64 (((k + 1 : Nat) : Int))))), (21, (.d (.bool false)))], [.box false (drD p (pad (row m)) (pad (row g)) (pad (row d))), .box false (D.arr 64 .leaf (ints .u8 (pad (row a)))), .sl false (.arr 64 .leaf) QD, .hole]⟩) := fun QD XD => by
    refine dn_stop ?_
    generalize ((k + 1 : Nat) : Int) = k1 at *
    generalize (a.len : Int) - 1 = n1 at *
    generalize pad (row a) = Pa at *
    generalize pad (row m) = Pm at *
    simp -implicitDefEqProofs [Z39_L1, dn_cond, hnle]
   rw [show outS m (Pol.X % m) g d a N a.len = outS m (Pol.X % m) g d a N (k + 1) by rw [hk1], show ((a.len : Nat) : Int) = ((k + 1 : Nat) : Int) by rw [hk1]]
   rw [show ((a.len : Nat) : Int) = ((k + 1 : Nat) : Int) by rw [hk1]] at e1 stop hle hnlt hnle
   refine dn_round ?_ (stop _ _)
   generalize (skP (outS m (Pol.X % m) g d a N (k + 1))).map arr8 = Q2 at *
   generalize (skP (outS m (Pol.X % m) g d a N k)).map arr8 = Q1 at *
   generalize aD (nwS m (Pol.X % m) g d k) = XD at *
   generalize ((k + 1 : Nat) : Int) = k1 at *
   generalize pad (row a) = Pa at *
   generalize pad (row m) = Pm at *
   simp -implicitDefEqProofs [Z39_L1, dn_cond, hle, hnlt, e1, w4]
  | r + 1 =>
   have hlt : (k : Int) < (a.len : Int) - 1 := by omega
   obtain ⟨X', ih⟩ := l_sAct1 had ht hco hm hg hd ha hN r (k + 1) (by omega)
   have e2 := ht p m g d h0 (by omega)
   have e3 := hco p m (pad (row g)) (pad (row d)) [Pol.X % m, g, d] (nwS m (Pol.X % m) g d k) h0 (by omega) (fun c hc => by have := mem3 (Pol.len_mod Pol.X h0) hg hd c hc; omega) (fun c hc => by have := nr c hc; omega) (by simp only [List.length_cons, List.length_nil]; omega)
   rw [show cmpS m [Pol.X % m, g, d] (nwS m (Pol.X % m) g d k) = nwS m (Pol.X % m) g d (k + 1) from rfl] at e3
   refine ⟨X', dn_round ?_ ih⟩
   unfold aD at e1 e2 e3 ⊢
   generalize (skP (outS m (Pol.X % m) g d a N (k + 1))).map arr8 = Q2 at *
   generalize (skP (outS m (Pol.X % m) g d a N k)).map arr8 = Q1 at *
   generalize (skP (nwS m (Pol.X % m) g d (k + 1))).map arr8 = X2 at *
   generalize (skP (nwS m (Pol.X % m) g d k)).map arr8 = XD at *
   generalize (skP [Pol.X % m, g, d]).map arr8 = TD at *
   generalize ((k + 1 : Nat) : Int) = k1 at *
   generalize (a.len : Int) - 1 = n1 at *
   generalize pad (row a) = Pa at *
   generalize pad (row m) = Pm at *
   generalize pad (row g) = Pg at *
   generalize pad (row d) = Pd at *
   simp -implicitDefEqProofs [Z39_L1, dn_cond, hle, hlt, e1, e2, e3, w4]
def K_sAction (O : Oracle) : Prop := ∀ (p : Int) [IsP p] (m g d a : Fp p), Fld m → g.len < m.len → d.len < m.len → a.len ≤ 64 → a ≠ 0 → ask O F39 [drD p (pad (row m)) (pad (row g)) (pad (row d)), (D.arr 64 .leaf (ints .u8 (pad (row a))))] = some (aD (outS m (Pol.X % m) g d a (2 * a.len - 1) a.len))
theorem k_sAction (hT : T F39 = some Z39) (hdg : K_sDeg (den T A)) (h1 : K_sOne (den T A)) (had : K_sAdd (den T A)) (ht : K_sT6 (den T A)) (hco : K_sComp (den T A)) : K_sAction (den T A) := by
 intro p ip m g d a hm hg hd ha ha0
 have h5 := hm.five
 have h0 := hm.mon.2
 have hap := Pol.len_pos ha0
 have e1 := hdg p a ha
 have e2 := h1 p
 have hN : (2 * a.len - 1) + 1 = 2 * a.len := by omega
 have e3 := l_sAct0f (O := den T A) had (m := m) (v1 := pad (row g)) (v2 := pad (row d)) (n5 := (a.len : Int) - 1) ha (N := 2 * a.len - 1) (by omega) (by omega) (Q := outS m (Pol.X % m) g d a (2 * a.len - 1) 0) (outS_length _ _ _ _ _ _ _) (fun c hc => by have := outS_lens hm (Pol.X % m) g d a (2 * a.len - 1) 0 c hc; omega)
 rw [show spIn (Pol.C (a.c 0)) 0 [1] (outS m (Pol.X % m) g d a (2 * a.len - 1) 0) = outS m (Pol.X % m) g d a (2 * a.len - 1) 1 from rfl, show outS m (Pol.X % m) g d a (2 * a.len - 1) 0 = List.replicate (2 * a.len - 1) 0 from rfl, skA_zeros] at e3
 have hOL : ((skP (outS m (Pol.X % m) g d a (2 * a.len - 1) a.len)).map arr8).length = 2 * a.len - 1 := by rw [skA_len, outS_length]
 have w1 : IntKind.i64.wrap (2 * ((a.len : Int) - 1)) = 2 * ((a.len : Int) - 1) := w64 (by omega)
 have w2 : IntKind.i64.wrap (2 * ((a.len : Int) - 1) + 1) = ((2 * a.len - 1 : Nat) : Int) := (w64 (by omega)).trans (by omega)
 have hmax : ¬ ((2 * a.len - 1 : Nat) : Int) < 0 := by omega
 have hmul : (2 * a.len - 1) * 64 ≤ 1099511627776 := by omega
 have htk : ((skP (outS m (Pol.X % m) g d a (2 * a.len - 1) a.len)).map arr8).take (2 * a.len - 1) = (skP (outS m (Pol.X % m) g d a (2 * a.len - 1) a.len)).map arr8 := List.take_of_length_le (by omega)
 have hle : (0 : Int) ≤ (a.len : Int) - 1 := by omega
 have w4 : IntKind.i64.wrap 1 = 1 := w64 (by omega)
 by_cases h1' : a.len = 1
 ·have hnlt : ¬ (0 : Int) < (a.len : Int) - 1 := by omega
  have hnle : ¬ (1 : Int) ≤ (a.len : Int) - 1 := by omega
  have e4 : ∀ QD : List D, dn (den T A) 0 (.loop Z39_L1) ⟨[(2, .ptr 0 []), (3, .ptr 1 []), (5, (.d (.int .i64 ((a.len : Int) - 1)))), (6, .sl 2 [] 0 (2 * a.len - 1) (some (2 * a.len - 1))), (7, .sl 3 [] 0 1 (some 1)), (8, (.d (.int .i64 1)))], [.box false (drD p (pad (row m)) (pad (row g)) (pad (row d))), .box false (D.arr 64 .leaf (ints .u8 (pad (row a)))), .sl false (.arr 64 .leaf) QD, .sl false (.arr 64 .leaf) [(D.arr 64 .leaf (ints .u8 (pad (row (1 : Fp p)))))]]⟩ =
   some (.exit 0, ⟨[(2, .ptr 0 []), (3, .ptr 1 []), (5, (.d (.int .i64 ((a.len : Int) - 1)))), (6, .sl 2 [] 0 (2 * a.len - 1) (some (2 * a.len - 1))), (7, .sl 3 [] 0 1 (some 1)), (8, (.d (.int .i64 1))), (21, (.d (.bool false)))], [.box false (drD p (pad (row m)) (pad (row g)) (pad (row d))), .box false (D.arr 64 .leaf (ints .u8 (pad (row a)))), .sl false (.arr 64 .leaf) QD, .sl false (.arr 64 .leaf) [(D.arr 64 .leaf (ints .u8 (pad (row (1 : Fp p)))))]]⟩) := fun QD => by
   refine dn_stop ?_
   generalize (a.len : Int) - 1 = n1 at *
   generalize pad (row a) = Pa at *
   generalize pad (row m) = Pm at *
   generalize pad (row (1 : Fp p)) = P1 at *
   simp -implicitDefEqProofs [Z39_L1, dn_cond, hnle]
  have e5 : dn (den T A) 0 (.loop Z39_L1) ⟨[(2, .ptr 0 []), (3, .ptr 1 []), (5, (.d (.int .i64 ((a.len : Int) - 1)))), (6, .sl 2 [] 0 (2 * a.len - 1) (some (2 * a.len - 1))), (7, .sl 3 [] 0 1 (some 1)), (8, (.d (.int .i64 0)))], [.box false (drD p (pad (row m)) (pad (row g)) (pad (row d))), .box false (D.arr 64 .leaf (ints .u8 (pad (row a)))), .sl false (.arr 64 .leaf) (List.replicate (2 * a.len - 1) (D.arr 64 .leaf (ints .u8 (pad [])))), .sl false (.arr 64 .leaf) [(D.arr 64 .leaf (ints .u8 (pad (row (1 : Fp p)))))]]⟩ =
   some (.exit 0, ⟨[(2, .ptr 0 []), (3, .ptr 1 []), (5, (.d (.int .i64 ((a.len : Int) - 1)))), (6, .sl 2 [] 0 (2 * a.len - 1) (some (2 * a.len - 1))), (7, .sl 3 [] 0 1 (some 1)), (8, (.d (.int .i64 1))), (21, (.d (.bool false)))], [.box false (drD p (pad (row m)) (pad (row g)) (pad (row d))), .box false (D.arr 64 .leaf (ints .u8 (pad (row a)))), .sl false (.arr 64 .leaf) ((skP (outS m (Pol.X % m) g d a (2 * a.len - 1) 1)).map arr8), .sl false (.arr 64 .leaf) [(D.arr 64 .leaf (ints .u8 (pad (row (1 : Fp p)))))]]⟩) := by
   refine dn_round ?_ (e4 _)
   generalize (skP (outS m (Pol.X % m) g d a (2 * a.len - 1) 1)).map arr8 = Q1 at *
   generalize List.replicate (2 * a.len - 1) (D.arr 64 .leaf (ints .u8 (pad []))) = Q0 at *
   generalize 2 * a.len - 1 = N at *
   generalize (a.len : Int) - 1 = n1 at *
   generalize pad (row a) = Pa at *
   generalize pad (row m) = Pm at *
   generalize pad (row (1 : Fp p)) = P1 at *
   simp -implicitDefEqProofs [Z39_L1, dn_cond, hnlt, hle, e3, w4]
  rw [show outS m (Pol.X % m) g d a (2 * a.len - 1) 1 = outS m (Pol.X % m) g d a (2 * a.len - 1) a.len by rw [h1']] at e5
  unfold aD
  refine ask_of hT rfl ?_
  generalize (skP (outS m (Pol.X % m) g d a (2 * a.len - 1) a.len)).map arr8 = Q1 at *
  generalize 2 * a.len - 1 = N at *
  generalize (a.len : Int) - 1 = n1 at *
  generalize pad (row a) = Pa at *
  generalize pad (row m) = Pm at *
  generalize pad (row (1 : Fp p)) = P1 at *
  simp -implicitDefEqProofs [Z39, Z39_B, e1, e2, e5, w1, w2, hmax, hmul, hOL, htk]
 ·have hlt : (0 : Int) < (a.len : Int) - 1 := by omega
  obtain ⟨X', e4⟩ := l_sAct1 (O := den T A) had ht hco hm hg hd ha hN (a.len - 2) 1 (by omega)
  rw [show ((1 : Nat) : Int) = 1 from rfl] at e4
  have f2 := ht p m g d h0 (by omega)
  have f3 := hco p m (pad (row g)) (pad (row d)) [Pol.X % m, g, d] [1] h0 (by omega) (fun c hc => by have := mem3 (Pol.len_mod Pol.X h0) hg hd c hc; omega) (fun c hc => by rw [List.mem_singleton.1 hc, Pol.len_one]; omega) (by simp only [List.length_cons, List.length_nil]; omega)
  rw [show cmpS m [Pol.X % m, g, d] [1] = nwS m (Pol.X % m) g d 1 from rfl, show aD [(1 : Fp p)] = .sl (.arr 64 .leaf) [(D.arr 64 .leaf (ints .u8 (pad (row (1 : Fp p)))))] from rfl] at f3
  unfold aD at e4 f2 f3 ⊢
  have e5 : dn (den T A) 0 (.loop Z39_L1) ⟨[(2, .ptr 0 []), (3, .ptr 1 []), (5, (.d (.int .i64 ((a.len : Int) - 1)))), (6, .sl 2 [] 0 (2 * a.len - 1) (some (2 * a.len - 1))), (7, .sl 3 [] 0 1 (some 1)), (8, (.d (.int .i64 0)))], [.box false (drD p (pad (row m)) (pad (row g)) (pad (row d))), .box false (D.arr 64 .leaf (ints .u8 (pad (row a)))), .sl false (.arr 64 .leaf) (List.replicate (2 * a.len - 1) (D.arr 64 .leaf (ints .u8 (pad [])))), .sl false (.arr 64 .leaf) [(D.arr 64 .leaf (ints .u8 (pad (row (1 : Fp p)))))]]⟩ =
   some (.exit 0, ⟨[(2, .ptr 0 []), (3, .ptr 1 []), (5, (.d (.int .i64 ((a.len : Int) - 1)))), (6, .sl 2 [] 0 (2 * a.len - 1) (some (2 * a.len - 1))), (7, X'), (8, (.d (.int .i64 a.len))), (21, (.d (.bool false)))], [.box false (drD p (pad (row m)) (pad (row g)) (pad (row d))), .box false (D.arr 64 .leaf (ints .u8 (pad (row a)))), .sl false (.arr 64 .leaf) ((skP (outS m (Pol.X % m) g d a (2 * a.len - 1) a.len)).map arr8), .hole]⟩) := by
   refine dn_round ?_ e4
   generalize (skP (outS m (Pol.X % m) g d a (2 * a.len - 1) a.len)).map arr8 = Q2 at *
   generalize (skP (outS m (Pol.X % m) g d a (2 * a.len - 1) 1)).map arr8 = Q1 at *
   generalize (skP (nwS m (Pol.X % m) g d 1)).map arr8 = XD at *
   generalize (skP [Pol.X % m, g, d]).map arr8 = TD at *
   generalize List.replicate (2 * a.len - 1) (D.arr 64 .leaf (ints .u8 (pad []))) = Q0 at *
   generalize 2 * a.len - 1 = N at *
   generalize (a.len : Int) - 1 = n1 at *
   generalize pad (row a) = Pa at *
   generalize pad (row m) = Pm at *
   generalize pad (row g) = Pg at *
   generalize pad (row d) = Pd at *
   generalize pad (row (1 : Fp p)) = P1 at *
   simp -implicitDefEqProofs [Z39_L1, dn_cond, hlt, hle, e3, f2, f3, w4]
  refine ask_of hT rfl ?_
  generalize (skP (outS m (Pol.X % m) g d a (2 * a.len - 1) a.len)).map arr8 = Q1 at *
  generalize 2 * a.len - 1 = N at *
  generalize (a.len : Int) - 1 = n1 at *
  generalize pad (row a) = Pa at *
  generalize pad (row m) = Pm at *
  generalize pad (row g) = Pg at *
  generalize pad (row d) = Pd at *
  generalize pad (row (1 : Fp p)) = P1 at *
  simp -implicitDefEqProofs [Z39, Z39_B, e1, e2, e5, w1, w2, hmax, hmul, hOL, htk]
theorem l_sNorm {O : Oracle} (hdg : K_sDeg O) (hup : K_sUp6 O) (hti : K_sTimes6 O) {p : Int} [IsP p] {m x : Fp p} {v1 v2 : List Int} (hm : Fld m) (hx : x.len < m.len) : ∀ (r i : Nat), i + r = m.len - 1 →
 dn O 0 (.loop Z3d_L0) ⟨[(2, .ptr 0 []), (3, .ptr 1 []), (5, .ptr 2 []), (6, (.d (.int .i64 i)))], [.box false (drD p (pad (row m)) v1 v2), .box false (D.arr 64 .leaf (ints .u8 (pad (row x)))), .box false (D.arr 64 .leaf (ints .u8 (pad (row (nmS m x i)))))]⟩ =
  some (.exit 0, ⟨[(2, .ptr 0 []), (3, .ptr 1 []), (5, .ptr 2 []), (6, (.d (.int .i64 (((m.len - 1 : Nat) : Int))))), (12, (.d (.bool false)))], [.box false (drD p (pad (row m)) v1 v2), .box false (D.arr 64 .leaf (ints .u8 (pad (row x)))), .box false (D.arr 64 .leaf (ints .u8 (pad (row (nmS m x (m.len - 1))))))]⟩)
 | 0, i, hi => by
  have h5 := hm.five
  have h2 := hm.two
  obtain rfl : i = m.len - 1 := by omega
  have e1 := hdg p m (by omega)
  rw [show (m.len : Int) - 1 = ((m.len - 1 : Nat) : Int) by omega] at e1
  refine dn_stop ?_
  generalize pad (row (nmS m x (m.len - 1))) = P1 at *
  generalize pad (row x) = Px at *
  generalize pad (row m) = Pm at *
  generalize m.len - 1 = n at *
  simp -implicitDefEqProofs [Z3d_L0, dn_cond, e1]
 | r + 1, i, hi => by
  have h5 := hm.five
  have h2 := hm.two
  have h0 := hm.mon.2
  have e1 := hdg p m (by omega)
  rw [show (m.len : Int) - 1 = ((m.len - 1 : Nat) : Int) by omega] at e1
  have e2 := hup p m x v1 v2 i h0 (by omega) (by omega) (by omega)
  have f1 := frIt_len h0 i x hx
  have n1 := nmS_len hm x i
  have e3 := hti p m (nmS m x i) (frIt m i x) v1 v2 h0 (by omega) (by omega) (by omega)
  rw [show nmS m x i * frIt m i x % m = nmS m x (i + 1) from rfl] at e3
  have hlt : i < m.len - 1 := by omega
  have hlt' : (i : Int) < ((m.len - 1 : Nat) : Int) := by omega
  have w4 : IntKind.i64.wrap ((i : Int) + 1) = ((i + 1 : Nat) : Int) := (w64 (x := (i : Int) + 1) (by omega)).trans (by omega)
  refine dn_round ?_ (l_sNorm hdg hup hti hm hx r (i + 1) (by omega))
  generalize pad (row (nmS m x (i + 1))) = P1 at *
  generalize pad (row (nmS m x i)) = P2 at *
  generalize pad (row (frIt m i x)) = P3 at *
  generalize pad (row x) = Px at *
  generalize pad (row m) = Pm at *
  generalize m.len - 1 = n at *
  simp -implicitDefEqProofs [Z3d_L0, dn_cond, hlt', e1, e2, e3, w4]
def K_sNorm (O : Oracle) : Prop := ∀ (p : Int) [IsP p] (m x : Fp p) (v1 v2 : List Int), Fld m → x.len < m.len → ask O F3d [drD p (pad (row m)) v1 v2, (D.arr 64 .leaf (ints .u8 (pad (row x))))] = some (D.int .i64 (rep ((nmS m x (m.len - 1)).c 0)))
theorem k_sNorm (hT : T F3d = some Z3d) (h1 : K_sOne (den T A)) (hdg : K_sDeg (den T A)) (hup : K_sUp6 (den T A)) (hti : K_sTimes6 (den T A)) : K_sNorm (den T A) := by
 intro p ip m x v1 v2 hm hx
 have h5 := hm.five
 have e1 := h1 p
 have e2 := l_sNorm (O := den T A) hdg hup hti (v1 := v1) (v2 := v2) hm hx (m.len - 1) 0 (by omega)
 rw [show nmS m x 0 = 1 from rfl, show ((0 : Nat) : Int) = 0 from rfl] at e2
 have nl := nmS_len hm x (m.len - 1)
 have hpl : (pad (row (nmS m x (m.len - 1)))).length = 64 := pad_length _
 have hpk : ∀ h : 0 < (pad (row (nmS m x (m.len - 1)))).length, (pad (row (nmS m x (m.len - 1))))[0]'h = rep ((nmS m x (m.len - 1)).c 0) := fun h => by rw [← cf_lt h, pad_cf (by rw [row_length]; omega), row_cf]
 have hwr := conv_rep ((nmS m x (m.len - 1)).c 0)
 refine ask_of hT rfl ?_
 generalize rep ((nmS m x (m.len - 1)).c 0) = v at *
 generalize pad (row (nmS m x (m.len - 1))) = P1 at *
 generalize pad (row (1 : Fp p)) = P2 at *
 generalize pad (row x) = Px at *
 generalize pad (row m) = Pm at *
 generalize m.len - 1 = n at *
 simp -implicitDefEqProofs [Z3d, Z3d_B, e1, e2, hpl, hpk, hwr, List.replicate]
end Pe



namespace Pe
open Go Gq
variable {T : Nat → Option Fn} {A : Oracle}
section
variable {p : Int}
theorem frK_ne [IsP p] {m d : Fp p} (hm : Fld m) (hd : d.len < m.len) (hd0 : d ≠ 0) : zp p (frK m d) ≠ 0 := by
 obtain ⟨_, hn⟩ := norm_const hm hd0 hd
 have e := finv_rep _ hn
 have h1 := Fd.inv_ne hn
 unfold frK
 split
 ·intro h
  rw [zp_neg, e] at h
  have h2 : Fd.inv ((nmS m d (m.len - 1)).c 0) = -(-Fd.inv ((nmS m d (m.len - 1)).c 0)) := ring_of [Fd.inv ((nmS m d (m.len - 1)).c 0)] rfl
  rw [h] at h2
  exact h1 (h2.trans (ring_of ([] : List (Zp p)) rfl))
 ·rw [e]; exact h1
theorem frB_len2 [IsP p] {m d : Fp p} (hm : Fld m) (hd : d.len < m.len) (hd0 : d ≠ 0) : (frB m d).len = m.len := Pol.len_Cmul (frK_ne hm hd hd0) m
theorem frA_len [IsP p] {m g d : Fp p} (hm : Fld m) : (frA m g d).len < m.len := by
 have h1 := Pol.len_pos hm.mon.2
 have := mem_cS (A := actN m (Pol.X % m) g d (frB m d) (frB m d).len (frB m d).len) (N := m.len - 1) (fun c hc => by have := actN_lens hm _ _ _ _ _ _ c hc; omega) (m.len - 1)
 unfold frA
 omega
theorem rep_pos [IsP p] {c : Zp p} (h : c ≠ 0) : 0 < rep c := by
 have h1 := rep_in c
 rcases Int.lt_or_eq_of_le h1.1 with h2 | h2
 ·exact h2
 ·exact absurd (by rw [← zp_rep c, ← h2, zp_zero]) h
end
def K_sFrob6 (O : Oracle) : Prop := ∀ (p : Int) [IsP p] (m g d : Fp p), Fld m → g.len < m.len → d.len < m.len → d ≠ 0 → ask O F3c [drD p (pad (row m)) (pad (row g)) (pad (row d))] = some (.tup [(D.arr 64 .leaf (ints .u8 (pad (row (frA m g d))))), (D.arr 64 .leaf (ints .u8 (pad (row (frB m d)))))])
theorem k_sFrob6 (hT : T F3c = some Z3c) (hdg : K_sDeg (den T A)) (hno : K_sNorm (den T A)) (hin : K_sInverse (den T A)) (had : K_sAdd (den T A)) (hac : K_sAction (den T A)) : K_sFrob6 (den T A) := by
 intro p ip m g d hm hg hd hd0
 have h5 := hm.five
 have h2 := hm.two
 have h0 := hm.mon.2
 have hp : 2 ≤ p := by rcases IsP.h (p := p) with h | h | h | h <;> omega
 have h7 := IsP.le (p := p)
 obtain ⟨_, hn⟩ := norm_const hm hd0 hd
 have hr := rep_in ((nmS m d (m.len - 1)).c 0)
 have hrp := rep_pos hn
 obtain ⟨k1, k2⟩ := frK_in (m := m) (d := d)
 have hiv := ipow_in (p := p) (n := rep ((nmS m d (m.len - 1)).c 0)) (by omega) (p - 2).toNat
 have hbl := frB_len2 hm hd hd0
 have hb0 : frB m d ≠ 0 := fun h => by rw [h, Pol.len_zero] at hbl; omega
 have hal := frA_len (g := g) (d := d) hm
 have e1 := hdg p m (by omega)
 rw [show (m.len : Int) - 1 = ((m.len - 1 : Nat) : Int) by omega] at e1
 have e2 := hno p m d (pad (row g)) (pad (row d)) hm hd
 have e3 := hin p (rep ((nmS m d (m.len - 1)).c 0)) hrp hr.2
 have e4 := had p (frK m d) 0 m (by omega) (by omega) (by rw [Pol.len_zero]; omega) (by omega)
 rw [Gq.zero_add, show Pol.C (zp p (frK m d)) * m = frB m d from rfl, row_zero] at e4
 have e5 := hac p m g d (frB m d) hm hg hd (by omega) hb0
 have hidx : m.len - 1 < (outS m (Pol.X % m) g d (frB m d) (2 * (frB m d).len - 1) (frB m d).len).length := by rw [outS_length]; omega
 have hel := skA_getE hidx
 have hea : (outS m (Pol.X % m) g d (frB m d) (2 * (frB m d).len - 1) (frB m d).len)[m.len - 1] = frA m g d := by
  rw [cS_lt hidx]
  exact (act_out hm (mem3 (Pol.len_mod _ h0) hg hd) (frB m d) (n := (frB m d).len) (N := 2 * (frB m d).len - 1) (by omega) (m.len - 1)).symm
 rw [hea] at hel
 have hOL : m.len - 1 < ((skP (outS m (Pol.X % m) g d (frB m d) (2 * (frB m d).len - 1) (frB m d).len)).map arr8).length := by rw [skA_len]; exact hidx
 have c1 : IntKind.u8.wrap (rep ((nmS m d (m.len - 1)).c 0)) = rep ((nmS m d (m.len - 1)).c 0) := w8 (by omega)
 unfold frK at e4 k1 k2
 unfold inv at e3 e4 k1 k2
 have c2 : IntKind.i64.wrap (ipow p (rep ((nmS m d (m.len - 1)).c 0)) (p - 2).toNat) = ipow p (rep ((nmS m d (m.len - 1)).c 0)) (p - 2).toNat := w64 (by omega)
 have hrem : Int.tmod ((m.len - 1 : Nat) : Int) 2 = (((m.len - 1) % 2 : Nat) : Int) := rfl
 unfold aD at e5
 refine ask_of hT rfl ?_
 generalize (skP (outS m (Pol.X % m) g d (frB m d) (2 * (frB m d).len - 1) (frB m d).len)).map arr8 = D1 at *
 generalize pad (row (frA m g d)) = R1 at *
 generalize pad (row (frB m d)) = R2 at *
 generalize ipow p (rep ((nmS m d (m.len - 1)).c 0)) (p - 2).toNat = iv at *
 generalize rep ((nmS m d (m.len - 1)).c 0) = nv at *
 generalize pad (row m) = Pm at *
 generalize pad (row g) = Pg at *
 generalize pad (row d) = Pd at *
 generalize m.len - 1 = n at *
 have w1 : IntKind.i64.wrap (-iv) = -iv := w64 (by omega)
 by_cases hodd : n % 2 = 1
 ·rw [if_pos hodd] at e4
  rw [hodd] at hrem
  simp -implicitDefEqProofs [Z3c, Z3c_B, dn_cond, e1, e2, e3, e4, e5, hel, hOL, c1, c2, hrem, w1, List.replicate]
 ·rw [if_neg hodd] at e4
  rw [show n % 2 = 0 by omega] at hrem
  simp -implicitDefEqProofs [Z3c, Z3c_B, dn_cond, e1, e2, e3, e4, e5, hel, hOL, c1, c2, hrem, List.replicate]
end Pe

namespace Pe
open Go Gq
section
variable {K : Type} [CR K]
theorem sumR_shift (f : Nat → K) : ∀ n, sumR f (n + 1) = f 0 + sumR (fun i => f (i + 1)) n
 | 0 => by show 0 + f 0 = f 0 + 0; rw [Gq.add_zero, Gq.zero_add]
 | n + 1 => by
  rw [sumR, sumR_shift f n, sumR]
  exact Gq.add_assoc _ _ _
theorem sumR_congr {f g : Nat → K} : ∀ {n : Nat}, (∀ i, i < n → f i = g i) → sumR f n = sumR g n
 | 0, _ => rfl
 | n + 1, h => by rw [sumR, sumR, sumR_congr fun i hi => h i (by omega), h n (by omega)]
theorem pol_indK {P : Pol K → Prop} (h0 : P 0) (h : ∀ c a, P a → P (Pol.C c + Pol.X * a)) : ∀ (n : Nat) (a : Pol K), a.lt n → P a
 | 0, a, ha => by rw [Pol.lt_zero.1 ha]; exact h0
 | n + 1, a, ha => by
  obtain ⟨m, hm⟩ := a.fin
  let b : Pol K := ⟨fun i => a.c (i + 1), m, fun i hi => hm _ (by omega)⟩
  have e : a = Pol.C (a.c 0) + Pol.X * b := Pol.ext fun i => by
   rw [Pol.c_add, Pol.c_C, Pol.c_Xmul]
   cases i with
   | zero => rw [if_pos rfl, if_pos rfl, Gq.add_zero]
   | succ i => rw [if_neg (by omega), if_neg (by omega), Gq.zero_add]; rfl
  rw [e]
  exact h _ _ (pol_indK h0 h n b fun i hi => ha _ (by omega))
theorem c_lin (θ : K) (h : Pol K) (i : Nat) : ((Pol.X - Pol.C θ) * h).c i = (if i = 0 then 0 else h.c (i - 1)) - θ * h.c i := by
 have e : (Pol.X - Pol.C θ) * h = Pol.X * h - Pol.C θ * h := ring_of [Pol.X, Pol.C θ, h] rfl
 rw [e, Pol.c_sub, Pol.c_Xmul, Pol.c_Cmul]
theorem lin_cancel {θ : K} {h : Pol K} (e : (Pol.X - Pol.C θ) * h = 0) : h = 0 := by
 obtain ⟨n, hn⟩ := h.fin
 have step : ∀ k, k ≤ n → ∀ i, n - k ≤ i → h.c i = 0 := by
  intro k
  induction k with
  | zero => intro _ i hi; exact hn i (by omega)
  | succ k ih =>
   intro hk i hi
   by_cases h1 : n - k ≤ i
   ·exact ih (by omega) i h1
   ·have := c_lin θ h (i + 1)
    rw [e, if_neg (by omega), ih (by omega) (i + 1) (by omega), Gq.mul_zero] at this
    have h2 : h.c i - 0 = h.c i := ring_of [h.c i] rfl
    rw [show i + 1 - 1 = i from rfl, h2] at this
    exact this.symm
 exact Pol.ext fun i => step n (Nat.le_refl n) i (by omega)
theorem lin_root (θ : K) (h : Pol K) : ∀ N, sumR (fun i => ((Pol.X - Pol.C θ) * h).c i * pw θ i) (N + 1) = -(h.c N * pw θ (N + 1))
 | 0 => by
  rw [sumR, sumR, c_lin, if_pos rfl, show pw θ 0 = 1 from rfl, show pw θ (0 + 1) = 1 * θ from rfl]
  exact ring_of [θ, h.c 0] rfl
 | N + 1 => by
  rw [sumR, lin_root θ h N, c_lin, if_neg (by omega), show N + 1 - 1 = N from rfl, show pw θ (N + 1 + 1) = pw θ (N + 1) * θ from rfl]
  exact ring_of [h.c N, h.c (N + 1), pw θ (N + 1), θ] rfl
end
section
variable {p : Int} {m : Fp p}
noncomputable def tau (X : Nat → Quo m) : Nat → Quo m
 | 0 => 0
 | n + 1 => sg 1 (X n)
theorem sg1_0 [IsP p] : sg 1 (0 : Quo m) = 0 := sg_zero 1
theorem sg1_neg [IsP p] (x : Quo m) : sg 1 (-x) = -sg 1 x := neg_of (by rw [← sg1_add, Gq.add_neg, sg1_0])
theorem lop_tau [IsP p] (t0 t1 t2 : Quo m) (X : Nat → Quo m) (n : Nat) : Lop t0 t1 t2 X n = t0 * X n + t1 * tau X n + t2 * tau (tau X) n := by
 match n with
 | 0 => simp only [Lop, tau, Gq.mul_zero, Gq.add_zero]
 | 1 => simp only [Lop, tau, sg1_0, Gq.mul_zero, Gq.add_zero]
 | k + 2 => rfl
theorem tau_rop [IsP p] (t0 t1 t2 : Quo m) (X : Nat → Quo m) (n : Nat) : tau (Rop t0 t1 t2 X) n = Rop t0 t1 t2 (tau X) n := by
 match n with
 | 0 => simp only [Rop, tau, Gq.zero_mul]
 | 1 => simp only [Rop, tau, sg1_mul, Gq.zero_mul, Gq.add_zero]
 | 2 => simp only [Rop, tau, sg1_mul, sg1_add, Gq.zero_mul, Gq.add_zero, sg1_sg]
 | k + 3 => simp only [Rop, tau, sg1_mul, sg1_add, sg1_sg]
noncomputable def Rit (t0 t1 t2 : Quo m) : Nat → (Nat → Quo m) → Nat → Quo m
 | 0, X => X
 | k + 1, X => Rop t0 t1 t2 (Rit t0 t1 t2 k X)
theorem rit_e0 (t0 t1 t2 : Quo m) : ∀ k, Rit t0 t1 t2 k e0 = Rk t0 t1 t2 k
 | 0 => rfl
 | k + 1 => by
  show Rop t0 t1 t2 (Rit t0 t1 t2 k e0) = Rop t0 t1 t2 (Rk t0 t1 t2 k)
  rw [rit_e0 t0 t1 t2 k]
theorem tau_rit [IsP p] (t0 t1 t2 : Quo m) (X : Nat → Quo m) : ∀ k, tau (Rit t0 t1 t2 k X) = Rit t0 t1 t2 k (tau X)
 | 0 => rfl
 | k + 1 => by
  show tau (Rop t0 t1 t2 (Rit t0 t1 t2 k X)) = Rop t0 t1 t2 (Rit t0 t1 t2 k (tau X))
  rw [← tau_rit t0 t1 t2 X k]
  funext n
  exact tau_rop t0 t1 t2 _ n
noncomputable def opP (t0 t1 t2 : Quo m) (f : Pol (Quo m)) (X : Nat → Quo m) (n : Nat) : Quo m := sumR (fun i => f.c i * Rit t0 t1 t2 i X n) f.len
variable {t0 t1 t2 : Quo m}
theorem opP_eq {f : Pol (Quo m)} {N : Nat} (h : f.lt N) (X : Nat → Quo m) (n : Nat) : opP t0 t1 t2 f X n = sumR (fun i => f.c i * Rit t0 t1 t2 i X n) N := by
 obtain ⟨k, rfl⟩ := Nat.exists_eq_add_of_le (Pol.len_le h)
 rw [sumR_more _ f.len fun i hi => by rw [f.lt_len i hi, Gq.zero_mul]]
 rfl
theorem opP_add [IsP p] (f g : Pol (Quo m)) (X : Nat → Quo m) (n : Nat) : opP t0 t1 t2 (f + g) X n = opP t0 t1 t2 f X n + opP t0 t1 t2 g X n := by
 have hf : f.lt (max f.len g.len) := f.lt_len.mono (Nat.le_max_left _ _)
 have hg : g.lt (max f.len g.len) := g.lt_len.mono (Nat.le_max_right _ _)
 rw [opP_eq (Pol.lt_add hf hg), opP_eq hf, opP_eq hg, ← sumR_add]
 exact sumR_congr fun i _ => by rw [Pol.c_add, Gq.add_mul]
theorem opP_Cmul [IsP p] (c : Quo m) (f : Pol (Quo m)) (X : Nat → Quo m) (n : Nat) : opP t0 t1 t2 (Pol.C c * f) X n = c * opP t0 t1 t2 f X n := by
 rw [opP_eq (Pol.lt_Cmul c f.lt_len), opP_eq f.lt_len, ← sumR_mul]
 exact sumR_congr fun i _ => by rw [Pol.c_Cmul, Gq.mul_assoc]
theorem opP_one [IsP p] (X : Nat → Quo m) (n : Nat) : opP t0 t1 t2 1 X n = X n := by
 rw [opP_eq Pol.lt_one]
 show 0 + 1 * X n = X n
 rw [Gq.zero_add, Gq.one_mul]
theorem opP_zero [IsP p] (X : Nat → Quo m) (n : Nat) : opP t0 t1 t2 0 X n = 0 := by
 rw [opP_eq (N := 0) (Pol.lt_zero' 0)]; rfl
theorem opP_C [IsP p] (c : Quo m) (X : Nat → Quo m) (n : Nat) : opP t0 t1 t2 (Pol.C c) X n = c * X n := by
 rw [show Pol.C c = Pol.C c * 1 from (Gq.mul_one _).symm, opP_Cmul, opP_one]
theorem rop_sum (f : Nat → Quo m) (Y : Nat → Nat → Quo m) (n : Nat) : ∀ N, Rop t0 t1 t2 (fun n => sumR (fun i => f i * Y i n) N) n = sumR (fun i => f i * Rop t0 t1 t2 (Y i) n) N
 | 0 => op_zero t0 t1 t2 n
 | N + 1 => by
  show Rop t0 t1 t2 (fun n => sumR (fun i => f i * Y i n) N + f N * Y N n) n = _
  rw [op_add, rop_sum f Y n N, op_smul]
  rfl
theorem opP_X [IsP p] (f : Pol (Quo m)) (Y : Nat → Quo m) (n : Nat) : opP t0 t1 t2 (Pol.X * f) Y n = Rop t0 t1 t2 (opP t0 t1 t2 f Y) n := by
 have h : (Pol.X * f).lt (f.len + 1) := fun i hi => by rw [Pol.c_Xmul, if_neg (by omega), f.lt_len _ (by omega)]
 have e : opP t0 t1 t2 f Y = fun n => sumR (fun i => f.c i * Rit t0 t1 t2 i Y n) f.len := rfl
 rw [opP_eq h, sumR_shift, e, rop_sum]
 show (Pol.X * f).c 0 * _ + _ = _
 rw [Pol.c_Xmul, if_pos rfl, Gq.zero_mul, Gq.zero_add]
 exact sumR_congr fun i _ => by rw [Pol.c_Xmul, if_neg (by omega)]; rfl
theorem opP_mul [IsP p] (g : Pol (Quo m)) (Y : Nat → Quo m) (f : Pol (Quo m)) : ∀ n, opP t0 t1 t2 (f * g) Y n = opP t0 t1 t2 f (opP t0 t1 t2 g Y) n := by
 refine pol_indK (P := fun f => ∀ n, opP t0 t1 t2 (f * g) Y n = opP t0 t1 t2 f (opP t0 t1 t2 g Y) n) ?_ (fun c a ha => ?_) _ f f.lt_len
 ·intro n; rw [Gq.zero_mul, opP_zero, opP_zero]
 ·intro n
  have e : (Pol.C c + Pol.X * a) * g = Pol.C c * g + Pol.X * (a * g) := ring_of [Pol.C c, Pol.X, a, g] rfl
  rw [e, opP_add, opP_Cmul, opP_X, opP_add, opP_C, opP_X, show opP t0 t1 t2 (a * g) Y = opP t0 t1 t2 a (opP t0 t1 t2 g Y) from funext ha]
theorem opP_fun (f : Pol (Quo m)) {X Y Z : Nat → Quo m} (h : ∀ n, Z n = X n + Y n) (n : Nat) : opP t0 t1 t2 f Z n = opP t0 t1 t2 f X n + opP t0 t1 t2 f Y n := by
 have hz : Z = fun n => X n + Y n := funext h
 subst hz
 have key : ∀ i n, Rit t0 t1 t2 i (fun n => X n + Y n) n = Rit t0 t1 t2 i X n + Rit t0 t1 t2 i Y n := by
  intro i
  induction i with
  | zero => intro n; rfl
  | succ i ih =>
   intro n
   show Rop t0 t1 t2 (Rit t0 t1 t2 i (fun n => X n + Y n)) n = _
   rw [show Rit t0 t1 t2 i (fun n => X n + Y n) = fun n => Rit t0 t1 t2 i X n + Rit t0 t1 t2 i Y n from funext ih, op_add]
   rfl
 unfold opP
 rw [← sumR_add]
 exact sumR_congr fun i _ => by rw [key, Gq.mul_add]
noncomputable def polS [IsP p] (f : Pol (Quo m)) : Pol (Quo m) := ⟨fun i => sg 1 (f.c i), by
 obtain ⟨n, h⟩ := f.fin
 exact ⟨n, fun i hi => by rw [h i hi, sg1_0]⟩⟩
theorem polS_c [IsP p] (f : Pol (Quo m)) (i : Nat) : (polS f).c i = sg 1 (f.c i) := rfl
theorem polS_lt [IsP p] {f : Pol (Quo m)} {n : Nat} (h : f.lt n) : (polS f).lt n := fun i hi => by rw [polS_c, h i hi, sg1_0]
theorem polS_add [IsP p] (f g : Pol (Quo m)) : polS (f + g) = polS f + polS g := Pol.ext fun i => by rw [polS_c, Pol.c_add, sg1_add]; rfl
theorem polS_neg [IsP p] (f : Pol (Quo m)) : polS (-f) = -polS f := Pol.ext fun i => by rw [polS_c, Pol.c_neg, sg1_neg]; rfl
theorem cv_sg [IsP p] : ∀ (n : Nat) (f g : Nat → Quo m), sg 1 (cv n f g) = cv n (fun i => sg 1 (f i)) (fun i => sg 1 (g i))
 | 0, f, g => sg1_mul _ _
 | n + 1, f, g => by
  rw [cv, sg1_add, sg1_mul, cv_sg n]
  rfl
theorem polS_mul [IsP p] (f g : Pol (Quo m)) : polS (f * g) = polS f * polS g := Pol.ext fun i => by
 rw [polS_c, Pol.c_mul, cv_sg]; rfl
theorem polS_one [IsP p] : polS (1 : Pol (Quo m)) = 1 := Pol.ext fun i => by
 rw [polS_c, Pol.c_one]
 split
 ·exact sg_one 1
 ·exact sg1_0
theorem polS_zero [IsP p] : polS (0 : Pol (Quo m)) = 0 := Pol.ext fun _i => sg1_0
theorem polS_C [IsP p] (c : Quo m) : polS (Pol.C c) = Pol.C (sg 1 c) := Pol.ext fun i => by
 rw [polS_c, Pol.c_C, Pol.c_C]
 split
 ·rfl
 ·exact sg1_0
theorem polS_X [IsP p] : polS (Pol.X : Pol (Quo m)) = Pol.X := Pol.ext fun i => by
 rw [polS_c, Pol.c_X]
 split
 ·exact sg_one 1
 ·exact sg1_0
theorem sg_sum [IsP p] (f : Nat → Quo m) : ∀ n, sg 1 (sumR f n) = sumR (fun i => sg 1 (f i)) n
 | 0 => sg1_0
 | n + 1 => by rw [sumR, sg1_add, sg_sum f n]; rfl
theorem sumR_zeros {f : Nat → Quo m} : ∀ {n : Nat}, (∀ i, i < n → f i = 0) → sumR f n = 0
 | 0, _ => rfl
 | n + 1, h => by rw [sumR, sumR_zeros fun i hi => h i (by omega), h n (by omega), Gq.add_zero]
theorem tau_op [IsP p] (f : Pol (Quo m)) (Y : Nat → Quo m) : ∀ n, tau (opP t0 t1 t2 f Y) n = opP t0 t1 t2 (polS f) (tau Y) n
 | 0 => by
  rw [opP_eq (polS_lt f.lt_len)]
  refine (sumR_zeros fun i _ => ?_).symm
  rw [← tau_rit]
  show _ * (0 : Quo m) = 0
  rw [Gq.mul_zero]
 | n + 1 => by
  show sg 1 (opP t0 t1 t2 f Y n) = _
  rw [opP_eq (polS_lt f.lt_len), opP_eq f.lt_len, sg_sum]
  exact sumR_congr fun i _ => by
   rw [sg1_mul, ← tau_rit]; rfl
noncomputable def PQ [IsP p] (u v : Pol (Quo m)) : Nat → Pol (Quo m) × Pol (Quo m)
 | 0 => (1, 0)
 | j + 1 => (u * polS (PQ u v j).2, polS (PQ u v j).1 + v * polS (PQ u v j).2)
theorem pq_three [IsP p] {u v : Nat → Pol (Quo m)} (hu : ∀ j, polS (u j) = u (j + 1)) (hv : ∀ j, polS (v j) = v (j + 1)) : ∀ j,
 (PQ (u 0) (v 0) (j + 2)).1 = u j * (PQ (u 0) (v 0) j).1 + v j * (PQ (u 0) (v 0) (j + 1)).1 ∧ (PQ (u 0) (v 0) (j + 2)).2 = u j * (PQ (u 0) (v 0) j).2 + v j * (PQ (u 0) (v 0) (j + 1)).2
 | 0 => by
  simp only [PQ, polS_one, polS_zero, Gq.mul_zero, Gq.add_zero, Gq.mul_one, Gq.zero_add]
  exact ⟨trivial, trivial⟩
 | j + 1 => by
  obtain ⟨h1, h2⟩ := pq_three hu hv j
  have a1 : ∀ k, (PQ (u 0) (v 0) (k + 1)).1 = u 0 * polS (PQ (u 0) (v 0) k).2 := fun _ => rfl
  have a2 : ∀ k, (PQ (u 0) (v 0) (k + 1)).2 = polS (PQ (u 0) (v 0) k).1 + v 0 * polS (PQ (u 0) (v 0) k).2 := fun _ => rfl
  constructor
  ·rw [show j + 1 + 2 = (j + 2) + 1 from rfl, a1 (j + 2), h2, polS_add, polS_mul, polS_mul, hu, hv, a1 (j + 1), a1 j]
   exact ring_of [u 0, u (j + 1), v (j + 1), polS (PQ (u 0) (v 0) j).2, polS (PQ (u 0) (v 0) (j + 1)).2] rfl
  ·have r1 : polS (PQ (u 0) (v 0) (j + 2)).1 = u (j + 1) * polS (PQ (u 0) (v 0) j).1 + v (j + 1) * polS (PQ (u 0) (v 0) (j + 1)).1 := by rw [h1, polS_add, polS_mul, polS_mul, hu, hv]
   have r2 : polS (PQ (u 0) (v 0) (j + 2)).2 = u (j + 1) * polS (PQ (u 0) (v 0) j).2 + v (j + 1) * polS (PQ (u 0) (v 0) (j + 1)).2 := by rw [h2, polS_add, polS_mul, polS_mul, hu, hv]
   rw [show j + 1 + 2 = (j + 2) + 1 from rfl, a2 (j + 2), r1, r2, show (PQ (u 0) (v 0) (j + 1 + 1)).2 = polS (PQ (u 0) (v 0) (j + 1)).1 + v 0 * polS (PQ (u 0) (v 0) (j + 1)).2 from rfl]
   generalize polS (PQ (u 0) (v 0) (j + 1)).1 = S1
   generalize polS (PQ (u 0) (v 0) (j + 1)).2 = S2
   rw [a2 j]
   exact ring_of [v 0, u (j + 1), v (j + 1), polS (PQ (u 0) (v 0) j).2, S2, polS (PQ (u 0) (v 0) j).1, S1] rfl
noncomputable def trF [IsP p] (u v : Pol (Quo m)) (d : Nat) : Pol (Quo m) := (PQ u v d).1 + (PQ u v (d + 1)).2
noncomputable def dtF [IsP p] (u v : Pol (Quo m)) (d : Nat) : Pol (Quo m) := (PQ u v d).1 * (PQ u v (d + 1)).2 - (PQ u v d).2 * (PQ u v (d + 1)).1
theorem dtF_zero [IsP p] (u v : Pol (Quo m)) : dtF u v 0 = 1 := by
 unfold dtF
 simp only [PQ, polS_one, polS_zero]
 exact ring_of [u, v] rfl
theorem polS_sub [IsP p] (f g : Pol (Quo m)) : polS (f - g) = polS f - polS g := by rw [Gq.sub_eq, polS_add, polS_neg, ← Gq.sub_eq]
theorem dtF_left [IsP p] (u v : Pol (Quo m)) (j : Nat) : dtF u v (j + 1) = -(u * polS (dtF u v j)) := by
 have key : polS (dtF u v j) = polS (PQ u v j).1 * polS (PQ u v (j + 1)).2 - polS (PQ u v j).2 * polS (PQ u v (j + 1)).1 := by
  unfold dtF; rw [polS_sub, polS_mul, polS_mul]
 have l1 : dtF u v (j + 1) = (PQ u v (j + 1)).1 * (polS (PQ u v (j + 1)).1 + v * polS (PQ u v (j + 1)).2) - (PQ u v (j + 1)).2 * (u * polS (PQ u v (j + 1)).2) := rfl
 rw [l1, key]
 generalize polS (PQ u v (j + 1)).1 = S1
 generalize polS (PQ u v (j + 1)).2 = S2
 rw [show (PQ u v (j + 1)).1 = u * polS (PQ u v j).2 from rfl, show (PQ u v (j + 1)).2 = polS (PQ u v j).1 + v * polS (PQ u v j).2 from rfl]
 exact ring_of [u, v, S1, S2, polS (PQ u v j).1, polS (PQ u v j).2] rfl
theorem dtF_right [IsP p] {u v : Nat → Pol (Quo m)} (hu : ∀ j, polS (u j) = u (j + 1)) (hv : ∀ j, polS (v j) = v (j + 1)) (j : Nat) : dtF (u 0) (v 0) (j + 1) = -(u j * dtF (u 0) (v 0) j) := by
 obtain ⟨h1, h2⟩ := pq_three hu hv j
 unfold dtF
 rw [show j + 1 + 1 = j + 2 from rfl, h1, h2]
 exact ring_of [u j, v j, (PQ (u 0) (v 0) j).1, (PQ (u 0) (v 0) j).2, (PQ (u 0) (v 0) (j + 1)).1, (PQ (u 0) (v 0) (j + 1)).2] rfl
theorem neg_inj {R : Type} [CR R] {a b : R} (h : -a = -b) : a = b := by rw [← Gq.neg_neg a, h, Gq.neg_neg]
theorem trF_fix [IsP p] {u v : Nat → Pol (Quo m)} (hu : ∀ j, polS (u j) = u (j + 1)) (hv : ∀ j, polS (v j) = v (j + 1)) (hc : ∀ f g : Pol (Quo m), u 0 * f = u 0 * g → f = g) {d : Nat} (ud : u d = u 0) (vd : v d = v 0) : polS (trF (u 0) (v 0) d) = trF (u 0) (v 0) d := by
 obtain ⟨h1, -⟩ := pq_three hu hv d
 have a1 : ∀ k, (PQ (u 0) (v 0) (k + 1)).1 = u 0 * polS (PQ (u 0) (v 0) k).2 := fun _ => rfl
 have a2 : ∀ k, (PQ (u 0) (v 0) (k + 1)).2 = polS (PQ (u 0) (v 0) k).1 + v 0 * polS (PQ (u 0) (v 0) k).2 := fun _ => rfl
 rw [ud, vd, a1 (d + 1), a1 d] at h1
 have h2 : polS (PQ (u 0) (v 0) (d + 1)).2 = (PQ (u 0) (v 0) d).1 + v 0 * polS (PQ (u 0) (v 0) d).2 := by
  refine hc _ _ (h1.trans ?_)
  exact ring_of [u 0, v 0, (PQ (u 0) (v 0) d).1, polS (PQ (u 0) (v 0) d).2] rfl
 unfold trF
 rw [polS_add, h2, a2 d]
 exact ring_of [v 0, (PQ (u 0) (v 0) d).1, polS (PQ (u 0) (v 0) d).2, polS (PQ (u 0) (v 0) d).1] rfl
theorem dtF_fix [IsP p] {u v : Nat → Pol (Quo m)} (hu : ∀ j, polS (u j) = u (j + 1)) (hv : ∀ j, polS (v j) = v (j + 1)) (hc : ∀ f g : Pol (Quo m), u 0 * f = u 0 * g → f = g) {d : Nat} (ud : u d = u 0) : polS (dtF (u 0) (v 0) d) = dtF (u 0) (v 0) d := by
 have h1 := dtF_left (u 0) (v 0) d
 have h2 := dtF_right hu hv d
 rw [ud] at h2
 exact hc _ _ (neg_inj (h1.symm.trans h2))
theorem pq_lt [IsP p] {u v : Pol (Quo m)} (hu : u.lt 2) (hv : v.lt 1) : ∀ j, (PQ u v j).1.lt (j / 2 + 1) ∧ (PQ u v j).2.lt ((j + 1) / 2)
 | 0 => ⟨Pol.lt_one, Pol.lt_zero' _⟩
 | j + 1 => by
  obtain ⟨h1, h2⟩ := pq_lt hu hv j
  refine ⟨(Pol.lt_mul hu (polS_lt h2)).mono (by omega), Pol.lt_add ((polS_lt h1).mono (by omega)) ((Pol.lt_mul hv (polS_lt h2)).mono (by omega))⟩
theorem trF_lt [IsP p] {u v : Pol (Quo m)} (hu : u.lt 2) (hv : v.lt 1) (d : Nat) : (trF u v d).lt (d / 2 + 1) :=
 Pol.lt_add (pq_lt hu hv d).1 ((pq_lt hu hv (d + 1)).2.mono (by omega))
noncomputable def tauN : Nat → (Nat → Quo m) → Nat → Quo m
 | 0, X => X
 | k + 1, X => tau (tauN k X)
theorem tauN_val [IsP p] (X : Nat → Quo m) : ∀ k n, tauN k X n = if n < k then 0 else sg k (X (n - k))
 | 0, n => by rw [if_neg (by omega)]; rfl
 | k + 1, 0 => by rw [if_pos (by omega)]; rfl
 | k + 1, n + 1 => by
  show sg 1 (tauN k X n) = _
  rw [tauN_val X k n]
  by_cases h : n < k
  ·rw [if_pos h, if_pos (by omega), sg1_0]
  ·rw [if_neg h, if_neg (by omega), sg1_sg, show n + 1 - (k + 1) = n - k by omega]
theorem tauN_pq [IsP p] {u v : Pol (Quo m)} (h : ∀ n, tau (tau e0) n = opP t0 t1 t2 u e0 n + opP t0 t1 t2 v (tau e0) n) : ∀ j n, tauN j e0 n = opP t0 t1 t2 (PQ u v j).1 e0 n + opP t0 t1 t2 (PQ u v j).2 (tau e0) n
 | 0, n => by
  show e0 n = opP t0 t1 t2 1 e0 n + opP t0 t1 t2 0 (tau e0) n
  rw [opP_one, opP_zero, Gq.add_zero]
 | j + 1, n => by
  have ih := tauN_pq h j
  show tau (tauN j e0) n = _
  have e1 : ∀ n, tau (tauN j e0) n = tau (opP t0 t1 t2 (PQ u v j).1 e0) n + tau (opP t0 t1 t2 (PQ u v j).2 (tau e0)) n := by
   intro n
   cases n with
   | zero => show (0 : Quo m) = 0 + 0; rw [Gq.add_zero]
   | succ n => show sg 1 _ = sg 1 _ + sg 1 _; rw [ih n, sg1_add]
  rw [e1, tau_op, tau_op, opP_fun _ h]
  show _ = opP t0 t1 t2 (u * polS (PQ u v j).2) e0 n + opP t0 t1 t2 (polS (PQ u v j).1 + v * polS (PQ u v j).2) (tau e0) n
  rw [show u * polS (PQ u v j).2 = polS (PQ u v j).2 * u from Gq.mul_comm _ _, show v * polS (PQ u v j).2 = polS (PQ u v j).2 * v from Gq.mul_comm _ _, opP_add, opP_mul, opP_mul]
  exact ring_of [opP t0 t1 t2 (polS (PQ u v j).1) (tau e0) n, opP t0 t1 t2 (polS (PQ u v j).2) (opP t0 t1 t2 u e0) n, opP t0 t1 t2 (polS (PQ u v j).2) (opP t0 t1 t2 v (tau e0)) n] rfl
theorem tauN_op [IsP p] {d : Nat} (hd : ∀ x : Quo m, sg d x = x) (f : Pol (Quo m)) (Y : Nat → Quo m) (n : Nat) : tauN d (opP t0 t1 t2 f Y) n = opP t0 t1 t2 f (tauN d Y) n := by
 have key : ∀ i, tauN d (Rit t0 t1 t2 i Y) = Rit t0 t1 t2 i (tauN d Y) := by
  intro i
  clear hd
  induction d with
  | zero => rfl
  | succ d ih =>
   show tau (tauN d _) = Rit t0 t1 t2 i (tau (tauN d Y))
   rw [ih, tau_rit]
 rw [tauN_val]
 unfold opP
 by_cases h : n < d
 ·rw [if_pos h]
  refine (sumR_zeros fun i _ => ?_).symm
  rw [← key, tauN_val, if_pos h, Gq.mul_zero]
 ·rw [if_neg h, hd]
  exact sumR_congr fun i _ => by rw [← key, tauN_val, if_neg h, hd]
theorem tauN_tauN (a b : Nat) (X : Nat → Quo m) : tauN a (tauN b X) = tauN (a + b) X := by
 induction a with
 | zero => rw [Nat.zero_add]; rfl
 | succ a ih =>
  show tau (tauN a (tauN b X)) = _
  rw [ih, show a + 1 + b = (a + b) + 1 by omega]
  rfl
theorem frob_cayley [IsP p] {u v : Pol (Quo m)} (h : ∀ n, tau (tau e0) n = opP t0 t1 t2 u e0 n + opP t0 t1 t2 v (tau e0) n) {d : Nat} (hd : ∀ x : Quo m, sg d x = x) (n : Nat) :
 tauN (d + d) e0 n - opP t0 t1 t2 (trF u v d) (tauN d e0) n + opP t0 t1 t2 (dtF u v d) e0 n = 0 := by
 have e1 := tauN_pq h d
 have e2 := tauN_pq h (d + 1)
 have e3 : ∀ n, tauN d (tauN d e0) n = opP t0 t1 t2 (PQ u v d).1 (tauN d e0) n + opP t0 t1 t2 (PQ u v d).2 (tauN d (tau e0)) n := by
  intro n
  rw [← tauN_op hd, ← tauN_op hd, tauN_val (tauN d e0) d n, tauN_val (opP t0 t1 t2 (PQ u v d).1 e0) d n, tauN_val (opP t0 t1 t2 (PQ u v d).2 (tau e0)) d n]
  split
  ·rw [Gq.add_zero]
  ·rw [hd, hd, hd, e1]
 have e4 : tauN d (tau e0) = tauN (d + 1) (e0 : Nat → Quo m) := by
  rw [show (tau e0 : Nat → Quo m) = tauN 1 e0 from rfl, tauN_tauN]
 rw [← tauN_tauN, e3, e4, opP_fun _ e1, opP_fun _ e2, opP_fun _ e1]
 rw [← opP_mul, ← opP_mul, ← opP_mul, ← opP_mul, ← opP_mul, ← opP_mul]
 unfold trF dtF
 generalize (PQ u v d).1 = P
 generalize (PQ u v d).2 = Q
 generalize (PQ u v (d + 1)).1 = R
 generalize (PQ u v (d + 1)).2 = S
 rw [show (P + S) * P = P * P + P * S from ring_of [P, S] rfl, show (P + S) * Q = P * Q + Q * S from ring_of [P, Q, S] rfl, Gq.sub_eq (P * S), opP_add, opP_add, opP_add]
 have hn : ∀ f : Pol (Quo m), opP t0 t1 t2 (-f) e0 n = -opP t0 t1 t2 f e0 n := fun f => neg_of (by rw [← opP_add, Gq.add_neg, opP_zero])
 rw [hn]
 exact ring_of [opP t0 t1 t2 (P * P) e0 n, opP t0 t1 t2 (P * Q) (tau e0) n, opP t0 t1 t2 (Q * R) e0 n, opP t0 t1 t2 (Q * S) (tau e0) n, opP t0 t1 t2 (P * S) e0 n] rfl
end
end Pe

namespace Pe
open Go Gq
section
variable {p : Int} {m : Fp p}
theorem mk_sum : ∀ (N : Nat) (a : Fp p), a.lt N → Quo.mk m a = sumR (fun i => Quo.mk m (Pol.C (a.c i)) * pw (Quo.mk m Pol.X) i) N
 | 0, a, h => by rw [Pol.lt_zero.1 h]; rfl
 | N + 1, a, h => by
  obtain ⟨k, hk⟩ := a.fin
  let b : Fp p := ⟨fun i => a.c (i + 1), k, fun i hi => hk _ (by omega)⟩
  have e : a = Pol.C (a.c 0) + Pol.X * b := Pol.ext fun i => by
   rw [Pol.c_add, Pol.c_C, Pol.c_Xmul]
   cases i with
   | zero => rw [if_pos rfl, if_pos rfl, Gq.add_zero]
   | succ i => rw [if_neg (by omega), if_neg (by omega), Gq.zero_add]; rfl
  have ih := mk_sum N b fun i hi => h _ (by omega)
  rw [sumR_shift]
  have e2 : Quo.mk m a = Quo.mk m (Pol.C (a.c 0)) + Quo.mk m Pol.X * Quo.mk m b := by rw [← Quo.mk_mul, ← Quo.mk_add, ← e]
  rw [e2, ih, ← sumR_mul]
  show _ = Quo.mk m (Pol.C (a.c 0)) * 1 + _
  rw [Gq.mul_one]
  congr 1
  exact sumR_congr fun i _ => by
   show Quo.mk m Pol.X * (Quo.mk m (Pol.C (a.c (i + 1))) * pw (Quo.mk m Pol.X) i) = Quo.mk m (Pol.C (a.c (i + 1))) * (pw (Quo.mk m Pol.X) i * Quo.mk m Pol.X)
   exact ring_of [Quo.mk m Pol.X, Quo.mk m (Pol.C (a.c (i + 1))), pw (Quo.mk m Pol.X) i] rfl
theorem const_ex [IsP p] (hm : Fld m) {x : Quo m} (h : sg 1 x = x) : ∃ c : Zp p, x = Quo.mk m (Pol.C c) := by
 obtain ⟨a, rfl⟩ := Quo.ex x
 have h0 := hm.mon.2
 have e : Quo.mk m (a % m) = Quo.mk m a := Pol.mk_mod a m
 have h1 := fix_const hm (Pol.len_mod a h0) (by rw [e]; exact h)
 exact ⟨(a % m).c 0, by rw [← e, ← Pol.eq_C (Pol.lt_iff.2 h1)]⟩
theorem descend [IsP p] (hm : Fld m) {f : Pol (Quo m)} (h : polS f = f) {N : Nat} (hN : f.lt N) : ∃ a : Fp p, a.lt N ∧ ∀ i, f.c i = Quo.mk m (Pol.C (a.c i)) := by
 have hc : ∀ i, ∃ c : Zp p, f.c i = Quo.mk m (Pol.C c) := fun i => const_ex hm (congrArg (fun g => Pol.c g i) h)
 refine ⟨⟨fun i => if i < N then Classical.choose (hc i) else 0, N, fun i hi => if_neg (by omega)⟩, fun i hi => if_neg (by omega), fun i => ?_⟩
 show _ = Quo.mk m (Pol.C (if i < N then Classical.choose (hc i) else 0))
 by_cases hi : i < N
 ·rw [if_pos hi]; exact Classical.choose_spec (hc i)
 ·rw [if_neg hi, hN i (by omega), Pol.C_zero]; rfl
theorem mkC_inj [IsP p] (hm : Fld m) {a b : Zp p} (h : Quo.mk m (Pol.C a) = Quo.mk m (Pol.C b)) : a = b := by
 have h2 := hm.two
 have e := (Pol.mod_eq_iff hm.mon.2).2 h
 have hl : ∀ c : Zp p, (Pol.C c).len < m.len := fun c => by have := const_len c; omega
 rw [Pol.mod_small (hl a), Pol.mod_small (hl b)] at e
 exact Pol.C_inj e
theorem sg_full [IsP p] (hm : Fld m) (x : Quo m) : sg (m.len - 1) x = x := by
 obtain ⟨a, rfl⟩ := Quo.ex x
 have h0 := hm.mon.2
 rw [← Pol.mk_mod a m, ← sg_mk, ← frIt_mod hm _ (Pol.len_mod a h0), Nat.mod_self]
 rfl
theorem sg_mul_k (k : Nat) : ∀ x y : Quo m, sg k (x * y) = sg k x * sg k y := by
 induction k with
 | zero => intro x y; rfl
 | succ k ih => intro x y; rw [sg_succ, sg_succ, sg_succ, ih]; exact pw_mul _ _ _
end
structure FrobSaid {p : Int} [IsP p] (m g d : Fp p) : Prop where
 lt : (frA m g d).lt ((m.len - 1) / 2 + 1)
 eq : ∀ n, (if n = 2 * (m.len - 1) then 1 else 0) - (if n < m.len - 1 then 0 else sumR (fun i => Quo.mk m (Pol.C ((frA m g d).c i)) * Rk (Quo.mk m Pol.X) (Quo.mk m g) (Quo.mk m d) i (n - (m.len - 1))) ((m.len - 1) / 2 + 1)) + sumR (fun i => Quo.mk m (Pol.C ((frB m d).c i)) * Rk (Quo.mk m Pol.X) (Quo.mk m g) (Quo.mk m d) i n) m.len = 0
section
variable {p : Int} {m g d : Fp p}
theorem tauN_e0 [IsP p] (k n : Nat) : tauN k (e0 : Nat → Quo m) n = if n = k then 1 else 0 := by
 rw [tauN_val]
 by_cases h : n < k
 ·rw [if_pos h, if_neg (by omega)]
 ·rw [if_neg h]
  by_cases h2 : n = k
  ·rw [if_pos h2, show n - k = 0 by omega]; exact sg_one k
  ·rw [if_neg h2, show n - k = (n - k - 1) + 1 by omega]; exact sg_zero k
theorem rk_at0 (t0 t1 t2 : Quo m) : ∀ k, Rk t0 t1 t2 k 0 = pw t0 k
 | 0 => rfl
 | k + 1 => by
  show Rk t0 t1 t2 k 0 * t0 = pw t0 k * t0
  rw [rk_at0 t0 t1 t2 k]
theorem hsum_sumR (t0 t1 t2 : Quo m) (c : Nat → Quo m) (n : Nat) : ∀ N, hsum t0 t1 t2 c 0 N n = sumR (fun i => c i * Rk t0 t1 t2 i n) N
 | 0 => rfl
 | N + 1 => by rw [hsum_snoc, hsum_sumR t0 t1 t2 c n N, Nat.zero_add]; rfl
theorem frob_said [IsP p] (hm : Fld m) (hg : g.len < m.len) (hd : d.len < m.len) (hd0 : d ≠ 0) : FrobSaid m g d := by
 have h2 := hm.two
 have h0 := hm.mon.2
 -- the inverse of the last coefficient
 obtain ⟨w, hw⟩ : ∃ w : Quo m, Quo.mk m d * w = 1 := by
  have := invm_ok hm hd0 hd
  exact hm.irr.quo_inv fun h => hd0 (by
   have e := (Pol.mod_eq_iff h0).2 (show Quo.mk m d = Quo.mk m 0 from h)
   rwa [Pol.mod_small hd, Pol.zero_mod h0] at e)
 generalize hθ : Quo.mk m Pol.X = θ
 generalize hG : Quo.mk m g = G
 generalize hD : Quo.mk m d = D at *
 let D0 := m.len - 1
 let u : Nat → Pol (Quo m) := fun j => Pol.C (sg j w) * (Pol.X - Pol.C (sg j θ))
 let v : Nat → Pol (Quo m) := fun j => Pol.C (sg j (-(w * G)))
 have hu : ∀ j, polS (u j) = u (j + 1) := fun j => by
  show polS (Pol.C (sg j w) * (Pol.X - Pol.C (sg j θ))) = Pol.C (sg (j + 1) w) * (Pol.X - Pol.C (sg (j + 1) θ))
  rw [polS_mul, Gq.sub_eq, polS_add, polS_neg, polS_C, polS_C, polS_X, sg1_sg, sg1_sg, ← Gq.sub_eq]
 have hv : ∀ j, polS (v j) = v (j + 1) := fun j => by
  show polS (Pol.C (sg j (-(w * G)))) = _
  rw [polS_C, sg1_sg]
 have hc : ∀ f k : Pol (Quo m), u 0 * f = u 0 * k → f = k := fun f k e => by
  have e1 : (Pol.X - Pol.C θ) * (f - k) = Pol.C D * (u 0 * f) - Pol.C D * (u 0 * k) := by
   have e2 : (Pol.X - Pol.C θ) = (Pol.C D * Pol.C w) * (Pol.X - Pol.C θ) := by rw [← Pol.C_mul, hw, Pol.C_one, Gq.one_mul]
   rw [e2]
   show Pol.C D * Pol.C w * (Pol.X - Pol.C θ) * (f - k) = Pol.C D * (Pol.C w * (Pol.X - Pol.C θ) * f) - Pol.C D * (Pol.C w * (Pol.X - Pol.C θ) * k)
   exact ring_of [Pol.C D, Pol.C w, Pol.X, Pol.C θ, f, k] rfl
  rw [e, Gq.sub_self] at e1
  exact eq_of_sub (lin_cancel e1)
 have hfull := sg_full (m := m) hm
 have ud : u D0 = u 0 := by show Pol.C (sg (m.len - 1) w) * (Pol.X - Pol.C (sg (m.len - 1) θ)) = _; rw [hfull, hfull]; rfl
 have vd : v D0 = v 0 := by show Pol.C (sg (m.len - 1) _) = _; rw [hfull]; rfl
 have htt : ∀ n, tau (tau e0) n = opP θ G D (u 0) e0 n + opP θ G D (v 0) (tau e0) n := fun n => by
  have e1 : Lop θ G D e0 n = Rop θ G D e0 n := op_e0 θ G D n
  rw [lop_tau] at e1
  have e2 : opP θ G D (u 0) e0 n = w * (Rop θ G D e0 n - θ * e0 n) := by
   show opP θ G D (Pol.C w * (Pol.X - Pol.C θ)) e0 n = _
   rw [opP_Cmul, Gq.sub_eq, opP_add, ← Pol.C_neg, opP_C, show (Pol.X : Pol (Quo m)) = Pol.X * 1 from (Gq.mul_one _).symm, opP_X, show opP θ G D 1 e0 = e0 from funext fun n => opP_one e0 n]
   exact ring_of [w, Rop θ G D e0 n, θ, e0 n] rfl
  have e3 : opP θ G D (v 0) (tau e0) n = -(w * G) * tau e0 n := opP_C _ _ n
  rw [e2, e3, ← e1]
  have e4 : w * (θ * e0 n + G * tau e0 n + D * tau (tau e0) n - θ * e0 n) + -(w * G) * tau e0 n = (D * w) * tau (tau e0) n := ring_of [w, θ, G, D, e0 n, tau e0 n, tau (tau e0) n] rfl
  rw [e4, hw, Gq.one_mul]
 have cay := frob_cayley htt hfull
 have hu2 : (u 0).lt 2 := Pol.lt_Cmul _ (Pol.lt_sub Pol.lt_X ((Pol.lt_C _).mono (by omega)))
 obtain ⟨a, ha, hac⟩ := descend hm (trF_fix hu hv hc ud vd) (trF_lt hu2 (Pol.lt_C _) D0)
 -- the determinant
 have dlt : ∀ j, (dtF (u 0) (v 0) j).lt (j + 1) := by
  intro j
  induction j with
  | zero => rw [dtF_zero]; exact Pol.lt_one
  | succ j ih =>
   rw [dtF_right hu hv]
   exact Pol.lt_neg ((Pol.lt_mul (Pol.lt_Cmul _ (Pol.lt_sub Pol.lt_X ((Pol.lt_C _).mono (by omega)))) ih).mono (by omega))
 have dtop : ∀ j, (dtF (u 0) (v 0) j).c j * Quo.mk m (nmS m d j) = if j % 2 = 1 then -1 else 1 := by
  intro j
  induction j with
  | zero => rw [dtF_zero]; show (1 : Quo m) * 1 = _; rw [Gq.mul_one]; rfl
  | succ j ih =>
   have e1 : Quo.mk m (nmS m d (j + 1)) = Quo.mk m (nmS m d j) * sg j D := by
    show Quo.mk m (nmS m d j * frIt m j d % m) = _
    rw [Pol.mk_mod, Quo.mk_mul, sg_mk, hD]
   have e2 : (dtF (u 0) (v 0) (j + 1)).c (j + 1) = -(sg j w * (dtF (u 0) (v 0) j).c j) := by
    rw [dtF_right hu hv, Pol.c_neg]
    show -((Pol.C (sg j w) * (Pol.X - Pol.C (sg j θ))) * dtF (u 0) (v 0) j).c (j + 1) = _
    rw [Gq.mul_assoc, Pol.c_Cmul, c_lin, if_neg (by omega), dlt j (j + 1) (Nat.le_refl _), show j + 1 - 1 = j from rfl]
    exact ring_of [sg j w, sg j θ, (dtF (u 0) (v 0) j).c j] rfl
   have e3 : sg j D * sg j w = 1 := by rw [← sg_mul_k, hw, sg_one]
   have e4 : -(sg j w * (dtF (u 0) (v 0) j).c j) * (Quo.mk m (nmS m d j) * sg j D) = -((sg j D * sg j w) * ((dtF (u 0) (v 0) j).c j * Quo.mk m (nmS m d j))) := ring_of [sg j w, sg j D, (dtF (u 0) (v 0) j).c j, Quo.mk m (nmS m d j)] rfl
   rw [e1, e2, e4, e3, ih, Gq.one_mul]
   by_cases h : j % 2 = 1
   ·rw [if_pos h, if_neg (by omega), Gq.neg_neg]
   ·rw [if_neg h, if_pos (by omega)]
 obtain ⟨b, hb, hbc⟩ := descend hm (dtF_fix hu hv hc ud) (dlt D0)
 -- the root
 have hroot : Quo.mk m b = 0 := by
  obtain ⟨j, hj⟩ : ∃ j, D0 = j + 1 := ⟨D0 - 1, by show m.len - 1 = _; omega⟩
  have e1 := dtF_left (u 0) (v 0) j
  have e2 : dtF (u 0) (v 0) D0 = (Pol.X - Pol.C θ) * (-(Pol.C w * polS (dtF (u 0) (v 0) j))) := by
   rw [hj, e1]
   show -(Pol.C w * (Pol.X - Pol.C θ) * polS (dtF (u 0) (v 0) j)) = _
   exact ring_of [Pol.C w, Pol.X, Pol.C θ, polS (dtF (u 0) (v 0) j)] rfl
  rw [mk_sum (D0 + 1) b hb, hθ]
  have e3 : sumR (fun i => Quo.mk m (Pol.C (b.c i)) * pw θ i) (D0 + 1) = sumR (fun i => ((Pol.X - Pol.C θ) * (-(Pol.C w * polS (dtF (u 0) (v 0) j)))).c i * pw θ i) (D0 + 1) :=
   sumR_congr fun i _ => by rw [← e2, hbc]
  rw [e3, lin_root]
  have e4 : (-(Pol.C w * polS (dtF (u 0) (v 0) j))).c D0 = 0 :=
   Pol.lt_neg (Pol.lt_Cmul _ (polS_lt (dlt j))) D0 (by omega)
  rw [e4, Gq.zero_mul, Gq.neg_zero]
 obtain ⟨q, hq⟩ := dv_iff_mk.2 hroot
 have hN := norm_const hm hd0 hd
 have hbtop : Quo.mk m (Pol.C (b.c D0)) * Quo.mk m (Pol.C ((nmS m d D0).c 0)) = if D0 % 2 = 1 then -1 else 1 := by
  rw [← hbc, ← dtop D0, ← Pol.eq_C (Pol.lt_iff.2 (Nat.le_of_eq hN.1))]
 have hbk : b.c D0 = zp p (frK m d) := by
  have e := finv_rep (p := p) ((nmS m d (m.len - 1)).c 0) hN.2
  have hk : zp p (frK m d) = if D0 % 2 = 1 then -Fd.inv ((nmS m d (m.len - 1)).c 0) else Fd.inv ((nmS m d (m.len - 1)).c 0) := by
   unfold frK
   show zp p (if (m.len - 1) % 2 = 1 then _ else _) = if (m.len - 1) % 2 = 1 then _ else _
   split
   ·rw [zp_neg, e]
   ·rw [e]
  have hmi := Fd.mul_inv _ hN.2
  rw [← Quo.mk_mul, ← Pol.C_mul] at hbtop
  have h1 : b.c D0 * (nmS m d D0).c 0 = if D0 % 2 = 1 then -1 else 1 := by
   refine mkC_inj hm (hbtop.trans ?_)
   split
   ·rw [Pol.C_neg, Pol.C_one]; rfl
   ·rw [Pol.C_one]; rfl
  have h3 : b.c D0 = (b.c D0 * (nmS m d D0).c 0) * Fd.inv ((nmS m d (m.len - 1)).c 0) := by
   rw [Gq.mul_assoc, hmi, Gq.mul_one]
  rw [h3, h1, hk]
  split
  ·rw [Gq.neg_mul, Gq.one_mul]
  ·rw [Gq.one_mul]
 have hbB : b = frB m d := by
  have hmtop : m.c D0 = 1 := hm.mon.1
  have hq1 : q.lt 1 := by
   by_cases hq0 : q = 0
   ·rw [hq0]; exact Pol.lt_zero' 1
   ·have := Pol.len_mul h0 hq0
    rw [← hq] at this
    have hbl := Pol.lt_iff.1 hb
    exact Pol.lt_iff.2 (by show q.len ≤ 1; have : D0 = m.len - 1 := rfl; omega)
  have hqc : q = Pol.C (q.c 0) := Pol.eq_C hq1
  have e1 : b.c D0 = q.c 0 := by
   rw [hq, hqc, Gq.mul_comm, Pol.c_Cmul, hmtop, Gq.mul_one]
   rfl
  unfold frB
  rw [← hbk, e1, ← hqc, hq, Gq.mul_comm]
 -- coefficients
 have lenD : D0 = m.len - 1 := rfl
 have eqn : ∀ n, (if n = 2 * D0 then 1 else 0) - (if n < D0 then 0 else sumR (fun i => Quo.mk m (Pol.C (a.c i)) * Rk θ G D i (n - D0)) (D0 / 2 + 1)) + sumR (fun i => Quo.mk m (Pol.C ((frB m d).c i)) * Rk θ G D i n) m.len = 0 := fun n => by
  have e := cay n
  rw [tauN_e0] at e
  have e1 : opP θ G D (trF (u 0) (v 0) D0) (tauN D0 e0) n = if n < D0 then 0 else sumR (fun i => Quo.mk m (Pol.C (a.c i)) * Rk θ G D i (n - D0)) (D0 / 2 + 1) := by
   rw [← tauN_op hfull, tauN_val]
   split
   ·rfl
   ·rw [hfull, opP_eq (trF_lt hu2 (Pol.lt_C _) D0)]
    exact sumR_congr fun i _ => by rw [hac, rit_e0]
  have e2 : opP θ G D (dtF (u 0) (v 0) D0) e0 n = sumR (fun i => Quo.mk m (Pol.C ((frB m d).c i)) * Rk θ G D i n) m.len := by
   rw [opP_eq (dlt D0), show D0 + 1 = m.len by omega]
   exact sumR_congr fun i _ => by rw [hbc, hbB, rit_e0]
  rw [show m.len - 1 + (m.len - 1) = 2 * D0 by omega] at e
  rw [show m.len - 1 = D0 from rfl, e1, e2] at e
  exact e
 have hA : a = frA m g d := by
  have e := eqn D0
  rw [if_neg (by omega), if_neg (by omega), Nat.sub_self] at e
  have e1 : sumR (fun i => Quo.mk m (Pol.C (a.c i)) * Rk θ G D i 0) (D0 / 2 + 1) = Quo.mk m a := by
   rw [mk_sum _ a ha, hθ]
   exact sumR_congr fun i _ => by rw [rk_at0]
  have e2 : sumR (fun i => Quo.mk m (Pol.C ((frB m d).c i)) * Rk θ G D i D0) m.len = Quo.mk m (frA m g d) := by
   have h3 := actN_q hm (mem3 (Pol.len_mod Pol.X h0) hg hd) (frB m d) (frB m d).len (frB m d).len (Nat.le_refl _)
   have h4 := congrFun h3 D0
   rw [hsum_sumR, Pol.mk_mod, hθ, hG, hD] at h4
   have h5 : qcf m (actN m (Pol.X % m) g d (frB m d) (frB m d).len (frB m d).len) D0 = Quo.mk m (frA m g d) := rfl
   rw [h5] at h4
   rw [h4]
   obtain ⟨k, hk⟩ := Nat.exists_eq_add_of_le (frB_len (m := m) (d := d))
   rw [hk, sumR_more _ _ fun i hi => by rw [(frB m d).lt_len i hi, Pol.C_zero, Quo.mk_zero, Gq.zero_mul]]
   exact sumR_congr fun i _ => by rw [Nat.sub_self, Nat.zero_add]
  rw [e1, e2] at e
  have e3 : Quo.mk m a = Quo.mk m (frA m g d) := by
   have e4 : Quo.mk m a = Quo.mk m (frA m g d) - (0 - Quo.mk m a + Quo.mk m (frA m g d)) := ring_of [Quo.mk m a, Quo.mk m (frA m g d)] rfl
   rw [e4, e]
   exact ring_of [Quo.mk m (frA m g d)] rfl
  have e5 := (Pol.mod_eq_iff h0).2 e3
  have l1 : a.len < m.len := by have := Pol.lt_iff.1 ha; omega
  have l2 : (frA m g d).len < m.len := by
   have := mem_cS (A := actN m (Pol.X % m) g d (frB m d) (frB m d).len (frB m d).len) (N := m.len - 1) (fun c hc => by have := actN_lens hm _ _ _ _ _ _ c hc; omega) (m.len - 1)
   unfold frA
   omega
  rwa [Pol.mod_small l1, Pol.mod_small l2] at e5
 subst hθ hG
 exact ⟨by rw [← hA]; exact ha, by rw [← hA, hD]; exact eqn⟩
end
end Pe

namespace Pe
open Go Gq
variable {T : Nat → Option Fn} {A : Oracle}
theorem l_eqI {O : Oracle} {l : List Int} (hl : l.length < 1000000) : ∀ (k i : Nat), i + k = l.length →
 dn O 0 (.loop Z1t_L0) ⟨[(0, (.d (.sl .leaf (ints .i64 l)))), (1, (.d (.sl .leaf (ints .i64 l)))), (5, (.d (.int .i64 i)))], []⟩ = some (.exit 0, ⟨[(0, (.d (.sl .leaf (ints .i64 l)))), (1, (.d (.sl .leaf (ints .i64 l)))), (5, (.d (.int .i64 l.length))), (14, (.d (.bool false)))], []⟩)
 | 0, i, hi => by
  obtain rfl : i = l.length := by omega
  exact dn_stop (by simp -implicitDefEqProofs [Z1t_L0, dn_cond])
 | k + 1, i, hi => by
  have hlt : i < l.length := by omega
  have hx : l[i] = cf l i := (cf_lt hlt).symm
  have w4 : IntKind.i64.wrap ((i : Int) + 1) = ((i + 1 : Nat) : Int) := (w64 (x := (i : Int) + 1) (by omega)).trans (by omega)
  refine dn_round ?_ (l_eqI hl k (i + 1) (by omega))
  simp -implicitDefEqProofs [Z1t_L0, dn_cond, hlt, hx, w4]
def C_eqI (O : Oracle) : Prop := ∀ l : List Int, l.length < 1000000 → ask O F1t [(D.sl .leaf (ints .i64 l)), (D.sl .leaf (ints .i64 l))] = some (D.bool true)
theorem c_eqI (hT : T F1t = some Z1t) : C_eqI (den T A) := by
 intro l hl
 have e := l_eqI (O := den T A) hl l.length 0 (Nat.zero_add _)
 have e00 : ((0 : Nat) : Int) = 0 := rfl
 rw [e00] at e
 refine ask_of hT rfl ?_
 simp -implicitDefEqProofs [Z1t, Z1t_B, dn_cond, e]
def marks (n : Nat) : List Int := (List.range n).map fun (i : Nat) => (i : Int) + 1
theorem l_heldI {O : Oracle} {n : Nat} (hn : n < 1000000) : ∀ (k i : Nat), i + k = n →
 dn O 0 (.loop Z1u_L0) ⟨[(0, (.d (.sl .leaf (ints .i64 (marks n))))), (1, (.d (.int .i64 (((i + 1 : Nat) : Int))))), (5, (.d (.int .i64 i)))], []⟩ = some (.exit 0, ⟨[(0, (.d (.sl .leaf (ints .i64 (marks n))))), (1, (.d (.int .i64 (((n + 1 : Nat) : Int))))), (5, (.d (.int .i64 n))), (9, (.d (.bool false)))], []⟩)
 | 0, i, hi => by
  obtain rfl : i = n := by omega
  have hL : (marks i).length = i := by simp [marks]
  exact dn_stop (by simp -implicitDefEqProofs [Z1u_L0, dn_cond, hL])
 | k + 1, i, hi => by
  have hlt : i < n := by omega
  have hL : (marks n).length = n := by simp [marks]
  have hx : (marks n)[i]'(by omega) = ((i + 1 : Nat) : Int) := by simp [marks]
  have w4 : IntKind.i64.wrap ((i : Int) + 1) = ((i + 1 : Nat) : Int) := (w64 (x := (i : Int) + 1) (by omega)).trans (by omega)
  have w5 : IntKind.i64.wrap (((i + 1 : Nat) : Int) + 1) = ((i + 1 + 1 : Nat) : Int) := (w64 (x := ((i + 1 : Nat) : Int) + 1) (by omega)).trans (by omega)
  have w5' : IntKind.i64.wrap ((i : Int) + 1 + 1) = ((i + 1 + 1 : Nat) : Int) := (w64 (x := (i : Int) + 1 + 1) (by omega)).trans (by omega)
  refine dn_round ?_ (l_heldI hn k (i + 1) (by omega))
  simp -implicitDefEqProofs [Z1u_L0, dn_cond, hlt, hL, hx, w4, w5']
def C_heldI (O : Oracle) : Prop := ∀ n : Nat, n < 1000000 → ask O F1u [(D.sl .leaf (ints .i64 (marks n))), (D.int .i64 1)] = some (D.int .i64 (n + 1))
theorem c_heldI (hT : T F1u = some Z1u) : C_heldI (den T A) := by
 intro n hn
 have e := l_heldI (O := den T A) hn n 0 (Nat.zero_add _)
 have e00 : ((0 : Nat) : Int) = 0 := rfl
 have e01 : ((0 + 1 : Nat) : Int) = 1 := rfl
 rw [e00, e01] at e
 refine ask_of hT rfl ?_
 simp -implicitDefEqProofs [Z1u, Z1u_B, e]
theorem l_markI {O : Oracle} {n : Nat} {cp : Option Nat} (hn : n < 1000000) : ∀ (k i : Nat) (q : List Int), i + k = n → q.length = n → q.take i = marks i →
 dn O 1 (.loop Z1v_L0) ⟨[(0, .sl 0 [] 0 n cp), (1, (.d (.int .i64 (((i + 1 : Nat) : Int))))), (5, (.d (.int .i64 i)))], [.sl false .leaf (ints .i64 q)]⟩ =
  some (.exit 0, ⟨[(0, .sl 0 [] 0 n cp), (1, (.d (.int .i64 (((n + 1 : Nat) : Int))))), (5, (.d (.int .i64 n))), (9, (.d (.bool false)))], [.sl false .leaf (ints .i64 (marks n))]⟩)
 | 0, i, q, hi, hq, ht => by
  obtain rfl : i = n := by omega
  rw [List.take_of_length_le (by omega)] at ht
  subst ht
  exact dn_stop (by simp -implicitDefEqProofs [Z1v_L0, dn_cond])
 | k + 1, i, q, hi, hq, ht => by
  have hlt : i < n := by omega
  have hltq : i < q.length := by omega
  have w4 : IntKind.i64.wrap ((i : Int) + 1) = ((i + 1 : Nat) : Int) := (w64 (x := (i : Int) + 1) (by omega)).trans (by omega)
  have w5 : IntKind.i64.wrap (((i + 1 : Nat) : Int) + 1) = ((i + 1 + 1 : Nat) : Int) := (w64 (x := ((i + 1 : Nat) : Int) + 1) (by omega)).trans (by omega)
  have hs : ints .i64 (q.set i ((i + 1 : Nat) : Int)) = (ints .i64 q).set i (D.int .i64 ((i + 1 : Nat) : Int)) := by unfold ints; rw [List.map_set]
  refine dn_round ?_ (l_markI hn k (i + 1) (q.set i ((i + 1 : Nat) : Int)) (by omega) (by rw [List.length_set]; exact hq) (by
   rw [List.take_succ_eq_append_getElem (by rw [List.length_set]; exact hltq), List.getElem_set_self, List.take_set, List.set_eq_of_length_le (by rw [List.length_take]; omega), ht]
   unfold marks
   rw [List.range_succ, List.map_append]
   rfl))
  rw [hs]
  generalize ((i + 1 : Nat) : Int) = I1 at *
  simp -implicitDefEqProofs [Z1v_L0, dn_cond, hlt, hq, w4, w5]
def H_markI (O : Oracle) : Prop := ∀ (s : List Int) (cp : Option Nat), s.length < 1000000 →
 O F1v [.sl 0 [] 0 s.length cp, (.d (.int .i64 1))] [.sl false .leaf (ints .i64 s)] = some ((.d (.int .i64 (((s.length + 1 : Nat) : Int)))), [.sl false .leaf (ints .i64 (marks s.length))], [])
theorem h_markI (hT : T F1v = some Z1v) : H_markI (den T A) := by
 intro s cp hn
 have e := l_markI (O := den T A) (cp := cp) hn s.length 0 s (Nat.zero_add _) rfl rfl
 have e00 : ((0 : Nat) : Int) = 0 := rfl
 have e01 : ((0 + 1 : Nat) : Int) = 1 := rfl
 rw [e00, e01] at e
 refine den_of hT rfl ?_
 simp -implicitDefEqProofs [Z1v, Z1v_B, e, List.idxOf, List.findIdx]
end Pe
