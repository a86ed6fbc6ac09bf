/-
  A part of the proof: an evaluator for a small form of the code, its soundness, and contracts of functions over it.
-/
import Derived.Test.YtmbifmkpdbiadaaGreatW1
import Derived.Test.YtmbifmkpdbiadaaGreatW2
import Derived.Test.YtmbifmkpdbiadaaGreatW3
import Derived.Test.YtmbifmkpdbiadaaGreatW4
import Derived.Test.YtmbifmkpdbiadaaGreatW5
import Derived.Test.YtmbifmkpdbiadaaGreatW6

namespace Pe
open Go Gq
variable {T : Nat → Option Fn} {A : Oracle}
section
theorem vl_drop {p : Int} (l : List Int) (k : Nat) (h : k < l.length) : vl p (l.drop k) = vl p (l.drop (k + 1)) * p + cf l k := by
 rw [List.drop_eq_getElem_cons h, vl, cf_lt h, Int.mul_comm p, Int.add_comm]
theorem vl_small {p : Int} [IsP p] {l : List Int} (hc : Can p l) (hl : l.length ≤ 14) : 0 ≤ vl p l ∧ vl p l ≤ 1000000000000 := by
 obtain ⟨h1, h2⟩ := vl_in hc
 have h3 : p ^ l.length ≤ p ^ 14 := ipow_mono (p := p) (by have := IsP.pos (p := p); omega) hl
 have h4 : p ^ 14 ≤ 678223072849 := by
  rcases IsP.h (p := p) with h | h | h | h <;> subst h <;> decide
 omega
theorem can_drop {p : Int} {l : List Int} (hc : Can p l) (k : Nat) : Can p (l.drop k) := fun x hx => hc x (List.mem_of_mem_drop hx)
theorem l_num {O : Oracle} {p : Int} [IsP p] {l : List Int} (hc : Can p l) (hl : l.length ≤ 14) : ∀ (k : Nat) (i : Int), i = (k : Int) - 1 → k ≤ l.length →
 dn O 0 (.loop Ze_L0) ⟨[(0, (.d (.int .i64 p))), (7, (.d (.sl .leaf (ints .i64 l)))), (8, (.d (.int .i64 (vl p (l.drop k))))), (9, (.d (.int .i64 i)))], [.hole, .hole]⟩ = some (.exit 0, ⟨[(0, (.d (.int .i64 p))), (7, (.d (.sl .leaf (ints .i64 l)))), (8, (.d (.int .i64 (vl p l)))), (9, (.d (.int .i64 (-1)))), (23, (.d (.bool false)))], [.hole, .hole]⟩)
 | 0, i, hi, _ => by
  obtain rfl : i = -1 := by omega
  exact dn_stop (by simp -implicitDefEqProofs [Ze_L0, dn_cond])
 | k + 1, i, hi, hk => by
  obtain rfl : i = (k : Int) := by omega
  have ih := l_num (O := O) hc hl k ((k : Int) - 1) rfl (by omega)
  have e := vl_drop (p := p) l k (by omega)
  have h1 := vl_small (can_drop hc k) (by rw [List.length_drop]; omega)
  have h2 := vl_small (can_drop hc (k + 1)) (by rw [List.length_drop]; omega)
  have h3 := hc _ (List.getElem_mem (show k < l.length by omega))
  rw [← cf_lt] at h3
  have h7 := IsP.le (p := p)
  have w1 : IntKind.i64.wrap (vl p (l.drop (k + 1)) * p) = vl p (l.drop (k + 1)) * p := w64 (by omega)
  have w2 : IntKind.i64.wrap (vl p (l.drop (k + 1)) * p + cf l k) = vl p (l.drop k) := by rw [← e]; exact w64 (by omega)
  have w3 : IntKind.i64.wrap ((k : Int) - 1) = (k : Int) - 1 := w64 (by omega)
  have hg : l[k]? = some (cf l k) := by rw [cf_lt (by omega)]; exact List.getElem?_eq_getElem _
  have hlt : k < l.length := by omega
  have hn : ¬ 1000000000000 < vl p (l.drop k) := by omega
  refine dn_round ?_ ih
  generalize vl p (l.drop (k + 1)) = v1 at *
  generalize vl p (l.drop k) = v0 at *
  have hgg : ∀ h : k < l.length, l[k]'h = cf l k := fun h => (cf_lt h).symm
  simp -implicitDefEqProofs [Ze_L0, dn_cond, hlt, hgg, w1, w2, w3, hn]
def K_NumberOf (O : Oracle) : Prop := ∀ (p : Int) [IsP p] (a : Fp p), a.len ≤ 14 → ask O Fe [(D.int .i64 p), (D.arr 64 .leaf (ints .u8 (pad (row a))))] = some (.tup [(D.int .i64 (numOf a)), (D.int .i64 0)])
theorem k_NumberOf (hT : T Fe = some Ze) (hc : C_polysCode (den T A)) (hro : K_rowOf (den T A)) : K_NumberOf (den T A) := by
 intro p ip a ha
 have e1 := hc p [pad (row a)] (by intro x hx; simp at hx; subst hx; exact ⟨pad_length _, pad_bytes a⟩) (by simp)
 rw [show List.map arr8 [pad (row a)] = [(D.arr 64 .leaf (ints .u8 (pad (row a))))] from rfl, show codeP p [pad (row a)] = 0 from by unfold codeP; rw [if_pos ⟨isP_true, by simp [isPl_row]⟩]] at e1
 have e2 := hro p a (by omega)
 have hL := row_length a
 have e3 := l_num (O := den T A) (row_can a) (by rw [hL]; exact ha) (row a).length (((row a).length : Int) - 1) rfl (Nat.le_refl _)
 rw [List.drop_length, show vl p [] = 0 from rfl] at e3
 have w1 : IntKind.i64.wrap (((row a).length : Int) - 1) = ((row a).length : Int) - 1 := w64 (by omega)
 refine ask_of hT rfl ?_
 unfold numOf
 generalize vl p (row a) = v at *
 generalize row a = Ra at *
 generalize pad Ra = Pa at *
 simp -implicitDefEqProofs [Ze, Ze_B, dn_cond, e1, e2, e3, w1, List.replicate]
theorem l_sval {O : Oracle} {p : Int} [IsP p] {l : List Int} (hc : Can p l) (hl : l.length ≤ 14) : ∀ (k : Nat) (i : Int), i = (k : Int) - 1 → k ≤ l.length →
 dn O 0 (.loop Z37_L0) ⟨[(0, (.d (.int .i64 p))), (3, .ptr 0 []), (5, (.d (.int .i64 (vl p (l.drop k))))), (6, (.d (.int .i64 i)))], [.box false (D.arr 64 .leaf (ints .u8 (pad l)))]⟩ = some (.exit 0, ⟨[(0, (.d (.int .i64 p))), (3, .ptr 0 []), (5, (.d (.int .i64 (vl p l)))), (6, (.d (.int .i64 (-1)))), (10, (.d (.bool false)))], [.box false (D.arr 64 .leaf (ints .u8 (pad l)))]⟩)
 | 0, i, hi, _ => by
  obtain rfl : i = -1 := by omega
  refine dn_stop ?_
  generalize pad l = Pl at *
  simp -implicitDefEqProofs [Z37_L0, dn_cond]
 | k + 1, i, hi, hk => by
  obtain rfl : i = (k : Int) := by omega
  have ih := l_sval (O := O) hc hl k ((k : Int) - 1) rfl (by omega)
  have e := vl_drop (p := p) l k (by omega)
  have h1 := vl_small (can_drop hc k) (by rw [List.length_drop]; omega)
  have h2 := vl_small (can_drop hc (k + 1)) (by rw [List.length_drop]; omega)
  have h3 := hc _ (List.getElem_mem (show k < l.length by omega))
  rw [← cf_lt] at h3
  have h7 := IsP.le (p := p)
  have w1 : IntKind.i64.wrap (vl p (l.drop (k + 1)) * p) = vl p (l.drop (k + 1)) * p := w64 (by omega)
  have w2 : IntKind.i64.wrap (vl p (l.drop (k + 1)) * p + cf l k) = vl p (l.drop k) := by rw [← e]; exact w64 (by omega)
  have w3 : IntKind.i64.wrap ((k : Int) - 1) = (k : Int) - 1 := w64 (by omega)
  have w4 : IntKind.i64.wrap (cf l k) = cf l k := w64 (by omega)
  have hg : ∀ h : k < (pad l).length, (pad l)[k]'h = cf l k := fun h => by
   have := pad_get l k (by omega)
   rw [List.getElem?_eq_getElem h] at this
   exact Option.some.inj this
  have hlt : k < 64 := by omega
  have hn : ¬ 1000000000000 < vl p (l.drop k) := by omega
  refine dn_round ?_ ih
  generalize vl p (l.drop (k + 1)) = v1 at *
  generalize vl p (l.drop k) = v0 at *
  have hPL := pad_length l
  generalize pad l = Pl at *
  simp -implicitDefEqProofs [Z37_L0, dn_cond, hlt, hg, w1, w2, w3, w4, hn, hPL]
def K_sValue (O : Oracle) : Prop := ∀ (p : Int) [IsP p] (a : Fp p), a.len ≤ 14 → ask O F37 [(D.int .i64 p), (D.arr 64 .leaf (ints .u8 (pad (row a))))] = some (D.int .i64 (numOf a))
theorem k_sValue (hT : T F37 = some Z37) (hdg : K_sDeg (den T A)) : K_sValue (den T A) := by
 intro p ip a ha
 have e1 := hdg p a (by omega)
 have hL := row_length a
 have e3 := l_sval (O := den T A) (row_can a) (by rw [hL]; exact ha) (row a).length (((row a).length : Int) - 1) rfl (Nat.le_refl _)
 rw [List.drop_length, show vl p [] = 0 from rfl, hL] at e3
 refine ask_of hT rfl ?_
 unfold numOf
 generalize vl p (row a) = v at *
 generalize pad (row a) = Pa at *
 generalize a.len = n at *
 simp -implicitDefEqProofs [Z37, Z37_B, e1, e3]
end
section
variable {p : Int} [IsP p]
def GoodQ (m : Fp p) (q : Dr4) : Prop := ∃ g d : Fp p, q = (p, pad (row m), pad (row g), pad (row d)) ∧ g.len < m.len ∧ d.len < m.len ∧ d ≠ 0
noncomputable def trN (p : Int) [IsP p] (q : Dr4) : Nat := (numOf (frA (polOf p q.2.1) (polOf p q.2.2.1) (polOf p q.2.2.2))).toNat
noncomputable def ctS (p : Int) [IsP p] : List Dr4 → List Int → List Int
 | [], Q => Q
 | q :: L, Q => ctS p L (Q.set (trN p q) (cf Q (trN p q) + 1))
theorem ctS_length (p : Int) [IsP p] : ∀ (L : List Dr4) (Q : List Int), (ctS p L Q).length = Q.length
 | [], _ => rfl
 | q :: L, Q => by rw [ctS, ctS_length p L, List.length_set]
theorem goodQ_mk {m : Fp p} (h5 : m.len ≤ 5) (hp : p ^ (m.len - 1) ≤ 16) (h2 : 2 ≤ m.len) {n : Nat} (hn : (n : Int) = p ^ (m.len - 1)) {g d : Nat} (hg : g < n) (hd : d < n) (h1 : 1 ≤ d) : GoodQ m (mkq p (pad (row m)) g d) := by
 have hlt : ∀ k : Nat, k < n → (numP p (k : Int)).len < m.len := fun k hk => by
  have := Pol.len_le (numP_lt (p := p) (n := (k : Int)) ⟨by omega, by omega⟩ (d := m.len - 1) (by omega))
  omega
 refine ⟨numP p g, numP p d, rfl, hlt g hg, hlt d hd, fun h => ?_⟩
 have e := numOf_numP (p := p) (n := (d : Int)) ⟨by omega, by omega⟩
 rw [h, ← numP_zero, numOf_numP ⟨by omega, by omega⟩] at e
 omega
theorem goodQ_in {m : Fp p} (h5 : m.len ≤ 5) (hp : p ^ (m.len - 1) ≤ 16) (h2 : 2 ≤ m.len) {n : Nat} (hn : (n : Int) = p ^ (m.len - 1)) {g : Nat} (hg : g < n) : ∀ (r d : Nat), 1 ≤ d → d + r = n → ∀ q ∈ inQ p (pad (row m)) g d r, GoodQ m q
 | 0, _, _, _, q, hq => by cases hq
 | r + 1, d, h1, hd, q, hq => by
  rcases List.mem_cons.1 hq with rfl | hq
  ·exact goodQ_mk h5 hp h2 hn hg (by omega) h1
  ·exact goodQ_in h5 hp h2 hn hg r (d + 1) (by omega) (by omega) q hq
theorem goodQ_out {m : Fp p} (h5 : m.len ≤ 5) (hp : p ^ (m.len - 1) ≤ 16) (h2 : 2 ≤ m.len) {n : Nat} (hn : (n : Int) = p ^ (m.len - 1)) (hn1 : 1 ≤ n) : ∀ (r g : Nat), g + r = n → ∀ q ∈ outQ p (pad (row m)) n g r, GoodQ m q
 | 0, _, _, q, hq => by cases hq
 | r + 1, g, hg, q, hq => by
  rcases List.mem_append.1 hq with hq | hq
  ·exact goodQ_in h5 hp h2 hn (by omega) (n - 1) 1 (Nat.le_refl _) (by omega) q hq
  ·exact goodQ_out h5 hp h2 hn hn1 r (g + 1) (by omega) q hq
theorem good_all {m : Fp p} (hm : Fld m) (hp : p ^ (m.len - 1) ≤ 16) : ∀ q ∈ allQ p (pad (row m)) (manyQ p (m.len - 1)), GoodQ m q := by
 have h1 : (1 : Int) ≤ p ^ (m.len - 1) := ppow_pos _
 have hn : ((manyQ p (m.len - 1) : Nat) : Int) = p ^ (m.len - 1) := by unfold manyQ; omega
 exact goodQ_out hm.five hp hm.two hn (by omega) _ 0 (Nat.zero_add _)
theorem trN_spec {m : Fp p} (hm : Fld m) {q : Dr4} (hq : GoodQ m q) : ∃ g d : Fp p, q = (p, pad (row m), pad (row g), pad (row d)) ∧ g.len < m.len ∧ d.len < m.len ∧ d ≠ 0 ∧ numOf (frA m g d) = ((trN p q : Nat) : Int) ∧ (frA m g d).len ≤ 14 ∧ ((trN p q : Nat) : Int) < p ^ ((m.len - 1) / 2 + 1) := by
 obtain ⟨g, d, rfl, hg, hd, hd0⟩ := hq
 have h5 := hm.five
 have fs := frob_said hm hg hd hd0
 have hl := Pol.len_le fs.lt
 have hi := numOf_in (frA m g d)
 have e : ((trN p (p, pad (row m), pad (row g), pad (row d)) : Nat) : Int) = numOf (frA m g d) := by
  unfold trN
  show (((numOf (frA (polOf p (pad (row m))) (polOf p (pad (row g))) (polOf p (pad (row d))))).toNat : Nat) : Int) = _
  rw [polOf_pad (by omega), polOf_pad (by omega), polOf_pad (by omega)]
  omega
 refine ⟨g, d, rfl, hg, hd, hd0, e.symm, by omega, ?_⟩
 have := ipow_mono (p := p) (by have := IsP.pos (p := p); omega) hl
 rw [e]; omega
theorem cf_bound {Q : List Int} {j n : Nat} (h : ∀ x ∈ Q, 0 ≤ x ∧ x ≤ n) : 0 ≤ cf Q j ∧ cf Q j ≤ n := by
 by_cases hj : j < Q.length
 ·rw [cf_lt hj]; exact h _ (List.getElem_mem hj)
 ·rw [cf_ge (by omega)]; omega
theorem set_bound {Q : List Int} {j n : Nat} (h : ∀ x ∈ Q, 0 ≤ x ∧ x ≤ n) : ∀ x ∈ Q.set j (cf Q j + 1), 0 ≤ x ∧ x ≤ ((n + 1 : Nat) : Int) := fun x hx => by
 have hb := cf_bound (j := j) h
 rcases List.mem_or_eq_of_mem_set hx with h1 | h1
 ·have := h x h1; omega
 ·omega
theorem l_ct {O : Oracle} (hfr : K_drFrob O) (hpo : K_poly O) (hnu : K_NumberOf O) {m : Fp p} (hm : Fld m) {L : List Dr4} (hL : ∀ q ∈ L, GoodQ m q) (hLn : L.length ≤ 1000) {N : Nat} (hN : (N : Int) = p ^ ((m.len - 1) / 2 + 1)) : ∀ (k i : Nat) (Q : List Int), i + k = L.length → Q.length = N → (∀ x ∈ Q, 0 ≤ x ∧ x ≤ i) →
 dn O 0 (.loop Z6_L0) ⟨[(0, (.d (.int .i64 p))), (8, .sl 1 [] 0 N (some N)), (32, .d (.sl dqSh (L.map drE))), (33, (.d (.int .i64 L.length))), (34, (.d (.int .i64 i)))], [.hole, .sl false .leaf (ints .i64 Q), .hole]⟩ =
  some (.exit 0, ⟨[(0, (.d (.int .i64 p))), (8, .sl 1 [] 0 N (some N)), (32, .d (.sl dqSh (L.map drE))), (33, (.d (.int .i64 L.length))), (34, (.d (.int .i64 L.length))), (35, (.d (.bool false)))], [.hole, .sl false .leaf (ints .i64 (ctS p (L.drop i) Q)), .hole]⟩)
 | 0, i, Q, hi, hQ, _ => by
  obtain rfl : i = L.length := by omega
  rw [List.drop_length, ctS]
  refine dn_stop ?_
  generalize L.map drE = LD at *
  simp -implicitDefEqProofs [Z6_L0, dn_cond]
 | k + 1, i, Q, hi, hQ, hb => by
  have hlt : i < L.length := by omega
  obtain ⟨g, d, hq, hg, hd, hd0, e3, h14, htn⟩ := trN_spec hm (hL _ (List.getElem_mem hlt))
  have e1 := hfr p m g d hm hg hd
  have e2 := hpo p (frA m g d) (by omega)
  have e4 := hnu p (frA m g d) h14
  have hbb := cf_bound (j := trN p L[i]) hb
  have ih := l_ct hfr hpo hnu hm hL hLn hN k (i + 1) (Q.set (trN p L[i]) (cf Q (trN p L[i]) + 1)) (by omega) (by rw [List.length_set]; exact hQ) (set_bound hb)
  rw [List.drop_eq_getElem_cons hlt, ctS]
  have w4 : IntKind.i64.wrap ((i : Int) + 1) = ((i + 1 : Nat) : Int) := (w64 (x := (i : Int) + 1) (by omega)).trans (by omega)
  have w5 : IntKind.i64.wrap (cf Q (trN p L[i]) + 1) = cf Q (trN p L[i]) + 1 := w64 (by omega)
  have htN : trN p L[i] < N := by omega
  have htQ : trN p L[i] < Q.length := by omega
  have hcf : ∀ h : trN p L[i] < Q.length, Q[trN p L[i]]'h = cf Q (trN p L[i]) := fun h => (cf_lt h).symm
  have hLD : (L.map drE).length = L.length := List.length_map ..
  have hgD : ∀ h : i < (L.map drE).length, (L.map drE)[i]'h = drD p (pad (row m)) (pad (row g)) (pad (row d)) := fun h => by
   rw [List.getElem_map, hq]
  rw [e3] at e4
  refine dn_round ?_ ih
  generalize trN p L[i] = t at *
  generalize frA m g d = fa at *
  generalize row fa = Rf at *
  generalize row (frB m d) = Rb at *
  generalize pad Rf = Pf at *
  generalize pad (row m) = Pm at *
  generalize pad (row g) = Pg at *
  generalize pad (row d) = Pd at *
  generalize L.map drE = LD at *
  simp -implicitDefEqProofs [Z6_L0, dn_cond, hlt, hLD, hgD, e1, e2, e4, w4, w5, htN, hcf, hQ]
theorem l_sct {O : Oracle} (hfr : K_sFrob6 O) (hva : K_sValue O) {m : Fp p} (hm : Fld m) {L : List Dr4} (hL : ∀ q ∈ L, GoodQ m q) (hLn : L.length ≤ 1000) {N : Nat} (hN : (N : Int) = p ^ ((m.len - 1) / 2 + 1)) : ∀ (k i : Nat) (Q : List Int), i + k = L.length → Q.length = N → (∀ x ∈ Q, 0 ≤ x ∧ x ≤ i) →
 dn O 0 (.loop Z2l_L0) ⟨[(0, (.d (.int .i64 p))), (7, .sl 1 [] 0 N (some N)), (8, .d (.sl dqSh (L.map drE))), (9, (.d (.int .i64 i)))], [.hole, .sl false .leaf (ints .i64 Q), .hole, .hole]⟩ =
  some (.exit 0, ⟨[(0, (.d (.int .i64 p))), (7, .sl 1 [] 0 N (some N)), (8, .d (.sl dqSh (L.map drE))), (9, (.d (.int .i64 L.length))), (31, (.d (.bool false)))], [.hole, .sl false .leaf (ints .i64 (ctS p (L.drop i) Q)), .hole, .hole]⟩)
 | 0, i, Q, hi, hQ, _ => by
  obtain rfl : i = L.length := by omega
  rw [List.drop_length, ctS]
  refine dn_stop ?_
  have hLD : (L.map drE).length = L.length := List.length_map ..
  generalize L.map drE = LD at *
  simp -implicitDefEqProofs [Z2l_L0, dn_cond, hLD]
 | k + 1, i, Q, hi, hQ, hb => by
  have hlt : i < L.length := by omega
  obtain ⟨g, d, hq, hg, hd, hd0, e3, h14, htn⟩ := trN_spec hm (hL _ (List.getElem_mem hlt))
  have e1 := hfr p m g d hm hg hd hd0
  have e4 := hva p (frA m g d) h14
  have hbb := cf_bound (j := trN p L[i]) hb
  have ih := l_sct hfr hva hm hL hLn hN k (i + 1) (Q.set (trN p L[i]) (cf Q (trN p L[i]) + 1)) (by omega) (by rw [List.length_set]; exact hQ) (set_bound hb)
  rw [List.drop_eq_getElem_cons hlt, ctS]
  have w4 : IntKind.i64.wrap ((i : Int) + 1) = ((i + 1 : Nat) : Int) := (w64 (x := (i : Int) + 1) (by omega)).trans (by omega)
  have w5 : IntKind.i64.wrap (cf Q (trN p L[i]) + 1) = cf Q (trN p L[i]) + 1 := w64 (by omega)
  have htN : trN p L[i] < N := by omega
  have htQ : trN p L[i] < Q.length := by omega
  have hcf : ∀ h : trN p L[i] < Q.length, Q[trN p L[i]]'h = cf Q (trN p L[i]) := fun h => (cf_lt h).symm
  have hLD : (L.map drE).length = L.length := List.length_map ..
  have hgD : ∀ h : i < (L.map drE).length, (L.map drE)[i]'h = drD p (pad (row m)) (pad (row g)) (pad (row d)) := fun h => by
   rw [List.getElem_map, hq]
  rw [e3] at e4
  refine dn_round ?_ ih
  generalize trN p L[i] = t at *
  generalize frA m g d = fa at *
  generalize pad (row fa) = Pf at *
  generalize pad (row (frB m d)) = Pb at *
  generalize pad (row m) = Pm at *
  generalize pad (row g) = Pg at *
  generalize pad (row d) = Pd at *
  generalize L.map drE = LD at *
  simp -implicitDefEqProofs [Z2l_L0, dn_cond, hlt, hLD, hgD, e1, e4, w4, w5, htN, hcf, hQ]
end
end Pe

namespace Pe
open Go Gq
variable {T : Nat → Option Fn} {A : Oracle}
noncomputable def ctN (p : Int) (l : List Int) : Nat := (p ^ (((polOf p l).len - 1) / 2 + 1)).toNat
open Classical in
noncomputable def ctL (p : Int) (l : List Int) : List Int :=
 if h : AdOk p l then
  haveI : IsP p := h.choose
  ctS p (adL p l) (List.replicate (ctN p l) 0)
 else []
theorem adC_iff {p : Int} {l : List Int} : adC p l = 0 ↔ AdOk p l := by
 constructor
 ·intro h
  unfold adC at h
  split at h
  ·exact absurd h (by assumption)
  ·split at h
   ·assumption
   ·omega
 ·intro h
  refine adC_zero ?_ h
  obtain ⟨ip, m, rfl, -⟩ := h
  unfold codeP
  rw [if_pos ⟨isP_true, by simp [isPl_row]⟩]
theorem ctL_bad {p : Int} {l : List Int} (h : ¬ AdOk p l) : ctL p l = [] := by unfold ctL; rw [dif_neg h]
theorem ctL_good {p : Int} [IsP p] {l : List Int} (h : AdOk p l) : ctL p l = ctS p (adL p l) (List.replicate (ctN p l) 0) := by unfold ctL; rw [dif_pos h]
theorem ctN_pad {p : Int} [IsP p] {m : Fp p} (hm : Fld m) : ((ctN p (pad (row m)) : Nat) : Int) = p ^ ((m.len - 1) / 2 + 1) ∧ ctN p (pad (row m)) ≤ 343 := by
 have h5 := hm.five
 have h1 : (1 : Int) ≤ p ^ ((m.len - 1) / 2 + 1) := ppow_pos _
 have h2 : p ^ ((m.len - 1) / 2 + 1) ≤ p ^ 3 := ipow_mono (p := p) (by have := IsP.pos (p := p); omega) (by omega)
 have h3 : p ^ 3 ≤ 343 := by rcases IsP.h (p := p) with h | h | h | h <;> subst h <;> decide
 unfold ctN
 rw [polOf_pad (by omega)]
 omega
theorem rep_zero_in (n : Nat) : ∀ x ∈ List.replicate n (0 : Int), 0 ≤ x ∧ x ≤ ((0 : Nat) : Int) := fun x hx => by
 have := List.eq_of_mem_replicate hx
 omega
def K_CountByTrace (O : Oracle) (F : Nat) : Prop := ∀ (p : Int) (l : List Int), Bytes l → l.length = 64 → ask O F [(D.int .i64 p), (D.arr 64 .leaf (ints .u8 l))] = some (.tup [(D.sl .leaf (ints .i64 (ctL p l))), (D.int .i64 (adC p l))])
theorem k_CountByTrace (hT : T F6 = some Z6) (hal : K_AllDrinfeld (den T A) F4) (hro : K_rowOf (den T A)) (hdg : C_degree (den T A)) (hno : C_norm (den T A)) (hfr : K_drFrob (den T A)) (hpo : K_poly (den T A)) (hnu : K_NumberOf (den T A)) : K_CountByTrace (den T A) F6 := by
 intro p l bl gl
 have e1 := hal p l bl gl
 unfold adD at e1
 by_cases h0 : adC p l = 0
 ·have hok := adC_iff.1 h0
  have hok' := hok
  rw [h0] at e1 ⊢
  obtain ⟨ip, m, rfl, hm, h16⟩ := hok
  have h5 := hm.five
  have h2 := hm.two
  obtain ⟨hN, hN3⟩ := ctN_pad hm
  have e2 := hro p m (by omega)
  have e3 := hdg (row m) (by rw [row_length]; omega)
  rw [row_length, show (m.len : Int) - 1 = ((m.len - 1 : Nat) : Int) by omega] at e3
  have e4 := hno p ((m.len - 1) / 2 + 1) 1099511627776 (by omega) (by omega)
  rw [normL_eq ((m.len - 1) / 2 + 1) 1 (by omega) (by omega), Int.one_mul, ← hN] at e4
  have hgood : ∀ q ∈ adL p (pad (row m)), GoodQ m q := by rw [adL_good hok' (by omega)]; exact good_all hm h16
  have hlen := (adL_ok p (pad (row m))).2
  have e5 := l_ct (O := den T A) hfr hpo hnu hm hgood hlen hN (adL p (pad (row m))).length 0 (List.replicate (ctN p (pad (row m))) 0) (Nat.zero_add _) List.length_replicate (rep_zero_in _)
  have e00 : ((0 : Nat) : Int) = 0 := rfl
  rw [e00, List.drop_zero, ← ctL_good hok'] at e5
  have hcl : (ctL p (pad (row m))).length = ctN p (pad (row m)) := by rw [ctL_good hok', ctS_length, List.length_replicate]
  have htk : (ctL p (pad (row m))).take (ctN p (pad (row m))) = ctL p (pad (row m)) := List.take_of_length_le (by omega)
  have hq : Int.tdiv ((m.len - 1 : Nat) : Int) 2 = (((m.len - 1) / 2 : Nat) : Int) := rfl
  have w1 : IntKind.i64.wrap (((m.len - 1) / 2 : Nat) : Int) = (((m.len - 1) / 2 : Nat) : Int) := w64 (by omega)
  have w2 : IntKind.i64.wrap ((((m.len - 1) / 2 : Nat) : Int) + 1) = (((m.len - 1) / 2 + 1 : Nat) : Int) := (w64 (x := (((m.len - 1) / 2 : Nat) : Int) + 1) (by omega)).trans (by omega)
  have hLD : ((adL p (pad (row m))).map drE).length = (adL p (pad (row m))).length := List.length_map ..
  have h8 : ctN p (pad (row m)) * 8 ≤ 1099511627776 := by omega
  refine ask_of hT rfl ?_
  generalize ctN p (pad (row m)) = N at *
  generalize ctL p (pad (row m)) = C at *
  generalize (adL p (pad (row m))).length = ln at *
  generalize (adL p (pad (row m))).map drE = LD at *
  generalize pad (row m) = Pm at *
  generalize row m = Rm at *
  generalize (m.len - 1) / 2 + 1 = h1 at *
  generalize (m.len - 1) / 2 = hf at *
  generalize m.len - 1 = d at *
  simp -implicitDefEqProofs [Z6, Z6_B, dn_cond, e1, e2, e3, e4, e5, hq, w1, w2, hLD, htk, hcl, h8, List.replicate]
 ·have hno' : ¬ AdOk p l := fun h => h0 (adC_iff.2 h)
  rw [adL_bad hno'] at e1
  rw [ctL_bad hno']
  refine ask_of hT rfl ?_
  generalize adC p l = c at *
  simp -implicitDefEqProofs [Z6, Z6_B, dn_cond, e1, h0, ints_nil, List.replicate]
theorem k_sCountByTrace (hT : T F2l = some Z2l) (hsm : C_sSmall (den T A)) (hdg : K_sDeg (den T A)) (hct : K_sCount (den T A)) (hal : K_all (den T A) F3a) (hfr : K_sFrob6 (den T A)) (hva : K_sValue (den T A)) : K_CountByTrace (den T A) F2l := by
 intro p l bl gl
 have e1 := hsm p l bl gl
 by_cases h0 : adC p l = 0
 ·have hok := adC_iff.1 h0
  have hok' := hok
  rw [h0] at e1 ⊢
  obtain ⟨ip, m, rfl, hm, h16⟩ := hok
  have h5 := hm.five
  have h2 := hm.two
  obtain ⟨hN, hN3⟩ := ctN_pad hm
  have e3 := hdg p m (by omega)
  rw [show (m.len : Int) - 1 = ((m.len - 1 : Nat) : Int) by omega] at e3
  have e4 := hct p ((m.len - 1) / 2 + 1) (by omega)
  rw [← hN, Int.min_eq_left (by omega)] at e4
  have e6 := hal p m hm h16
  rw [← adL_good hok' (by omega)] at e6
  have hgood : ∀ q ∈ adL p (pad (row m)), GoodQ m q := by rw [adL_good hok' (by omega)]; exact good_all hm h16
  have hlen := (adL_ok p (pad (row m))).2
  have e5 := l_sct (O := den T A) hfr hva hm hgood hlen hN (adL p (pad (row m))).length 0 (List.replicate (ctN p (pad (row m))) 0) (Nat.zero_add _) List.length_replicate (rep_zero_in _)
  have e00 : ((0 : Nat) : Int) = 0 := rfl
  rw [e00, List.drop_zero, ← ctL_good hok'] at e5
  have hcl : (ctL p (pad (row m))).length = ctN p (pad (row m)) := by rw [ctL_good hok', ctS_length, List.length_replicate]
  have htk : (ctL p (pad (row m))).take (ctN p (pad (row m))) = ctL p (pad (row m)) := List.take_of_length_le (by omega)
  have hq : Int.tdiv ((m.len - 1 : Nat) : Int) 2 = (((m.len - 1) / 2 : Nat) : Int) := rfl
  have w1 : IntKind.i64.wrap (((m.len - 1) / 2 : Nat) : Int) = (((m.len - 1) / 2 : Nat) : Int) := w64 (by omega)
  have w2 : IntKind.i64.wrap ((((m.len - 1) / 2 : Nat) : Int) + 1) = (((m.len - 1) / 2 + 1 : Nat) : Int) := (w64 (x := (((m.len - 1) / 2 : Nat) : Int) + 1) (by omega)).trans (by omega)
  have h8 : ctN p (pad (row m)) * 8 ≤ 1099511627776 := by omega
  refine ask_of hT rfl ?_
  generalize ctN p (pad (row m)) = N at *
  generalize ctL p (pad (row m)) = C at *
  generalize (adL p (pad (row m))).length = ln at *
  generalize (adL p (pad (row m))).map drE = LD at *
  generalize pad (row m) = Pm at *
  generalize (m.len - 1) / 2 + 1 = h1 at *
  generalize (m.len - 1) / 2 = hf at *
  generalize m.len - 1 = d at *
  simp -implicitDefEqProofs [Z2l, Z2l_B, dn_cond, e1, e3, e4, e5, e6, hq, w1, w2, htk, hcl, h8, List.replicate]
 ·have hno' : ¬ AdOk p l := fun h => h0 (adC_iff.2 h)
  rw [ctL_bad hno']
  refine ask_of hT rfl ?_
  generalize adC p l = c at *
  simp -implicitDefEqProofs [Z2l, Z2l_B, dn_cond, e1, h0, ints_nil, List.replicate]
theorem l_ctH {O : Oracle} (hfr : K_drFrob O) (hpo : K_poly O) (hnu : K_NumberOf O) {p : Int} [IsP p] {m : Fp p} (hm : Fld m) {L : List Dr4} (hL : ∀ q ∈ L, GoodQ m q) (hLn : L.length ≤ 1000) {N : Nat} (hN : (N : Int) = p ^ ((m.len - 1) / 2 + 1)) {cp : Option Nat} : ∀ (k i : Nat) (Q : List Int), i + k = L.length → Q.length = N → (∀ x ∈ Q, 0 ≤ x ∧ x ≤ i) →
 dn O 0 (.loop Z7_L0) ⟨[(0, (.d (.int .i64 p))), (8, .sl 4 [] 0 N (some N)), (32, .sl 2 [] 0 L.length cp), (33, (.d (.int .i64 L.length))), (34, (.d (.int .i64 i)))], [.hole, .hole, .sl false dqSh (L.map drE), .hole, .sl false .leaf (ints .i64 Q), .hole]⟩ =
  some (.exit 0, ⟨[(0, (.d (.int .i64 p))), (8, .sl 4 [] 0 N (some N)), (32, .sl 2 [] 0 L.length cp), (33, (.d (.int .i64 L.length))), (34, (.d (.int .i64 L.length))), (35, (.d (.bool false)))], [.hole, .hole, .sl false dqSh (L.map drE), .hole, .sl false .leaf (ints .i64 (ctS p (L.drop i) Q)), .hole]⟩)
 | 0, i, Q, hi, hQ, _ => by
  obtain rfl : i = L.length := by omega
  rw [List.drop_length, ctS]
  refine dn_stop ?_
  generalize L.map drE = LD at *
  simp -implicitDefEqProofs [Z7_L0, dn_cond]
 | k + 1, i, Q, hi, hQ, hb => by
  have hlt : i < L.length := by omega
  obtain ⟨g, d, hq, hg, hd, hd0, e3, h14, htn⟩ := trN_spec hm (hL _ (List.getElem_mem hlt))
  have e1 := hfr p m g d hm hg hd
  have e2 := hpo p (frA m g d) (by omega)
  have e4 := hnu p (frA m g d) h14
  have hbb := cf_bound (j := trN p L[i]) hb
  have ih := l_ctH hfr hpo hnu hm hL hLn hN (cp := cp) k (i + 1) (Q.set (trN p L[i]) (cf Q (trN p L[i]) + 1)) (by omega) (by rw [List.length_set]; exact hQ) (set_bound hb)
  rw [List.drop_eq_getElem_cons hlt, ctS]
  have w4 : IntKind.i64.wrap ((i : Int) + 1) = ((i + 1 : Nat) : Int) := (w64 (x := (i : Int) + 1) (by omega)).trans (by omega)
  have w5 : IntKind.i64.wrap (cf Q (trN p L[i]) + 1) = cf Q (trN p L[i]) + 1 := w64 (by omega)
  have htN : trN p L[i] < N := by omega
  have htQ : trN p L[i] < Q.length := by omega
  have hcf : ∀ h : trN p L[i] < Q.length, Q[trN p L[i]]'h = cf Q (trN p L[i]) := fun h => (cf_lt h).symm
  have hLD : (L.map drE).length = L.length := List.length_map ..
  have hgD : ∀ h : i < (L.map drE).length, (L.map drE)[i]'h = drD p (pad (row m)) (pad (row g)) (pad (row d)) := fun h => by
   rw [List.getElem_map, hq]
  rw [e3] at e4
  refine dn_round ?_ ih
  generalize trN p L[i] = t at *
  generalize frA m g d = fa at *
  generalize row fa = Rf at *
  generalize row (frB m d) = Rb at *
  generalize pad Rf = Pf at *
  generalize pad (row m) = Pm at *
  generalize pad (row g) = Pg at *
  generalize pad (row d) = Pd at *
  generalize L.map drE = LD at *
  simp -implicitDefEqProofs [Z7_L0, dn_cond, hlt, hLD, hgD, e1, e2, e4, w4, w5, htN, hcf, hQ]
def H_CountByTrace (O : Oracle) : Prop := ∀ (p : Int) (l : List Int), Bytes l → l.length = 64 → (ctL p l).length < 1000 ∧ ∃ cp : Option Nat,
 O F7 [.d (D.int .i64 p), .d (D.arr 64 .leaf (ints .u8 l))] [] = some (.tup [.sl 0 [] 0 (ctL p l).length cp, (.d (.int .i64 (adC p l)))], [], [.sl false .leaf (ints .i64 (ctL p l))])
theorem h_CountByTrace (hT : T F7 = some Z7) (hal : H_AllDrinfeld (den T A)) (hro : K_rowOf (den T A)) (hdg : C_degree (den T A)) (hno : C_norm (den T A)) (hfr : K_drFrob (den T A)) (hpo : K_poly (den T A)) (hnu : K_NumberOf (den T A)) : H_CountByTrace (den T A) := by
 intro p l bl gl
 obtain ⟨c, e1⟩ := hal p l bl gl
 by_cases h0 : adC p l = 0
 ·have hok := adC_iff.1 h0
  have hok' := hok
  rw [h0] at e1 ⊢
  obtain ⟨ip, m, rfl, hm, h16⟩ := hok
  have h5 := hm.five
  have h2 := hm.two
  obtain ⟨hN, hN3⟩ := ctN_pad hm
  have e2 := hro p m (by omega)
  have e3 := hdg (row m) (by rw [row_length]; omega)
  rw [row_length, show (m.len : Int) - 1 = ((m.len - 1 : Nat) : Int) by omega] at e3
  have e4 := hno p ((m.len - 1) / 2 + 1) 1099511627776 (by omega) (by omega)
  rw [normL_eq ((m.len - 1) / 2 + 1) 1 (by omega) (by omega), Int.one_mul, ← hN] at e4
  have hgood : ∀ q ∈ adL p (pad (row m)), GoodQ m q := by rw [adL_good hok' (by omega)]; exact good_all hm h16
  have hlen := (adL_ok p (pad (row m))).2
  have e5 := l_ctH (O := den T A) hfr hpo hnu hm hgood hlen hN (cp := c) (adL p (pad (row m))).length 0 (List.replicate (ctN p (pad (row m))) 0) (Nat.zero_add _) List.length_replicate (rep_zero_in _)
  have e00 : ((0 : Nat) : Int) = 0 := rfl
  rw [e00, List.drop_zero, ← ctL_good hok'] at e5
  have hcl : (ctL p (pad (row m))).length = ctN p (pad (row m)) := by rw [ctL_good hok', ctS_length, List.length_replicate]
  rw [hcl]
  have hq : Int.tdiv ((m.len - 1 : Nat) : Int) 2 = (((m.len - 1) / 2 : Nat) : Int) := rfl
  have w1 : IntKind.i64.wrap (((m.len - 1) / 2 : Nat) : Int) = (((m.len - 1) / 2 : Nat) : Int) := w64 (by omega)
  have w2 : IntKind.i64.wrap ((((m.len - 1) / 2 : Nat) : Int) + 1) = (((m.len - 1) / 2 + 1 : Nat) : Int) := (w64 (x := (((m.len - 1) / 2 : Nat) : Int) + 1) (by omega)).trans (by omega)
  have h8 : ctN p (pad (row m)) * 8 ≤ 1099511627776 := by omega
  refine ⟨by omega, some (ctN p (pad (row m))), den_of hT rfl ?_⟩
  generalize ctN p (pad (row m)) = N at *
  generalize ctL p (pad (row m)) = C at *
  generalize (adL p (pad (row m))).length = ln at *
  generalize (adL p (pad (row m))).map drE = LD at *
  generalize pad (row m) = Pm at *
  generalize row m = Rm at *
  generalize (m.len - 1) / 2 + 1 = h1 at *
  generalize (m.len - 1) / 2 = hf at *
  generalize m.len - 1 = d at *
  simp -implicitDefEqProofs [Z7, Z7_B, dn_cond, e1, e2, e3, e4, e5, hq, w1, w2, h8, List.replicate, List.idxOf, List.findIdx, List.findIdx.go]
 ·have hno' : ¬ AdOk p l := fun h => h0 (adC_iff.2 h)
  rw [adL_bad hno'] at e1
  rw [ctL_bad hno']
  refine ⟨by simp, some 0, den_of hT rfl ?_⟩
  generalize adC p l = c' at *
  simp -implicitDefEqProofs [Z7, Z7_B, dn_cond, e1, h0, ints_nil, List.replicate, List.idxOf, List.findIdx, List.findIdx.go]
def L_CountByTrace (O : Oracle) : Prop := ∀ (p : Int) (l : List Int), Bytes l → l.length = 64 → ask O F1s [(D.int .i64 p), (D.arr 64 .leaf (ints .u8 l))] = some (D.bool true)
theorem law_CountByTrace (hT : T F1s = some Z1s) (hp : C_toPoly (den T A)) (hi : K_CountByTrace (den T A) F6) (hh : H_CountByTrace (den T A)) (hs : K_CountByTrace (den T A) F2l)
 (he : C_eqI (den T A)) (hm : H_markI (den T A)) (hd : C_heldI (den T A)) : L_CountByTrace (den T A) := by
 intro p l hb hl
 have e1 := hp l hb hl
 have e2 := hi p l hb hl
 have e3 := hs p l hb hl
 obtain ⟨h4, cp, e5⟩ := hh p l hb hl
 generalize ctL p l = s at *
 generalize adC p l = c at *
 have e6 := he s (by omega)
 have e7 := hm s cp (by omega)
 have e8 := hd s.length (by omega)
 have ht : s.take s.length = s := List.take_of_length_le (Nat.le_refl _)
 have ht2 : (marks s.length).take s.length = marks s.length := List.take_of_length_le (by simp [marks])
 have hL : (marks s.length).length = s.length := by simp [marks]
 refine ask_of hT rfl ?_
 generalize marks s.length = M at *
 have h0 : ¬ ((s.length : Int) + 1 < 0) := by omega
 simp -implicitDefEqProofs [Z1s, Z1s_B, dn_cond, e1, e2, e3, e5, e6, e7, e8, ht, ht2, hL, h0, List.replicate]
end Pe
