/-
  A part of the proof: an evaluator for a small form of the code, its soundness, and contracts of functions over it.
-/
import Derived.Test.YtbangpnofnhhnaaW1
import Derived.Test.YtbangpnofnhhnaaW2
import Derived.Test.YtbangpnofnhhnaaW3
import Derived.Test.YtbangpnofnhhnaaW4
import Derived.Test.YtbangpnofnhhnaaW5

namespace Pe
open Go Gq
variable {T : Nat → Option Fn} {A : Oracle}

theorem l_sp0h {O : Oracle} (hq : K_quad O) {p : Int} [IsP p] {m : Fp p} (hm : m ≠ 0) (hml : m.len ≤ 13) {many : Nat} (hmany : many ≤ 2401) {st vd vi : V} {hp : Heap} (hst : st.refs = [4] ∧ vd.refs = [] ∧ vi.refs = []) (hhp : ∃ b, hp = [.hole, .hole, .hole, .hole, b, .hole, .hole]) : ∀ (k i : Nat), i + k = many →
    dn O 0 (.loop ir_impl_SymbolPolynomial_h_L0) ⟨[(7, (.d (.int .i64 p))), (8, (.d (.sl .leaf (ints .i64 (row m))))), (9, st), (11, (.d (.int .i64 (sumZ (fun k => quadI p (symb p (numP p ((many : Int) + k)) m)) i)))), (32, vd), (33, vi), (38, .d (.sl .leaf ((List.range many).map fun (k : Nat) => (D.sl .leaf (ints .i64 (row (numP p ((many : Int) + k)))))))), (39, (.d (.int .i64 many))), (40, (.d (.int .i64 i)))], hp⟩ =
      some (.exit 2, ⟨[(7, (.d (.int .i64 p))), (8, (.d (.sl .leaf (ints .i64 (row m))))), (9, st), (11, (.d (.int .i64 (sumZ (fun k => quadI p (symb p (numP p ((many : Int) + k)) m)) many)))), (32, vd), (33, vi), (38, .d (.sl .leaf ((List.range many).map fun (k : Nat) => (D.sl .leaf (ints .i64 (row (numP p ((many : Int) + k)))))))), (39, (.d (.int .i64 many))), (40, (.d (.int .i64 many))), (41, (.d (.bool false)))], hp⟩)
  | 0, i, hi => by
    obtain ⟨b, rfl⟩ := hhp
    obtain rfl : i = many := by omega
    exact dn_stop (by simp -implicitDefEqProofs [ir_impl_SymbolPolynomial_h_L0, dn_cond, hst])
  | k + 1, i, hi => by
    have hlt : i < many := by omega
    have hlen := numP_len (p := p) ((many : Int) + i)
    have e1 := hq p (numP p ((many : Int) + i)) m hm hml (by omega)
    have hs := sumZ_small (f := fun k => quadI p (symb p (numP p ((many : Int) + k)) m)) (b := 7) (fun i => by have := quadI_in (p := p) (s := symb p (numP p ((many : Int) + i)) m); omega) i
    have hs1 := quadI_in (p := p) (s := symb p (numP p ((many : Int) + i)) m)
    have w1 : IntKind.i64.wrap (sumZ (fun k => quadI p (symb p (numP p ((many : Int) + k)) m)) i + quadI p (symb p (numP p ((many : Int) + i)) m)) = sumZ (fun k => quadI p (symb p (numP p ((many : Int) + k)) m)) (i + 1) := w64 (by omega)
    have w4 : IntKind.i64.wrap ((i : Int) + 1) = ((i + 1 : Nat) : Int) := (w64 (x := (i : Int) + 1) (by omega)).trans (by omega)
    have ih := l_sp0h (O := O) hq hm hml hmany hst hhp k (i + 1) (by omega)
    obtain ⟨b, rfl⟩ := hhp
    refine dn_round ?_ ih
    simp -implicitDefEqProofs [ir_impl_SymbolPolynomial_h_L0, dn_cond, hlt, e1, w1, w4, hst]

theorem l_sp1h {O : Oracle} (hq : K_quad O) (hmo : K_monics O) {p : Int} [IsP p] {m : Fp p} (hm : m ≠ 0) (hml : m.len ≤ 6) {n : Nat} (hn : n + 1 = m.len) (hcnt : ∀ d, d < n → p ^ d ≤ 343) : ∀ (k i : Nat) (cp : Option Nat), i + k = n → ∃ cp' : Option Nat,
    dn O 0 (.loop ir_impl_SymbolPolynomial_h_L1) ⟨[(7, (.d (.int .i64 p))), (8, (.d (.sl .leaf (ints .i64 (row m))))), (9, .sl 4 [] 0 i cp), (32, (.d (.int .i64 n))), (33, (.d (.int .i64 i)))], [.hole, .hole, .hole, .hole, .sl false .leaf (ints .i64 ((List.range i).map (symSum p m))), .hole, .hole]⟩ =
      some (.exit 0, ⟨[(7, (.d (.int .i64 p))), (8, (.d (.sl .leaf (ints .i64 (row m))))), (9, .sl 4 [] 0 n cp'), (32, (.d (.int .i64 n))), (33, (.d (.int .i64 n))), (34, (.d (.bool false)))], [.hole, .hole, .hole, .hole, .sl false .leaf (ints .i64 ((List.range n).map (symSum p m))), .hole, .hole]⟩)
  | 0, i, cp, hi => by
    obtain rfl : i = n := by omega
    exact ⟨cp, dn_stop (by simp -implicitDefEqProofs [ir_impl_SymbolPolynomial_h_L1, dn_cond])⟩
  | k + 1, i, cp, hi => by
    have hlt : i < n := by omega
    obtain ⟨many, g1, g2, e1⟩ := hmo p i (by omega)
    have hc := hcnt i hlt
    have hpos := ppow_pos (p := p) i
    rw [normL_eq i 1 (by omega) (by omega), Int.one_mul] at g1
    have hml2 : m.len ≤ 13 := by omega
    have e2 := l_sp0h (O := O) hq hm hml2 (many := many) g2 (st := .sl 4 [] 0 i cp) (vd := (.d (.int .i64 n))) (vi := (.d (.int .i64 i))) (hp := [.hole, .hole, .hole, .hole, .sl false .leaf (ints .i64 ((List.range i).map (symSum p m))), .hole, .hole]) ⟨rfl, rfl, rfl⟩ ⟨_, rfl⟩ many 0 (Nat.zero_add _)
    have hss : sumZ (fun k => quadI p (symb p (numP p ((many : Int) + k)) m)) many = symSum p m i := by
      unfold symSum
      rw [← g1]; rfl
    rw [hss] at e2
    have e0 : sumZ (fun k => quadI p (symb p (numP p ((many : Int) + k)) m)) 0 = 0 := rfl
    have e00 : ((0 : Nat) : Int) = 0 := rfl
    rw [e0, e00] at e2
    obtain ⟨cp', ih⟩ := l_sp1h (O := O) hq hmo hm hml hn hcnt k (i + 1) none (by omega)
    have w4 : IntKind.i64.wrap ((i : Int) + 1) = ((i + 1 : Nat) : Int) := (w64 (x := (i : Int) + 1) (by omega)).trans (by omega)
    have h8 : (i + 1) * 8 ≤ 1099511627776 := by omega
    have o1 : ints .i64 ((List.range (i + 1)).map (symSum p m)) = ints .i64 ((List.range i).map (symSum p m)) ++ [D.int .i64 (symSum p m i)] := by
      rw [← range_snoc i (symSum p m), ← ints_append]; rfl
    have hL : ((List.range i).map (symSum p m)).length = i := by simp
    have ht : ((List.range i).map (symSum p m)).take i = (List.range i).map (symSum p m) := List.take_of_length_le (by simp)
    rw [o1] at ih
    have hML : ((List.range many).map fun (k : Nat) => (D.sl .leaf (ints .i64 (row (numP p ((many : Int) + k)))))).length = many := by simp
    refine ⟨cp', dn_round ?_ ih⟩
    generalize (List.range i).map (symSum p m) = L at *
    generalize (List.range many).map (fun (k : Nat) => (D.sl .leaf (ints .i64 (row (numP p ((many : Int) + k)))))) = ML at *
    simp -implicitDefEqProofs [ir_impl_SymbolPolynomial_h_L1, dn_cond, hlt, e1, e2, w4, h8, hL, ht, hML, List.replicate]

def H_SymbolPolynomial (O : Oracle) : Prop := ∀ (p : Int) (l : List Int), Bytes l → l.length = 64 → ∃ (s : List Int) (c : Int) (cp : Option Nat), symPolyD p l = .tup [(D.sl .leaf (ints .i64 s)), (D.int .i64 c)] ∧ s.length < 100 ∧
  O F_impl_SymbolPolynomial_h [.d (D.int .i64 p), .d (D.arr 64 .leaf (ints .u8 l))] [] = some (.tup [.sl 0 [] 0 s.length cp, .d (D.int .i64 c)], [], [.sl false .leaf (ints .i64 s)])
theorem h_SymbolPolynomial (hT : T F_impl_SymbolPolynomial_h = some ir_impl_SymbolPolynomial_h) (hmc : H_monicCode (den T A)) (hro : K_rowOf (den T A)) (hdg : C_degree (den T A)) (his : C_isSummed (den T A)) (hq : K_quad (den T A)) (hmo : K_monics (den T A)) : H_SymbolPolynomial (den T A) := by
  intro p l hb hl
  have hc := hmc p l 5 (decide (p ≠ 2)) hb hl (by omega)
  have hr : (!decide (p = 2)) = decide (p ≠ 2) := by simp
  have e5 : ((5 : Nat) : Int) = 5 := rfl
  rw [e5] at hc
  rcases arg1 p hb hl with ⟨h1, h2⟩ | ⟨ip, a, hal, rfl⟩
  · rw [symPolyD_bad h1]
    have e1 := hc.1 h1
    generalize decide (p ≠ 2) = r at *
    refine ⟨[], 1, some 0, rfl, by simp, den_of hT rfl ?_⟩
    simp -implicitDefEqProofs [ir_impl_SymbolPolynomial_h, ir_impl_SymbolPolynomial_h_B, dn_cond, hr, e1, ints_nil, List.idxOf, List.findIdx, List.findIdx.go, List.replicate]
  · rw [symPolyD_good hal]
    have e1 := hc.2 ip a hal rfl
    generalize decide (p ≠ 2) = r at *
    by_cases h0 : monOk a 5 r = 0
    · have hM : Monic a ∧ 2 ≤ a.len ∧ a.len ≤ 5 + 1 ∧ r = true := by
        unfold monOk at h0
        split at h0
        · assumption
        · omega
      obtain ⟨hM, hl2, hl6, _⟩ := hM
      rw [h0] at e1
      have e2 := hro p a hal
      have e3 := hdg (row a) (by rw [row_length]; omega)
      rw [row_length, show ((a.len : Int) - 1) = ((a.len - 1 : Nat) : Int) by omega] at e3
      have w1 : IntKind.i64.wrap (((a.len - 1 : Nat) : Int) - 1) = ((a.len - 2 : Nat) : Int) := (w64 (x := ((a.len - 1 : Nat) : Int) - 1) (by omega)).trans (by omega)
      have e4 := his p (a.len - 2) (by omega)
      by_cases h3 : p ^ (a.len - 2) ≤ 343
      · rw [if_pos ⟨h0, h3⟩]
        rw [decide_eq_true h3] at e4
        obtain ⟨cp, e6⟩ := l_sp1h (O := den T A) hq hmo hM.2 hl6 (n := a.len - 1) (by omega) (fun d hd => by
          have := ipow_mono (p := p) (by have := IsP.pos (p := p); omega) (show d ≤ a.len - 2 by omega)
          omega) (a.len - 1) 0 (some 0) (Nat.zero_add _)
        have e00 : ((0 : Nat) : Int) = 0 := rfl
        rw [e00, List.range_zero, List.map_nil, ints_nil] at e6
        have e7 : (List.range (a.len - 1)).map (symSum p a) = symPoly p a := rfl
        rw [e7] at e6
        have hL : (symPoly p a).length = a.len - 1 := by simp [symPoly]
        have ht : (symPoly p a).take (a.len - 1) = symPoly p a := List.take_of_length_le (by omega)
        have hn5 : (symPoly p a).length < 100 := by rw [hL]; omega
        generalize symPoly p a = S at *
        generalize a.len - 1 = n at *
        refine ⟨S, 0, cp, rfl, hn5, den_of hT rfl ?_⟩
        simp -implicitDefEqProofs [ir_impl_SymbolPolynomial_h, ir_impl_SymbolPolynomial_h_B, dn_cond, hr, e1, e2, e3, e4, w1, e6, hL, List.idxOf, List.findIdx, List.findIdx.go, List.replicate]
      · rw [if_neg (fun h => h3 h.2)]
        rw [decide_eq_false h3] at e4
        generalize a.len - 1 = n at *
        refine ⟨[], 2, some 0, rfl, by simp, den_of hT rfl ?_⟩
        simp -implicitDefEqProofs [ir_impl_SymbolPolynomial_h, ir_impl_SymbolPolynomial_h_B, dn_cond, hr, e1, e2, e3, e4, w1, ints_nil, List.idxOf, List.findIdx, List.findIdx.go, List.replicate]
    · rw [if_neg (fun h => h0 h.1)]
      have h2 : monOk a 5 r = 2 := by
        unfold monOk at h0 ⊢
        split
        · rename_i h; rw [if_pos h] at h0; exact absurd rfl h0
        · rfl
      rw [h2] at e1
      refine ⟨[], 2, some 0, rfl, by simp, den_of hT rfl ?_⟩
      simp -implicitDefEqProofs [ir_impl_SymbolPolynomial_h, ir_impl_SymbolPolynomial_h_B, dn_cond, hr, e1, ints_nil, List.idxOf, List.findIdx, List.findIdx.go, List.replicate]


/-! ### lists of numbers in the laws -/
theorem l_eqI {O : Oracle} {l : List Int} (hl : l.length < 1000000) : ∀ (k i : Nat), i + k = l.length →
    dn O 0 (.loop ir_laws_eqInt64S_L0) ⟨[(0, (.d (.sl .leaf (ints .i64 l)))), (1, (.d (.sl .leaf (ints .i64 l)))), (5, (.d (.int .i64 i)))], []⟩ = some (.exit 0, ⟨[(0, (.d (.sl .leaf (ints .i64 l)))), (1, (.d (.sl .leaf (ints .i64 l)))), (5, (.d (.int .i64 l.length))), (14, (.d (.bool false)))], []⟩)
  | 0, i, hi => by
    obtain rfl : i = l.length := by omega
    exact dn_stop (by simp -implicitDefEqProofs [ir_laws_eqInt64S_L0, dn_cond])
  | k + 1, i, hi => by
    have hlt : i < l.length := by omega
    have hx : l[i] = cf l i := (cf_lt hlt).symm
    have w4 : IntKind.i64.wrap ((i : Int) + 1) = ((i + 1 : Nat) : Int) := (w64 (x := (i : Int) + 1) (by omega)).trans (by omega)
    refine dn_round ?_ (l_eqI hl k (i + 1) (by omega))
    simp -implicitDefEqProofs [ir_laws_eqInt64S_L0, dn_cond, hlt, hx, w4]
def C_eqI (O : Oracle) : Prop := ∀ l : List Int, l.length < 1000000 → ask O F_laws_eqInt64S [(D.sl .leaf (ints .i64 l)), (D.sl .leaf (ints .i64 l))] = some (D.bool true)
theorem c_eqI (hT : T F_laws_eqInt64S = some ir_laws_eqInt64S) : C_eqI (den T A) := by
  intro l hl
  have e := l_eqI (O := den T A) hl l.length 0 (Nat.zero_add _)
  have e00 : ((0 : Nat) : Int) = 0 := rfl
  rw [e00] at e
  refine ask_of hT rfl ?_
  simp -implicitDefEqProofs [ir_laws_eqInt64S, ir_laws_eqInt64S_B, dn_cond, e]

/-- The marks. -/
def marks (n : Nat) : List Int := (List.range n).map fun (i : Nat) => (i : Int) + 1
theorem l_heldI {O : Oracle} {n : Nat} (hn : n < 1000000) : ∀ (k i : Nat), i + k = n →
    dn O 0 (.loop ir_laws_heldInt64S_L0) ⟨[(0, (.d (.sl .leaf (ints .i64 (marks n))))), (1, (.d (.int .i64 (((i + 1 : Nat) : Int))))), (5, (.d (.int .i64 i)))], []⟩ = some (.exit 0, ⟨[(0, (.d (.sl .leaf (ints .i64 (marks n))))), (1, (.d (.int .i64 (((n + 1 : Nat) : Int))))), (5, (.d (.int .i64 n))), (9, (.d (.bool false)))], []⟩)
  | 0, i, hi => by
    obtain rfl : i = n := by omega
    have hL : (marks i).length = i := by simp [marks]
    exact dn_stop (by simp -implicitDefEqProofs [ir_laws_heldInt64S_L0, dn_cond, hL])
  | k + 1, i, hi => by
    have hlt : i < n := by omega
    have hL : (marks n).length = n := by simp [marks]
    have hx : (marks n)[i]'(by omega) = ((i + 1 : Nat) : Int) := by simp [marks]
    have w4 : IntKind.i64.wrap ((i : Int) + 1) = ((i + 1 : Nat) : Int) := (w64 (x := (i : Int) + 1) (by omega)).trans (by omega)
    have w5 : IntKind.i64.wrap (((i + 1 : Nat) : Int) + 1) = ((i + 1 + 1 : Nat) : Int) := (w64 (x := ((i + 1 : Nat) : Int) + 1) (by omega)).trans (by omega)
    have w5' : IntKind.i64.wrap ((i : Int) + 1 + 1) = ((i + 1 + 1 : Nat) : Int) := (w64 (x := (i : Int) + 1 + 1) (by omega)).trans (by omega)
    refine dn_round ?_ (l_heldI hn k (i + 1) (by omega))
    simp -implicitDefEqProofs [ir_laws_heldInt64S_L0, dn_cond, hlt, hL, hx, w4, w5']
def C_heldI (O : Oracle) : Prop := ∀ n : Nat, n < 1000000 → ask O F_laws_heldInt64S [(D.sl .leaf (ints .i64 (marks n))), (D.int .i64 1)] = some (D.int .i64 (n + 1))
theorem c_heldI (hT : T F_laws_heldInt64S = some ir_laws_heldInt64S) : C_heldI (den T A) := by
  intro n hn
  have e := l_heldI (O := den T A) hn n 0 (Nat.zero_add _)
  have e00 : ((0 : Nat) : Int) = 0 := rfl
  have e01 : ((0 + 1 : Nat) : Int) = 1 := rfl
  rw [e00, e01] at e
  refine ask_of hT rfl ?_
  simp -implicitDefEqProofs [ir_laws_heldInt64S, ir_laws_heldInt64S_B, e]

theorem l_markI {O : Oracle} {n : Nat} {cp : Option Nat} (hn : n < 1000000) : ∀ (k i : Nat) (q : List Int), i + k = n → q.length = n → q.take i = marks i →
    dn O 1 (.loop ir_laws_markInt64S_L0) ⟨[(0, .sl 0 [] 0 n cp), (1, (.d (.int .i64 (((i + 1 : Nat) : Int))))), (5, (.d (.int .i64 i)))], [.sl false .leaf (ints .i64 q)]⟩ =
      some (.exit 0, ⟨[(0, .sl 0 [] 0 n cp), (1, (.d (.int .i64 (((n + 1 : Nat) : Int))))), (5, (.d (.int .i64 n))), (9, (.d (.bool false)))], [.sl false .leaf (ints .i64 (marks n))]⟩)
  | 0, i, q, hi, hq, ht => by
    obtain rfl : i = n := by omega
    rw [List.take_of_length_le (by omega)] at ht
    subst ht
    exact dn_stop (by simp -implicitDefEqProofs [ir_laws_markInt64S_L0, dn_cond])
  | k + 1, i, q, hi, hq, ht => by
    have hlt : i < n := by omega
    have hltq : i < q.length := by omega
    have w4 : IntKind.i64.wrap ((i : Int) + 1) = ((i + 1 : Nat) : Int) := (w64 (x := (i : Int) + 1) (by omega)).trans (by omega)
    have w5 : IntKind.i64.wrap (((i + 1 : Nat) : Int) + 1) = ((i + 1 + 1 : Nat) : Int) := (w64 (x := ((i + 1 : Nat) : Int) + 1) (by omega)).trans (by omega)
    have hs : ints .i64 (q.set i ((i + 1 : Nat) : Int)) = (ints .i64 q).set i (D.int .i64 ((i + 1 : Nat) : Int)) := by unfold ints; rw [List.map_set]
    refine dn_round ?_ (l_markI hn k (i + 1) (q.set i ((i + 1 : Nat) : Int)) (by omega) (by rw [List.length_set]; exact hq) (by
      rw [List.take_succ_eq_append_getElem (by rw [List.length_set]; exact hltq), List.getElem_set_self, List.take_set, List.set_eq_of_length_le (by rw [List.length_take]; omega), ht]
      unfold marks
      rw [List.range_succ, List.map_append]
      rfl))
    rw [hs]
    generalize ((i + 1 : Nat) : Int) = I1 at *
    simp -implicitDefEqProofs [ir_laws_markInt64S_L0, dn_cond, hlt, hq, w4, w5]
def H_markI (O : Oracle) : Prop := ∀ (s : List Int) (cp : Option Nat), s.length < 1000000 →
  O F_laws_markInt64S [.sl 0 [] 0 s.length cp, (.d (.int .i64 1))] [.sl false .leaf (ints .i64 s)] = some ((.d (.int .i64 (((s.length + 1 : Nat) : Int)))), [.sl false .leaf (ints .i64 (marks s.length))], [])
theorem h_markI (hT : T F_laws_markInt64S = some ir_laws_markInt64S) : H_markI (den T A) := by
  intro s cp hn
  have e := l_markI (O := den T A) (cp := cp) hn s.length 0 s (Nat.zero_add _) rfl rfl
  have e00 : ((0 : Nat) : Int) = 0 := rfl
  have e01 : ((0 + 1 : Nat) : Int) = 1 := rfl
  rw [e00, e01] at e
  refine den_of hT rfl ?_
  simp -implicitDefEqProofs [ir_laws_markInt64S, ir_laws_markInt64S_B, e, List.idxOf, List.findIdx]

def L_SymbolPolynomial (O : Oracle) : Prop := ∀ (p : Int) (l : List Int), Bytes l → l.length = 64 → ask O F_laws_FnExactSymbolPolynomial [(D.int .i64 p), (D.arr 64 .leaf (ints .u8 l))] = some (D.bool true)
theorem law_SymbolPolynomial (hT : T F_laws_FnExactSymbolPolynomial = some ir_laws_FnExactSymbolPolynomial) (hp : C_toPoly (den T A)) (hi : K_SymbolPolynomial (den T A) F_impl_SymbolPolynomial) (hh : H_SymbolPolynomial (den T A)) (hs : K_SymbolPolynomial (den T A) F_spec_SymbolPolynomial)
    (he : C_eqI (den T A)) (hm : H_markI (den T A)) (hd : C_heldI (den T A)) : L_SymbolPolynomial (den T A) := by
  intro p l hb hl
  have e1 := hp l hb hl
  have e2 := hi p l hb hl
  have e3 := hs p l hb hl
  obtain ⟨s, c, cp, e4, h4, e5⟩ := hh p l hb hl
  rw [e4] at e2 e3
  have e6 := he s (by omega)
  have e7 := hm s cp (by omega)
  have e8 := hd s.length (by omega)
  have ht : s.take s.length = s := List.take_of_length_le (Nat.le_refl _)
  have ht2 : (marks s.length).take s.length = marks s.length := List.take_of_length_le (by simp [marks])
  have hL : (marks s.length).length = s.length := by simp [marks]
  refine ask_of hT rfl ?_
  generalize marks s.length = M at *
  have h0 : ¬ ((s.length : Int) + 1 < 0) := by omega
  simp -implicitDefEqProofs [ir_laws_FnExactSymbolPolynomial, ir_laws_FnExactSymbolPolynomial_B, dn_cond, e1, e2, e3, e5, e6, e7, e8, ht, ht2, hL, h0, List.replicate]
end Pe
