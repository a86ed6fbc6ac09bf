/-
  A part of the proof: an evaluator for a small form of the code, its soundness, and contracts of functions over it.
-/
import Derived.Test.YtbangpnofnhhnaaGreatW1
import Derived.Test.YtbangpnofnhhnaaGreatW2
import Derived.Test.YtbangpnofnhhnaaGreatW3
import Derived.Test.YtbangpnofnhhnaaGreatW4
import Derived.Test.YtbangpnofnhhnaaGreatW5

namespace Pe
open Go Gq
variable {T : Nat → Option Fn} {A : Oracle}
theorem l_sSkVal {O : Oracle} (hfr : K_sFrob O) (hmm : K_sMulMod O) (ha : K_sAdd O) {p : Int} [IsP p] {m x : Fp p} {z : List Int} (h2 : 2 ≤ m.len) (hml : m.len ≤ 64) (hx : x.len < m.len) {S : List (Fp p)} (h8 : S.length = 8) (hS : ∀ a ∈ S, a.len < m.len) : ∀ (k i : Nat) (out : Fp p), i + k = 8 → out.len < m.len →
    dn O 0 (.loop ir_spec_l03Value_L0) ⟨[(0, (.d (.int .i64 p))), (5, .ptr 0 []), (6, .ptr 1 []), (7, .ptr 2 []), (8, .ptr 3 []), (9, .ptr 4 []), (10, (.d (.int .i64 i)))], [.box false (D.arr 64 .leaf (ints .u8 (pad (row m)))), .box false (.arr 8 (.arr 64 .leaf) ((skP S).map arr8)), .box false (D.arr 64 .leaf (ints .u8 (pad (row x)))), .box false (D.arr 64 .leaf (ints .u8 z)), .box false (D.arr 64 .leaf (ints .u8 (pad (row out))))]⟩ =
      some (.exit 0, ⟨[(0, (.d (.int .i64 p))), (5, .ptr 0 []), (6, .ptr 1 []), (7, .ptr 2 []), (8, .ptr 3 []), (9, .ptr 4 []), (10, (.d (.int .i64 8))), (13, (.d (.bool false)))], [.box false (D.arr 64 .leaf (ints .u8 (pad (row m)))), .box false (.arr 8 (.arr 64 .leaf) ((skP S).map arr8)), .box false (D.arr 64 .leaf (ints .u8 (pad (row x)))), .box false (D.arr 64 .leaf (ints .u8 z)), .box false (D.arr 64 .leaf (ints .u8 (pad (row (svI m x i (S.drop i) out)))))]⟩)
  | 0, i, out, hi, ho => by
    obtain rfl : i = 8 := by omega
    rw [List.drop_eq_nil_of_le (by omega)]
    refine dn_stop ?_
    show _ = some (_, (⟨_, [_, _, _, _, .box false (D.arr 64 .leaf (ints .u8 (pad (row out))))]⟩ : St))
    generalize (skP S).map arr8 = LD at *
    generalize pad (row out) = Po at *
    generalize pad (row x) = Px at *
    generalize pad (row m) = Pm at *
    simp -implicitDefEqProofs [ir_spec_l03Value_L0, dn_cond]
  | k + 1, i, out, hi, ho => by
    have hm : m ≠ 0 := fun h => by rw [h, Pol.len_zero] at h2; omega
    have hi8 : i < 8 := by omega
    have hi8' : (i : Int) < 8 := by omega
    have hlt : i < S.length := by omega
    have hm1 := List.getElem_mem hlt
    have hsl := hS _ hm1
    have hL : ((skP S).map arr8).length = 8 := by rw [List.length_map, List.length_map]; exact h8
    have hx2 : ∀ h : i < ((skP S).map arr8).length, ((skP S).map arr8)[i]'h = (D.arr 64 .leaf (ints .u8 (pad (row S[i])))) := fun h => by rw [List.getElem_map, List.getElem_map]
    have w4 : IntKind.i64.wrap ((i : Int) + 1) = ((i + 1 : Nat) : Int) := (w64 (x := (i : Int) + 1) (by omega)).trans (by omega)
    have t3 : pad (row S[i]) = pad [] ↔ S[i] = 0 := by
      rw [← row_zero (p := p), pad_row_inj (by omega) (by rw [Pol.len_zero]; omega)]
    have e4 := beq_P (pad_length (row S[i])) (pad_length [])
    have hd : S.drop i = S[i] :: S.drop (i + 1) := List.drop_eq_getElem_cons hlt
    have hsv : svI m x i (S.drop i) out = svI m x (i + 1) (S.drop (i + 1)) (out + S[i] * frIt m (i % (m.len - 1)) x % m) := by rw [hd]; rfl
    rw [hsv]
    by_cases hz : S[i] = 0
    · rw [decide_eq_true (t3.2 hz)] at e4
      have hsame : out + S[i] * frIt m (i % (m.len - 1)) x % m = out := by rw [hz, Gq.zero_mul, Pol.zero_mod hm, Gq.add_zero]
      rw [hsame]
      refine dn_round ?_ (l_sSkVal hfr hmm ha h2 hml hx h8 hS k (i + 1) out (by omega) ho)
      generalize (skP S).map arr8 = LD at *
      generalize pad (row S[i]) = Pi at *
      generalize pad (row out) = Po at *
      generalize pad (row x) = Px at *
      generalize pad (row m) = Pm at *
      simp -implicitDefEqProofs [ir_spec_l03Value_L0, dn_cond, hi8, hi8', hL, hx2, e4, w4]
    · rw [decide_eq_false (fun h => hz (t3.1 h))] at e4
      have e1 := hfr p m x i h2 hml (by omega) (by omega)
      have hfl := frIt_len hm (i % (m.len - 1)) x hx
      have e2 := hmm p S[i] (frIt m (i % (m.len - 1)) x) m hm hml (by omega) (by omega)
      have hl := Pol.len_mod (S[i] * frIt m (i % (m.len - 1)) x) hm
      have e3 := ha p 1 out (S[i] * frIt m (i % (m.len - 1)) x % m) (by omega) (by omega) (by omega) (by omega)
      rw [zp_one, Pol.C_one, Gq.one_mul] at e3
      have hl2 := Pol.len_add_le (a := out) (b := S[i] * frIt m (i % (m.len - 1)) x % m) (n := m.len - 1) (by omega) (by omega)
      refine dn_round ?_ (l_sSkVal hfr hmm ha h2 hml hx h8 hS k (i + 1) _ (by omega) (by omega))
      generalize pad (row (out + S[i] * frIt m (i % (m.len - 1)) x % m)) = P1 at *
      generalize pad (row (S[i] * frIt m (i % (m.len - 1)) x % m)) = P2 at *
      generalize pad (row (frIt m (i % (m.len - 1)) x)) = P3 at *
      generalize (skP S).map arr8 = LD at *
      generalize pad (row S[i]) = Pi at *
      generalize pad (row out) = Po at *
      generalize pad (row x) = Px at *
      generalize pad (row m) = Pm at *
      simp -implicitDefEqProofs [ir_spec_l03Value_L0, dn_cond, hi8, hi8', hL, hx2, e1, e2, e3, e4, w4]
def K_sSkVal (O : Oracle) : Prop := ∀ (p : Int) [IsP p] (m x : Fp p) (S : List (Fp p)), 2 ≤ m.len → m.len ≤ 64 → x.len < m.len → S.length = 8 → (∀ a ∈ S, a.len < m.len) → ask O F_spec_l03Value [(D.int .i64 p), (D.arr 64 .leaf (ints .u8 (pad (row m)))), skwD (skP S), (D.arr 64 .leaf (ints .u8 (pad (row x))))] = some (D.arr 64 .leaf (ints .u8 (pad (row (svI m x 0 S 0)))))
theorem k_sSkVal (hT : T F_spec_l03Value = some ir_spec_l03Value) (hfr : K_sFrob (den T A)) (hmm : K_sMulMod (den T A)) (ha : K_sAdd (den T A)) : K_sSkVal (den T A) := by
  intro p ip m x S h2 hml hx h8 hS
  have e := l_sSkVal (O := den T A) (z := pad []) hfr hmm ha h2 hml hx h8 hS 8 0 0 rfl (by rw [Pol.len_zero]; omega)
  have e00 : ((0 : Nat) : Int) = 0 := rfl
  rw [e00, List.drop_zero, row_zero] at e
  have hsk : skwD (skP S) = .arr 8 (.arr 64 .leaf) ((skP S).map arr8) := rfl
  rw [hsk]
  refine ask_of hT rfl ?_
  generalize (skP S).map arr8 = LD at *
  generalize pad (row (svI m x 0 S 0)) = PR at *
  generalize pad (row x) = Px at *
  generalize pad (row m) = Pm at *
  simp -implicitDefEqProofs [ir_spec_l03Value, ir_spec_l03Value_B, e, List.replicate]
/-- What is asked of a skew polynomial and a residue. -/
def VsOk (p : Int) (l : List Int) (ls : List (List Int)) (x : List Int) : Prop := ∃ (_ : IsP p) (m : Fp p), l = pad (row m) ∧ Fld m ∧ IsSk m ls ∧ IsRes m x
open Classical in
noncomputable def vsD (p : Int) (l : List Int) (ls : List (List Int)) (x : List Int) : D :=
  if h : VsOk p l ls x then
    haveI : IsP p := h.choose
    .tup [(D.arr 64 .leaf (ints .u8 (pad (row (svI (polOf p l) (polOf p x) 0 (ls.map (polOf p)) 0))))), (D.int .i64 0)]
  else .tup [(D.arr 64 .leaf (ints .u8 (pad []))), (D.int .i64 1)]
theorem vsD_bad {p : Int} {l x : List Int} {ls : List (List Int)} (h : ¬ VsOk p l ls x) : vsD p l ls x = .tup [(D.arr 64 .leaf (ints .u8 (pad []))), (D.int .i64 1)] := by
  unfold vsD; rw [dif_neg h]
theorem map_polOf {p : Int} {S : List (Fp p)} (hS : ∀ a ∈ S, a.len ≤ 64) : (skP S).map (polOf p) = S := by
  unfold skP
  rw [List.map_map]
  conv => rhs; rw [← List.map_id S]
  exact List.map_congr_left fun a ha => polOf_pad (hS a ha)
theorem vsD_good {p : Int} [IsP p] {m x : Fp p} {S : List (Fp p)} (h : VsOk p (pad (row m)) (skP S) (pad (row x))) (hm : m.len ≤ 64) (hx : x.len ≤ 64) (hS : ∀ a ∈ S, a.len ≤ 64) : vsD p (pad (row m)) (skP S) (pad (row x)) = .tup [(D.arr 64 .leaf (ints .u8 (pad (row (svI m x 0 S 0))))), (D.int .i64 0)] := by
  unfold vsD
  rw [dif_pos h, polOf_pad hm, polOf_pad hx, map_polOf hS]
def K_ValueOfSkew (O : Oracle) (F : Nat) : Prop := ∀ (p : Int) (l : List Int) (ls : List (List Int)) (x : List Int), Bytes l → l.length = 64 → Sk8 ls → Bytes x → x.length = 64 → ask O F [(D.int .i64 p), (D.arr 64 .leaf (ints .u8 l)), skwD ls, (D.arr 64 .leaf (ints .u8 x))] = some (vsD p l ls x)
open Classical in
theorem codes_vs {p : Int} {l x : List Int} {ls : List (List Int)} : (codeSk p l [ls] = 0 ∧ codeRs p l [x] = 0) ↔ VsOk p l ls x := by
  unfold codeSk codeRs
  constructor
  · rintro ⟨h1, h2⟩
    split at h1
    · split at h2
      · rename_i g1 g2
        obtain ⟨ip, m, e1, f1, s1⟩ := g1
        obtain ⟨ip2, m2, e2, f2, s2⟩ := g2
        have h5 := f1.five
        have h6 := f2.five
        rw [e1] at e2
        obtain rfl := (pad_row_inj (by omega) (by omega)).1 e2
        exact ⟨ip, m, e1, f1, s1 _ (by simp), s2 _ (by simp)⟩
      · cases h2
    · cases h1
  · rintro ⟨ip, m, e, f, s, r⟩
    exact ⟨if_pos ⟨ip, m, e, f, by simpa using s⟩, if_pos ⟨ip, m, e, f, by simpa using r⟩⟩
theorem codeSk_01 (p : Int) (l : List Int) (lss : List (List (List Int))) : codeSk p l lss = 0 ∨ codeSk p l lss = 1 := by
  unfold codeSk; split
  · exact .inl rfl
  · exact .inr rfl
theorem codeRs_01 (p : Int) (l : List Int) (ls : List (List Int)) : codeRs p l ls = 0 ∨ codeRs p l ls = 1 := by
  unfold codeRs; split
  · exact .inl rfl
  · exact .inr rfl
theorem k_ValueOfSkew (hT : T F_impl_ValueOfSkew = some ir_impl_ValueOfSkew) (hsc : C_skewsCode (den T A) F_impl_skewsCode) (hrc : C_resCode (den T A) F_impl_residuesCode) (hfo : K_fieldOf (den T A)) (hsk : K_skewOf (den T A)) (hro : K_rowOf (den T A)) (hva : K_value (den T A)) (hto : C_told (den T A)) : K_ValueOfSkew (den T A) F_impl_ValueOfSkew := by
  intro p l ls x bl gl h8 bx gx
  have e1 := hsc p l [ls] bl gl (by simpa using h8) (by simp)
  have e2 := hrc p l [x] bl gl (by intro y hy; simp at hy; subst hy; exact ⟨gx, bx⟩) (by simp)
  rw [show List.map skwD [ls] = [skwD ls] from rfl] at e1
  rw [show List.map arr8 [x] = [(D.arr 64 .leaf (ints .u8 x))] from rfl] at e2
  have hskd : skwD ls = .arr 8 (.arr 64 .leaf) (ls.map arr8) := rfl
  have hL : (ls.map arr8).length = 8 := by rw [List.length_map]; exact h8.2
  by_cases h : VsOk p l ls x
  · obtain ⟨c1, c2⟩ := codes_vs.2 h
    rw [c1] at e1
    rw [c2] at e2
    have h' := h
    obtain ⟨ip, m, rfl, hm, hs, a, ha, rfl⟩ := h
    obtain ⟨S, rfl, hS⟩ := sk_of hs
    have h5 := hm.five
    have hS8 : S.length = 8 := by have := h8.2; rwa [List.length_map] at this
    rw [vsD_good h' (by omega) (by omega) (fun a ha => by have := hS a ha; omega)]
    have e3 := hfo p m (by omega)
    have e4 := hsk p S hS8 (fun a ha => by have := hS a ha; omega)
    have e5 := hro p a (by omega)
    have hts : ∀ c ∈ trimS S, c.len ≤ 1000 := fun c hc => by
      have := hS c (List.mem_of_mem_take hc); omega
    have e6 := hva p m a (trimS S) hm.two (by omega) (by omega) (by unfold trimS; rw [List.length_take]; omega) hts
    rw [svI_trim hm.mon.2] at e6
    have hvl := svI_len (x := a) hm.mon.2 0 S 0 (by rw [Pol.len_zero]; have := hm.two; omega)
    have e8 := hto (row (svI m a 0 S 0)) (row_bytes _) (by rw [row_length]; omega)
    unfold toldD at e8
    rw [if_pos (by rw [row_length]; omega)] at e8
    have hts2 : skD (trimS S) = .sl .leaf ((trimS S).map fun c => (D.sl .leaf (ints .i64 (row c)))) := rfl
    rw [hts2] at e4 e6
    rw [hskd] at e1 e4 ⊢
    refine ask_of hT rfl ?_
    generalize ((trimS S).map fun c => (D.sl .leaf (ints .i64 (row c)))) = TR at *
    generalize row (svI m a 0 S 0) = R1 at *
    generalize (skP S).map arr8 = LD at *
    generalize pad (row m) = Pm at *
    generalize pad (row a) = Pa at *
    simp -implicitDefEqProofs [ir_impl_ValueOfSkew, ir_impl_ValueOfSkew_B, dn_cond, e1, e2, e3, e4, e5, e6, e8, List.replicate]
  · rw [vsD_bad h]
    rw [hskd] at e1 ⊢
    refine ask_of hT rfl ?_
    rcases codeSk_01 p l [ls] with c1 | c1
    · rcases codeRs_01 p l [x] with c2 | c2
      · exact absurd (codes_vs.1 ⟨c1, c2⟩) h
      · rw [c1] at e1
        rw [c2] at e2
        generalize ls.map arr8 = LD at *
        simp -implicitDefEqProofs [ir_impl_ValueOfSkew, ir_impl_ValueOfSkew_B, dn_cond, e1, e2, List.replicate]
    · rw [c1] at e1
      generalize ls.map arr8 = LD at *
      simp -implicitDefEqProofs [ir_impl_ValueOfSkew, ir_impl_ValueOfSkew_B, dn_cond, e1, List.replicate]
open Classical in
theorem k_sValueOfSkew (hT : T F_spec_ValueOfSkew = some ir_spec_ValueOfSkew) (hsc : C_skewsCode (den T A) F_spec_l03Code) (hre : C_sRes (den T A)) (hva : K_sSkVal (den T A)) : K_ValueOfSkew (den T A) F_spec_ValueOfSkew := by
  intro p l ls x bl gl h8 bx gx
  have e1 := hsc p l [ls] bl gl (by simpa using h8) (by simp)
  rw [show List.map skwD [ls] = [skwD ls] from rfl] at e1
  have hskd : skwD ls = .arr 8 (.arr 64 .leaf) (ls.map arr8) := rfl
  have hL : (ls.map arr8).length = 8 := by rw [List.length_map]; exact h8.2
  rcases codeSk_01 p l [ls] with c1 | c1
  · rw [c1] at e1
    have c1' := c1
    unfold codeSk at c1'
    split at c1'
    case isFalse => cases c1'
    rename_i g1
    obtain ⟨ip, m, rfl, hm, hs⟩ := g1
    replace hs := hs ls (by simp)
    obtain ⟨S, rfl, hS⟩ := sk_of hs
    have h5 := hm.five
    have hS8 : S.length = 8 := by have := h8.2; rwa [List.length_map] at this
    have e2 := hre p m x (by omega) bx gx
    by_cases hr : IsRes m x
    · rw [decide_eq_true hr] at e2
      have h : VsOk p (pad (row m)) (skP S) x := ⟨ip, m, rfl, hm, hs, hr⟩
      have h' := h
      obtain ⟨a, ha, rfl⟩ := hr
      rw [vsD_good h' (by omega) (by omega) (fun a ha => by have := hS a ha; omega)]
      have e3 := hva p m a S hm.two (by omega) ha hS8 hS
      rw [hskd] at e1 e3 ⊢
      refine ask_of hT rfl ?_
      generalize row (svI m a 0 S 0) = R1 at *
      generalize (skP S).map arr8 = LD at *
      generalize pad (row m) = Pm at *
      generalize pad (row a) = Pa at *
      simp -implicitDefEqProofs [ir_spec_ValueOfSkew, ir_spec_ValueOfSkew_B, dn_cond, e1, e2, e3, List.replicate]
    · rw [decide_eq_false hr] at e2
      have h : ¬ VsOk p (pad (row m)) (skP S) x := fun h => by
        have := (fld_code hm (Q := fun ip m' => IsSk m' (skP S) ∧ @IsRes p ip m' x)).1 h
        exact hr this.2
      rw [vsD_bad h]
      rw [hskd] at e1 ⊢
      refine ask_of hT rfl ?_
      generalize (skP S).map arr8 = LD at *
      generalize pad (row m) = Pm at *
      simp -implicitDefEqProofs [ir_spec_ValueOfSkew, ir_spec_ValueOfSkew_B, dn_cond, e1, e2, List.replicate]
  · rw [c1] at e1
    have h : ¬ VsOk p l ls x := fun h => by have := (codes_vs.2 h).1; omega
    rw [vsD_bad h]
    rw [hskd] at e1 ⊢
    refine ask_of hT rfl ?_
    generalize ls.map arr8 = LD at *
    simp -implicitDefEqProofs [ir_spec_ValueOfSkew, ir_spec_ValueOfSkew_B, dn_cond, e1, List.replicate]
theorem vsD_form (p : Int) (l : List Int) (ls : List (List Int)) (x : List Int) : ∃ (r : List Int) (k : Int), vsD p l ls x = .tup [(D.arr 64 .leaf (ints .u8 r)), (D.int .i64 k)] ∧ r.length = 64 := by
  unfold vsD
  split
  · exact ⟨_, _, rfl, pad_length _⟩
  · exact ⟨_, _, rfl, pad_length _⟩
theorem l_toSk {O : Oracle} (hp : C_toPoly O) {ls : List (List Int)} (h : Sk8 ls) {b1 : Blk} : ∀ (k i : Nat) (Q : List D), i + k = 8 → Q.length = 8 → (∀ d ∈ Q, d.sh.beq (.arr 64 .leaf) = true) → Q.take i = (ls.map arr8).take i →
    dn O 0 (.loop ir_laws_toSkew_L0) ⟨[(1, .ptr 0 []), (2, .ptr 1 []), (3, .ptr 2 []), (4, (.d (.int .i64 i)))], [.box false (.arr 8 (.arr 64 .leaf) (ls.map arr8)), b1, .box false (.arr 8 (.arr 64 .leaf) Q)]⟩ =
      some (.exit 0, ⟨[(1, .ptr 0 []), (2, .ptr 1 []), (3, .ptr 2 []), (4, (.d (.int .i64 8))), (6, (.d (.bool false)))], [.box false (.arr 8 (.arr 64 .leaf) (ls.map arr8)), b1, .box false (.arr 8 (.arr 64 .leaf) (ls.map arr8))]⟩)
  | 0, i, Q, hi, hq, hQ, ht => by
    obtain rfl : i = 8 := by omega
    rw [List.take_of_length_le (by omega), List.take_of_length_le (by rw [List.length_map, h.2]; omega)] at ht
    subst ht
    refine dn_stop ?_
    generalize ls.map arr8 = LD at *
    simp -implicitDefEqProofs [ir_laws_toSkew_L0, dn_cond]
  | k + 1, i, Q, hi, hq, hQ, ht => by
    have hi8 : i < 8 := by omega
    have hi8' : (i : Int) < 8 := by omega
    have hsh : ∀ h : i < Q.length, (Q[i]'h).sh.beq (.arr 64 .leaf) = true := fun h => hQ _ (List.getElem_mem h)
    obtain ⟨l, hl, hx, hb, h64, hli⟩ := sk8_get h hi8
    have e1 := hp l hb h64
    have hL : (ls.map arr8).length = 8 := by rw [List.length_map]; exact h.2
    have hx2 : ∀ h : i < (ls.map arr8).length, (ls.map arr8)[i]'h = (D.arr 64 .leaf (ints .u8 l)) := fun h => by rw [List.getElem?_eq_getElem h] at hx; exact Option.some.inj hx
    have w4 : IntKind.i64.wrap ((i : Int) + 1) = ((i + 1 : Nat) : Int) := (w64 (x := (i : Int) + 1) (by omega)).trans (by omega)
    refine dn_round ?_ (l_toSk hp h k (i + 1) (Q.set i (D.arr 64 .leaf (ints .u8 l))) (by omega) (by rw [List.length_set]; exact hq) (fun d hd => by
      rcases List.mem_or_eq_of_mem_set hd with h1 | rfl
      · exact hQ d h1
      · rfl) (by
      rw [List.take_succ_eq_append_getElem (show i < (ls.map arr8).length by omega), List.take_succ_eq_append_getElem (by rw [List.length_set]; omega), List.getElem_set_self, List.take_set, List.set_eq_of_length_le (by rw [List.length_take]; omega), ht, hx2]))
    generalize ls.map arr8 = LD at *
    simp -implicitDefEqProofs [ir_laws_toSkew_L0, dn_cond, hi8, hi8', hL, hx2, hq, hsh, e1, w4]
def C_toSk (O : Oracle) : Prop := ∀ ls : List (List Int), Sk8 ls → ask O F_laws_toSkew [skwD ls] = some (skwD ls)
theorem c_toSk (hT : T F_laws_toSkew = some ir_laws_toSkew) (hp : C_toPoly (den T A)) : C_toSk (den T A) := by
  intro ls h
  have e := l_toSk (O := den T A) hp h (b1 := .box false (.arr 8 (.arr 64 .leaf) z8)) 8 0 z8 rfl rfl (fun d hd => by rw [List.eq_of_mem_replicate hd]; rfl) (by rw [List.take_zero, List.take_zero])
  have e00 : ((0 : Nat) : Int) = 0 := rfl
  rw [e00] at e
  have hskd : skwD ls = .arr 8 (.arr 64 .leaf) (ls.map arr8) := rfl
  rw [hskd]
  refine ask_of hT rfl ?_
  generalize ls.map arr8 = LD at *
  simp -implicitDefEqProofs [ir_laws_toSkew, ir_laws_toSkew_B, e, List.replicate]
theorem flats_arr8 : ∀ ls : List (List Int), D.flats (ls.map arr8) = true
  | [] => rfl
  | l :: ls => by
    show (D.flats (ints .u8 l) && D.flats (ls.map arr8)) = true
    rw [flats_arr8 ls, flats_ints]; rfl
def L_ValueOfSkew (O : Oracle) : Prop := ∀ (p : Int) (l : List Int), Bytes l → l.length = 64 → ∀ (ls : List (List Int)), Arrs ls → ls.length = 8 → ∀ (x : List Int), Bytes x → x.length = 64 → ask O F_laws_FnExactValueOfSkew [(D.int .i64 p), (D.arr 64 .leaf (ints .u8 l)), skwD ls, (D.arr 64 .leaf (ints .u8 x))] = some (D.bool true)
theorem law_ValueOfSkew (hT : T F_laws_FnExactValueOfSkew = some ir_laws_FnExactValueOfSkew) (hp : C_toPoly (den T A)) (hk : C_toSk (den T A)) (he : C_eqPoly (den T A)) (hi : K_ValueOfSkew (den T A) F_impl_ValueOfSkew) (hs : K_ValueOfSkew (den T A) F_spec_ValueOfSkew) : L_ValueOfSkew (den T A) := by
  intro p l bl gl ls ha h8 x bx gx
  have e1 := hp l bl gl
  have e1' := hp x bx gx
  have e2 := hk ls ⟨ha, h8⟩
  have e3 := hi p l ls x bl gl ⟨ha, h8⟩ bx gx
  have e4 := hs p l ls x bl gl ⟨ha, h8⟩ bx gx
  obtain ⟨r, k, e5, g1⟩ := vsD_form p l ls x
  rw [e5] at e3 e4
  have e6 := he r g1
  have hskd : skwD ls = .arr 8 (.arr 64 .leaf) (ls.map arr8) := rfl
  rw [hskd] at e2 e3 e4 ⊢
  have hfl := flats_arr8 ls
  refine ask_of hT rfl ?_
  generalize ls.map arr8 = LD at *
  simp -implicitDefEqProofs [ir_laws_FnExactValueOfSkew, ir_laws_FnExactValueOfSkew_B, dn_cond, e1, e1', e2, e3, e4, e6, hfl, List.replicate]
end Pe

namespace Pe
open Go
abbrev tyS : Ty := .arr 8 tyP
theorem has_polys : ∀ (xs : List D), (∀ x ∈ xs, tyP.has x) → ∃ ls : List (List Int), xs = ls.map arr8 ∧ Arrs ls
  | [], _ => ⟨[], rfl, fun _ h => by cases h⟩
  | x :: xs, h => by
    obtain ⟨ls, rfl, hb⟩ := has_polys xs fun y hy => h y (List.mem_cons_of_mem _ hy)
    obtain ⟨l, rfl, b, g⟩ := has_P (h x (by simp))
    refine ⟨l :: ls, rfl, fun y hy => ?_⟩
    rcases List.mem_cons.1 hy with rfl | hy
    · exact ⟨g, b⟩
    · exact hb y hy
theorem has_S {d : D} (h : tyS.has d) : ∃ ls : List (List Int), d = skwD ls ∧ Arrs ls ∧ ls.length = 8 := by
  cases d <;> simp only [Ty.has] at h
  obtain ⟨rfl, rfl, h1, h2⟩ := h
  obtain ⟨ls, rfl, hb⟩ := has_polys _ h2
  exact ⟨ls, rfl, hb, by simpa using h1⟩
end Pe
