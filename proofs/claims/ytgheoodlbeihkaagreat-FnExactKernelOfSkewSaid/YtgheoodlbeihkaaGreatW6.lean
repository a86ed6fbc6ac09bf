/-
  A part of the proof: an evaluator for a small form of the code, its soundness, and contracts of functions over it.
-/
import Derived.Test.YtgheoodlbeihkaaGreatW1
import Derived.Test.YtgheoodlbeihkaaGreatW2
import Derived.Test.YtgheoodlbeihkaaGreatW3
import Derived.Test.YtgheoodlbeihkaaGreatW4
import Derived.Test.YtgheoodlbeihkaaGreatW5

namespace Pe
open Go Gq
variable {T : Nat → Option Fn} {A : Oracle}
theorem l_indexS {O : Oracle} {g : Nat} {first caps cs : List D} {P : D → Bool} (hF : FnBool O g first caps cs P) (hs : AllSh (.arr 8 (.arr 64 .leaf)) cs) (hl : cs.length < 2000000) : ∀ (m i : Nat), i + m = cs.length →
    dn O 0 (.loop ir_slices_IndexFunc_impl_Skew_impl_Skew_L0) ⟨[(0, .d (.sl (.arr 8 (.arr 64 .leaf)) cs)), (1, .d (.fn g first caps)), (7, (.d (.int .i64 cs.length))), (8, (.d (.int .i64 i)))], []⟩ =
      if (cs.drop i).any P then some (.ret, ⟨[(4, (.d (.int .i64 (idxF P (cs.drop i) i))))], []⟩) else some (.exit 0, ⟨[(0, .d (.sl (.arr 8 (.arr 64 .leaf)) cs)), (1, .d (.fn g first caps)), (7, (.d (.int .i64 cs.length))), (8, (.d (.int .i64 cs.length))), (9, (.d (.bool false)))], []⟩)
  | 0, i, hi => by
    have : i = cs.length := by omega
    subst this
    rw [List.drop_length]
    exact dn_stop (by simp -implicitDefEqProofs [ir_slices_IndexFunc_impl_Skew_impl_Skew_L0, dn_cond])
  | m + 1, i, hi => by
    have hlt : i < cs.length := by omega
    have h1 : (i : Int) < cs.length := by omega
    have hx : cs[i]? = some cs[i] := List.getElem?_eq_getElem hlt
    have hm : cs[i] ∈ cs := List.getElem_mem hlt
    have hc := call_fn (O := O) (np := 0) (h := []) (news := []) hF.1 hF.2.1 (hF.2.2.1 _ hm) (hF.2.2.2 _ hm) rfl
    have hsh := hs _ hm
    have w4 : IntKind.i64.wrap ((i : Int) + 1) = ((i + 1 : Nat) : Int) := (w64 (x := (i : Int) + 1) (by omega)).trans (by omega)
    rw [List.drop_eq_getElem_cons hlt]
    cases hp : P cs[i]
    · rw [hp] at hc
      refine dn_round (s1 := ⟨[(0, .d (.sl (.arr 8 (.arr 64 .leaf)) cs)), (1, .d (.fn g first caps)), (7, (.d (.int .i64 cs.length))), (8, (.d (.int .i64 ((i + 1 : Nat)))))], []⟩) ?_ ?_
      · simp -implicitDefEqProofs [ir_slices_IndexFunc_impl_Skew_impl_Skew_L0, dn_cond, h1, hx, hsh, hc, w4]
      · rw [l_indexS hF hs hl m (i + 1) (by omega)]
        simp only [List.any_cons, hp, Bool.false_or, idxF, Bool.false_eq_true, if_false]
    · rw [hp] at hc
      have e : idxF P (cs[i] :: cs.drop (i + 1)) i = i := by simp [idxF, hp]
      rw [e]
      simp only [List.any_cons, hp, Bool.true_or, if_true]
      exact dn_back (by simp -implicitDefEqProofs [ir_slices_IndexFunc_impl_Skew_impl_Skew_L0, dn_cond, h1, hx, hsh, hc])
theorem c_indexS (hT : T F_slices_IndexFunc_impl_Skew_impl_Skew = some ir_slices_IndexFunc_impl_Skew_impl_Skew) : C_indexOf (den T A) F_slices_IndexFunc_impl_Skew_impl_Skew (.arr 8 (.arr 64 .leaf)) := by
  intro g first caps cs P hF hs hl
  have h := l_indexS hF hs hl cs.length 0 (Nat.zero_add _)
  rw [List.drop_zero] at h
  have e0 : ((0 : Nat) : Int) = 0 := rfl
  rw [e0] at h
  refine ask_of hT rfl ?_
  by_cases ha : cs.any P = true
  · rw [if_pos ha] at h
    simp -implicitDefEqProofs [ir_slices_IndexFunc_impl_Skew_impl_Skew, ir_slices_IndexFunc_impl_Skew_impl_Skew_B, h]
  · rw [if_neg ha] at h
    have hn : idxF P cs 0 = -1 := by
      have hi : ∀ (ds : List D) (i : Nat), ds.any P = false → idxF P ds i = -1 := by
        intro ds
        induction ds with
        | nil => intro i _; rfl
        | cons d ds ih => intro i hd; simp at hd; rw [idxF, hd.1]; simpa using ih (i + 1) (by simpa using hd.2)
      exact hi cs 0 (by simpa using ha)
    simp -implicitDefEqProofs [ir_slices_IndexFunc_impl_Skew_impl_Skew, ir_slices_IndexFunc_impl_Skew_impl_Skew_B, h, hn]
theorem c_containsS (hT : T F_slices_ContainsFunc_impl_Skew_impl_Skew = some ir_slices_ContainsFunc_impl_Skew_impl_Skew) (hi : C_indexOf (den T A) F_slices_IndexFunc_impl_Skew_impl_Skew (.arr 8 (.arr 64 .leaf))) : C_anyOf (den T A) F_slices_ContainsFunc_impl_Skew_impl_Skew (.arr 8 (.arr 64 .leaf)) := by
  intro g first caps cs P hF hs hl
  have h := hi g first caps cs P hF hs hl
  have e : decide (0 ≤ idxF P cs 0) = cs.any P := by rw [Bool.eq_iff_iff]; simpa using idxF_ge P cs 0
  refine ask_of hT rfl ?_
  simp -implicitDefEqProofs [ir_slices_ContainsFunc_impl_Skew_impl_Skew, ir_slices_ContainsFunc_impl_Skew_impl_Skew_B, h, e]
theorem c_notS {g : Nat} {first caps cs : List D} {P : D → Bool} (hT : T F_impl_areAll_impl_Skew_1 = some ir_impl_areAll_impl_Skew_1) (hs : AllSh (.arr 8 (.arr 64 .leaf)) cs) (hF : FnBool (den T A) g first caps cs P) : FnBool (den T A) F_impl_areAll_impl_Skew_1 [] [.ip (.fn g first caps)] cs fun x => !P x := by
  refine ⟨fun x hx => by simp at hx, fun x hx => by simp at hx; subst hx; rfl, hF.2.2.1, fun x hx => ?_⟩
  have hc := call_fn (O := den T A) (np := 0) (h := [.box false x]) (news := []) hF.1 hF.2.1 (hF.2.2.1 _ hx) (hF.2.2.2 _ hx) rfl
  have h1 := hF.2.2.1 _ hx
  have h2 := hs _ hx
  refine ask_of hT rfl ?_
  simp -implicitDefEqProofs [ir_impl_areAll_impl_Skew_1, ir_impl_areAll_impl_Skew_1_B, hc, h1, h2]
theorem c_areAllS (hT : T F_impl_areAll_impl_Skew = some ir_impl_areAll_impl_Skew) (hT1 : T F_impl_areAll_impl_Skew_1 = some ir_impl_areAll_impl_Skew_1) (hc : C_anyOf (den T A) F_slices_ContainsFunc_impl_Skew_impl_Skew (.arr 8 (.arr 64 .leaf))) : C_allOf (den T A) F_impl_areAll_impl_Skew (.arr 8 (.arr 64 .leaf)) := by
  intro g first caps cs P hF hs hl
  have e := hc _ _ _ _ _ (c_notS hT1 hs hF) hs hl
  have e2 := any_not P cs
  rw [← e2]
  generalize (cs.any fun x => !P x) = r at *
  refine ask_of hT rfl ?_
  simp -implicitDefEqProofs [ir_impl_areAll_impl_Skew, ir_impl_areAll_impl_Skew_B, e]
abbrev skwD (ls : List (List Int)) : D := .arr 8 (.arr 64 .leaf) (ls.map arr8)
/-- Eight polynomials' places. -/
def Sk8 (ls : List (List Int)) : Prop := Arrs ls ∧ ls.length = 8
theorem fn_isRes {p : Int} [IsP p] {m : Fp p} {ls : List (List Int)} (hm : m.len ≤ 64) (h : Arrs ls) (hi : C_isRes (den T A)) : ∃ P : D → Bool, (∀ l ∈ ls, P (arr8 l) = true ↔ IsRes m l) ∧ FnBool (den T A) F_impl_field_isResidue [fldD m] [] (ls.map arr8) P := by
  classical
  refine ⟨fun x => decide (IsRes m x.nums), fun l hl => by show decide (IsRes m (arr8 l).nums) = true ↔ _; rw [nums_arr8]; simp, fun x hx => by simp at hx; subst hx; rfl, fun x hx => by simp at hx, fun x hx => ?_, fun x hx => ?_⟩
  · obtain ⟨n, _, rfl⟩ := List.mem_map.1 hx; rfl
  · obtain ⟨l, hl, rfl⟩ := List.mem_map.1 hx
    have e := hi p m l hm (h l hl).2 (h l hl).1
    show ask (den T A) _ _ = some (.bool (decide (IsRes m (arr8 l).nums)))
    rw [nums_arr8]
    exact e
/-- All coefficients are residues. -/
def IsSk {p : Int} [IsP p] (m : Fp p) (ls : List (List Int)) : Prop := ∀ l ∈ ls, IsRes m l
open Classical in
def C_isSk (O : Oracle) : Prop := ∀ (p : Int) [IsP p] (m : Fp p) (ls : List (List Int)), m.len ≤ 64 → Sk8 ls → ask O F_impl_field_isSkew [fldD m, skwD ls] = some (D.bool (decide (IsSk m ls)))
open Classical in
theorem c_isSk (hT : T F_impl_field_isSkew = some ir_impl_field_isSkew) (ha : C_allOf (den T A) F_impl_areAll_impl_Poly (.arr 64 .leaf)) (hi : C_isRes (den T A)) : C_isSk (den T A) := by
  intro p ip m ls hm ⟨h, h8⟩
  obtain ⟨P, hP, hF⟩ := fn_isRes (m := m) hm h hi
  have e := ha _ _ _ _ _ hF (fun x hx => by obtain ⟨n, _, rfl⟩ := List.mem_map.1 hx; rfl) (by rw [List.length_map]; omega)
  have hb : (ls.map arr8).all P = decide (IsSk m ls) := by
    rw [Bool.eq_iff_iff, List.all_eq_true, decide_eq_true_iff]
    constructor
    · intro h2 l hl; exact (hP l hl).1 (h2 _ (List.mem_map_of_mem hl))
    · intro h2 x hx
      obtain ⟨l, hl, rfl⟩ := List.mem_map.1 hx
      exact (hP l hl).2 (h2 l hl)
  rw [hb] at e
  have hL : (ls.map arr8).length = 8 := by rw [List.length_map]; exact h8
  have htk : (ls.map arr8).take 8 = ls.map arr8 := List.take_of_length_le (by omega)
  have hsk : skwD ls = .arr 8 (.arr 64 .leaf) (ls.map arr8) := rfl
  rw [hsk]
  refine ask_of hT rfl ?_
  generalize ls.map arr8 = LD at *
  generalize decide (IsSk m ls) = b at *
  simp -implicitDefEqProofs [ir_impl_field_isSkew, ir_impl_field_isSkew_B, e, hL, htk, List.replicate]
def D.numss : D → List (List Int)
  | .arr _ _ cs => cs.map D.nums
  | _ => []
theorem numss_skwD (ls : List (List Int)) : (skwD ls).numss = ls := by
  show (ls.map arr8).map D.nums = ls
  rw [List.map_map]
  have : (D.nums ∘ arr8) = id := by funext l; exact nums_arr8 l
  rw [this, List.map_id]
theorem fn_isSk {p : Int} [IsP p] {m : Fp p} {lss : List (List (List Int))} (hm : m.len ≤ 64) (h : ∀ ls ∈ lss, Sk8 ls) (hi : C_isSk (den T A)) : ∃ P : D → Bool, (∀ ls ∈ lss, P (skwD ls) = true ↔ IsSk m ls) ∧ FnBool (den T A) F_impl_field_isSkew [fldD m] [] (lss.map skwD) P := by
  classical
  refine ⟨fun x => decide (IsSk m x.numss), fun l hl => by show decide (IsSk m (skwD l).numss) = true ↔ _; rw [numss_skwD]; simp, fun x hx => by simp at hx; subst hx; rfl, fun x hx => by simp at hx, fun x hx => ?_, fun x hx => ?_⟩
  · obtain ⟨n, _, rfl⟩ := List.mem_map.1 hx; rfl
  · obtain ⟨l, hl, rfl⟩ := List.mem_map.1 hx
    have e := hi p m l hm (h l hl)
    show ask (den T A) _ _ = some (.bool (decide (IsSk m (skwD l).numss)))
    rw [numss_skwD]
    exact e
open Classical in
noncomputable def codeSk (p : Int) (l : List Int) (lss : List (List (List Int))) : Int := if ∃ (_ : IsP p) (m : Fp p), l = pad (row m) ∧ Fld m ∧ ∀ ls ∈ lss, IsSk m ls then 0 else 1
theorem fld_code {p : Int} [IsP p] {m : Fp p} (hm : Fld m) {Q : ∀ (_ : IsP p), Fp p → Prop} : (∃ (ip : IsP p) (m' : Fp p), pad (row m) = pad (row m') ∧ Fld m' ∧ Q ip m') ↔ Q inferInstance m := by
  have h5 := hm.five
  constructor
  · rintro ⟨ip, m', e, h1, h2⟩
    have h6 := h1.five
    obtain rfl := (pad_row_inj (by omega) (by omega)).1 e
    exact h2
  · intro h; exact ⟨_, m, rfl, hm, h⟩
def C_skewsCode (O : Oracle) (F : Nat) : Prop := ∀ (p : Int) (l : List Int) (lss : List (List (List Int))), Bytes l → l.length = 64 → (∀ ls ∈ lss, Sk8 ls) → lss.length < 2000000 → ask O F [(D.int .i64 p), (D.arr 64 .leaf (ints .u8 l)), .sl (.arr 8 (.arr 64 .leaf)) (lss.map skwD)] = some (D.int .i64 (codeSk p l lss))
open Classical in
theorem c_skewsCode (hT : T F_impl_skewsCode = some ir_impl_skewsCode) (hif : C_isField (den T A)) (hfo : K_fieldOf (den T A)) (his : C_isSk (den T A)) (ha : C_allOf (den T A) F_impl_areAll_impl_Skew (.arr 8 (.arr 64 .leaf))) : C_skewsCode (den T A) F_impl_skewsCode := by
  intro p l lss hb hl h hlen
  have e1 := hif p l hb hl
  refine ask_of hT rfl ?_
  unfold codeSk
  by_cases hf : IsFld p l
  · rw [decide_eq_true hf] at e1
    obtain ⟨ip, m, rfl, hm⟩ := hf
    have h5 := hm.five
    have e2 := hfo p m (by omega)
    obtain ⟨P, hP, hF⟩ := fn_isSk (m := m) (by omega) h his
    have e3 := ha _ _ _ _ _ hF (fun x hx => by obtain ⟨n, _, rfl⟩ := List.mem_map.1 hx; rfl) (by rw [List.length_map]; exact hlen)
    have hall : (lss.map skwD).all P = true ↔ ∀ ls ∈ lss, IsSk m ls := by
      rw [List.all_eq_true]
      constructor
      · intro h2 l hl; exact (hP l hl).1 (h2 _ (List.mem_map_of_mem hl))
      · intro h2 x hx
        obtain ⟨l, hl, rfl⟩ := List.mem_map.1 hx
        exact (hP l hl).2 (h2 l hl)
    have hc := (fld_code hm (Q := fun ip m' => ∀ ls ∈ lss, @IsSk p ip m' ls)).trans hall.symm
    cases hb1 : (lss.map skwD).all P
    · rw [hb1] at e3 hc
      rw [if_neg (fun h => by have := hc.1 h; cases this)]
      generalize pad (row m) = Pm at *
      generalize lss.map skwD = LD at *
      simp -implicitDefEqProofs [ir_impl_skewsCode, ir_impl_skewsCode_B, dn_cond, e1, e2, e3]
    · rw [hb1] at e3 hc
      rw [if_pos (hc.2 rfl)]
      generalize pad (row m) = Pm at *
      generalize lss.map skwD = LD at *
      simp -implicitDefEqProofs [ir_impl_skewsCode, ir_impl_skewsCode_B, dn_cond, e1, e2, e3]
  · rw [decide_eq_false hf] at e1
    rw [if_neg (fun ⟨ip, m, e, hm, _⟩ => hf ⟨ip, m, e, hm⟩)]
    generalize lss.map skwD = LD at *
    simp -implicitDefEqProofs [ir_impl_skewsCode, ir_impl_skewsCode_B, dn_cond, e1]
end Pe

namespace Pe
open Go Gq
variable {T : Nat → Option Fn} {A : Oracle}
theorem sk8_get {ls : List (List Int)} (h : Sk8 ls) {i : Nat} (hi : i < 8) : ∃ l, l ∈ ls ∧ (ls.map arr8)[i]? = some (D.arr 64 .leaf (ints .u8 l)) ∧ Bytes l ∧ l.length = 64 ∧ ls[i]? = some l := by
  have hlt : i < ls.length := by rw [h.2]; exact hi
  have hm := List.getElem_mem hlt
  refine ⟨ls[i], hm, by rw [List.getElem?_map, List.getElem?_eq_getElem hlt]; rfl, (h.1 _ hm).2, (h.1 _ hm).1, List.getElem?_eq_getElem hlt⟩
theorem isSk_cons {p : Int} [IsP p] {m : Fp p} {l : List Int} {ls : List (List Int)} : IsSk m (l :: ls) ↔ IsRes m l ∧ IsSk m ls := by simp [IsSk]
theorem isSk_nil {p : Int} [IsP p] (m : Fp p) : IsSk m [] := fun _ h => by cases h
/-- Lists of skew polynomials. -/
def IsSks {p : Int} [IsP p] (m : Fp p) (lss : List (List (List Int))) : Prop := ∀ ls ∈ lss, IsSk m ls
theorem isSks_cons {p : Int} [IsP p] {m : Fp p} {l : List (List Int)} {ls : List (List (List Int))} : IsSks m (l :: ls) ↔ IsSk m l ∧ IsSks m ls := by simp [IsSks]
theorem isSks_nil {p : Int} [IsP p] (m : Fp p) : IsSks m [] := fun _ h => by cases h
open Classical in
theorem l_sIsSk {O : Oracle} (hr : C_sRes O) {p : Int} [IsP p] {m : Fp p} (hm : m.len ≤ 64) {ls : List (List Int)} (h : Sk8 ls) : ∀ (k i : Nat), i + k = 8 →
    dn O 0 (.loop ir_spec_l03Is_L0) ⟨[(0, (.d (.int .i64 p))), (4, .ptr 0 []), (5, .ptr 1 []), (7, (.d (.int .i64 i)))], [.box false (D.arr 64 .leaf (ints .u8 (pad (row m)))), .box false (.arr 8 (.arr 64 .leaf) (ls.map arr8))]⟩ =
      if IsSk m (ls.drop i) then some (.exit 0, ⟨[(0, (.d (.int .i64 p))), (4, .ptr 0 []), (5, .ptr 1 []), (7, (.d (.int .i64 8))), (9, (.d (.bool false)))], [.box false (D.arr 64 .leaf (ints .u8 (pad (row m)))), .box false (.arr 8 (.arr 64 .leaf) (ls.map arr8))]⟩) else some (.ret, ⟨[(6, (.d (.bool false)))], [.hole, .hole]⟩)
  | 0, i, hi => by
    obtain rfl : i = 8 := by omega
    rw [if_pos (by rw [List.drop_eq_nil_of_le (by rw [h.2]; omega)]; exact isSk_nil m)]
    refine dn_stop ?_
    generalize pad (row m) = Pm at *
    generalize ls.map arr8 = LD at *
    simp -implicitDefEqProofs [ir_spec_l03Is_L0, dn_cond]
  | k + 1, i, hi => by
    have hi8 : i < 8 := by omega
    have hi8' : (i : Int) < 8 := by omega
    obtain ⟨l, hl, hx, hb, h64, hli⟩ := sk8_get h hi8
    have e1 := hr p m l hm hb h64
    have hL : (ls.map arr8).length = 8 := by rw [List.length_map]; exact h.2
    have hx2 : ∀ h : i < (ls.map arr8).length, (ls.map arr8)[i]'h = (D.arr 64 .leaf (ints .u8 l)) := fun h => by rw [List.getElem?_eq_getElem h] at hx; exact Option.some.inj hx
    have w4 : IntKind.i64.wrap ((i : Int) + 1) = ((i + 1 : Nat) : Int) := (w64 (x := (i : Int) + 1) (by omega)).trans (by omega)
    have hlt : i < ls.length := by rw [h.2]; exact hi8
    have hd : ls.drop i = l :: ls.drop (i + 1) := by
      rw [List.drop_eq_getElem_cons hlt]
      rw [List.getElem?_eq_getElem hlt] at hli
      rw [Option.some.inj hli]
    have ih := l_sIsSk hr hm h k (i + 1) (by omega)
    rw [hd]
    by_cases hres : IsRes m l
    · rw [decide_eq_true hres] at e1
      have hiff : IsSk m (l :: ls.drop (i + 1)) ↔ IsSk m (ls.drop (i + 1)) := ⟨fun h => (isSk_cons.1 h).2, fun h => isSk_cons.2 ⟨hres, h⟩⟩
      rw [propext hiff]
      refine dn_round ?_ ih
      generalize pad (row m) = Pm at *
      generalize ls.map arr8 = LD at *
      simp -implicitDefEqProofs [ir_spec_l03Is_L0, dn_cond, hi8, hi8', hx2, hL, e1, w4]
    · rw [decide_eq_false hres] at e1
      rw [if_neg (fun h => hres (isSk_cons.1 h).1)]
      refine dn_back ?_
      generalize pad (row m) = Pm at *
      generalize ls.map arr8 = LD at *
      simp -implicitDefEqProofs [ir_spec_l03Is_L0, dn_cond, hi8, hi8', hx2, hL, e1]
open Classical in
def C_sIsSk (O : Oracle) : Prop := ∀ (p : Int) [IsP p] (m : Fp p) (ls : List (List Int)), m.len ≤ 64 → Sk8 ls → ask O F_spec_l03Is [(D.int .i64 p), (D.arr 64 .leaf (ints .u8 (pad (row m)))), skwD ls] = some (D.bool (decide (IsSk m ls)))
open Classical in
theorem c_sIsSk (hT : T F_spec_l03Is = some ir_spec_l03Is) (hr : C_sRes (den T A)) : C_sIsSk (den T A) := by
  intro p ip m ls hm h
  have e := l_sIsSk (O := den T A) hr hm h 8 0 rfl
  have e00 : ((0 : Nat) : Int) = 0 := rfl
  rw [e00, List.drop_zero] at e
  have hsk : skwD ls = .arr 8 (.arr 64 .leaf) (ls.map arr8) := rfl
  rw [hsk]
  refine ask_of hT rfl ?_
  by_cases hs : IsSk m ls
  · rw [if_pos hs] at e
    rw [decide_eq_true hs]
    generalize pad (row m) = Pm at *
    generalize ls.map arr8 = LD at *
    simp -implicitDefEqProofs [ir_spec_l03Is, ir_spec_l03Is_B, e, List.replicate]
  · rw [if_neg hs] at e
    rw [decide_eq_false hs]
    generalize pad (row m) = Pm at *
    generalize ls.map arr8 = LD at *
    simp -implicitDefEqProofs [ir_spec_l03Is, ir_spec_l03Is_B, e, List.replicate]
open Classical in
theorem l_sSkCode {O : Oracle} (hr : C_sIsSk O) {p : Int} [IsP p] {m : Fp p} (hm : m.len ≤ 64) {lss : List (List (List Int))} (h : ∀ ls ∈ lss, Sk8 ls) (hl : lss.length < 2000000) : ∀ (k i : Nat), i + k = lss.length →
    dn O 0 (.loop ir_spec_l03Code_L0) ⟨[(0, (.d (.int .i64 p))), (2, .d (.sl (.arr 8 (.arr 64 .leaf)) (lss.map skwD))), (4, .ptr 0 []), (7, (.d (.int .i64 i)))], [.box false (D.arr 64 .leaf (ints .u8 (pad (row m))))]⟩ =
      if IsSks m (lss.drop i) then some (.exit 0, ⟨[(0, (.d (.int .i64 p))), (2, .d (.sl (.arr 8 (.arr 64 .leaf)) (lss.map skwD))), (4, .ptr 0 []), (7, (.d (.int .i64 lss.length))), (15, (.d (.bool false)))], [.box false (D.arr 64 .leaf (ints .u8 (pad (row m))))]⟩) else some (.ret, ⟨[(6, (.d (.int .i64 1)))], [.hole]⟩)
  | 0, i, hi => by
    obtain rfl : i = lss.length := by omega
    rw [if_pos (by rw [List.drop_length]; exact isSks_nil m)]
    have hL : (lss.map skwD).length = lss.length := List.length_map ..
    refine dn_stop ?_
    generalize pad (row m) = Pm at *
    generalize lss.map skwD = LD at *
    simp -implicitDefEqProofs [ir_spec_l03Code_L0, dn_cond, hL]
  | k + 1, i, hi => by
    have hlt : i < lss.length := by omega
    have hm1 := List.getElem_mem hlt
    have e1 := hr p m lss[i] hm (h _ hm1)
    have hL : (lss.map skwD).length = lss.length := List.length_map ..
    have w4 : IntKind.i64.wrap ((i : Int) + 1) = ((i + 1 : Nat) : Int) := (w64 (x := (i : Int) + 1) (by omega)).trans (by omega)
    have hx2 : ∀ h : i < (lss.map skwD).length, (lss.map skwD)[i]'h = .arr 8 (.arr 64 .leaf) (lss[i].map arr8) := fun h => by rw [List.getElem_map]
    have hd : lss.drop i = lss[i] :: lss.drop (i + 1) := List.drop_eq_getElem_cons hlt
    have ih := l_sSkCode hr hm h hl k (i + 1) (by omega)
    rw [hd]
    have hsk : skwD lss[i] = .arr 8 (.arr 64 .leaf) (lss[i].map arr8) := rfl
    rw [hsk] at e1
    by_cases hres : IsSk m lss[i]
    · rw [decide_eq_true hres] at e1
      have hiff : IsSks m (lss[i] :: lss.drop (i + 1)) ↔ IsSks m (lss.drop (i + 1)) := ⟨fun h => (isSks_cons.1 h).2, fun h => isSks_cons.2 ⟨hres, h⟩⟩
      rw [propext hiff]
      refine dn_round ?_ ih
      generalize pad (row m) = Pm at *
      generalize lss.map skwD = LD at *
      simp -implicitDefEqProofs [ir_spec_l03Code_L0, dn_cond, hlt, hx2, hL, e1, w4]
    · rw [decide_eq_false hres] at e1
      rw [if_neg (fun h => hres (isSks_cons.1 h).1)]
      refine dn_back ?_
      generalize pad (row m) = Pm at *
      generalize lss.map skwD = LD at *
      simp -implicitDefEqProofs [ir_spec_l03Code_L0, dn_cond, hlt, hx2, hL, e1]
open Classical in
theorem c_sSkCode (hT : T F_spec_l03Code = some ir_spec_l03Code) (hf : C_sField (den T A)) (hi : C_sIsSk (den T A)) : C_skewsCode (den T A) F_spec_l03Code := by
  intro p l lss hb hl h hlen
  have e1 := hf p l hb hl
  refine ask_of hT rfl ?_
  unfold codeSk
  by_cases hfl : IsFld p l
  · rw [decide_eq_true hfl] at e1
    obtain ⟨ip, m, rfl, hm⟩ := hfl
    have h5 := hm.five
    have e2 := l_sSkCode (O := den T A) hi (m := m) (by omega) h hlen lss.length 0 (Nat.zero_add _)
    have e00 : ((0 : Nat) : Int) = 0 := rfl
    rw [e00, List.drop_zero] at e2
    have hc := fld_code hm (Q := fun ip m' => ∀ ls ∈ lss, @IsSk p ip m' ls)
    by_cases hs : IsSks m lss
    · rw [if_pos hs] at e2
      rw [if_pos (hc.2 hs)]
      generalize pad (row m) = Pm at *
      generalize lss.map skwD = LD at *
      simp -implicitDefEqProofs [ir_spec_l03Code, ir_spec_l03Code_B, dn_cond, e1, e2]
    · rw [if_neg hs] at e2
      rw [if_neg (fun h => hs (hc.1 h))]
      generalize pad (row m) = Pm at *
      generalize lss.map skwD = LD at *
      simp -implicitDefEqProofs [ir_spec_l03Code, ir_spec_l03Code_B, dn_cond, e1, e2]
  · rw [decide_eq_false hfl] at e1
    rw [if_neg (fun ⟨ip, m, e, hm, _⟩ => hfl ⟨ip, m, e, hm⟩)]
    generalize lss.map skwD = LD at *
    simp -implicitDefEqProofs [ir_spec_l03Code, ir_spec_l03Code_B, dn_cond, e1]
end Pe

namespace Pe
open Go Gq
variable {T : Nat → Option Fn} {A : Oracle}
theorem l_sFrob {O : Oracle} (hpw : K_sPowMod O) {p : Int} [IsP p] {m : Fp p} {z : List Int} (hm : m ≠ 0) (hml : m.len ≤ 64) : ∀ (k : Nat) (a : Fp p), k < 1000000 → a.len ≤ 64 →
    dn O 0 (.loop ir_spec_l03Frobenius_L0) ⟨[(0, (.d (.int .i64 p))), (5, .ptr 0 []), (7, .ptr 1 []), (8, .ptr 2 []), (9, (.d (.int .i64 k)))], [.box false (D.arr 64 .leaf (ints .u8 (pad (row a)))), .box false (D.arr 64 .leaf (ints .u8 (pad (row m)))), .box false (D.arr 64 .leaf (ints .u8 z))]⟩ =
      some (.exit 0, ⟨[(0, (.d (.int .i64 p))), (5, .ptr 0 []), (7, .ptr 1 []), (8, .ptr 2 []), (9, (.d (.int .i64 0))), (15, (.d (.bool false)))], [.box false (D.arr 64 .leaf (ints .u8 (pad (row (frIt m k a))))), .box false (D.arr 64 .leaf (ints .u8 (pad (row m)))), .box false (D.arr 64 .leaf (ints .u8 z))]⟩)
  | 0, a, hk, ha => by
    refine dn_stop ?_
    show _ = some (_, (⟨_, [.box false (D.arr 64 .leaf (ints .u8 (pad (row a)))), _, _]⟩ : St))
    generalize pad (row a) = Pa at *
    generalize pad (row m) = Pm at *
    simp -implicitDefEqProofs [ir_spec_l03Frobenius_L0, dn_cond]
  | k + 1, a, hk, ha => by
    have hp := IsP.pos (p := p)
    have hp7 := IsP.le (p := p)
    have w4 : IntKind.i64.wrap (((k + 1 : Nat) : Int) - 1) = (k : Int) := (w64 (x := ((k + 1 : Nat) : Int) - 1) (by omega)).trans (by omega)
    have hlt : (0 : Int) < ((k + 1 : Nat) : Int) := by omega
    have e1 := hpw p a p m hm ha hml (by omega) (by omega)
    have hl := Pol.len_mod (pw a p.toNat) hm
    refine dn_round ?_ (l_sFrob hpw hm hml k (pw a p.toNat % m) (by omega) (by omega))
    generalize ((k + 1 : Nat) : Int) = k1 at *
    generalize pad (row (pw a p.toNat % m)) = R at *
    generalize pad (row a) = Pa at *
    generalize pad (row m) = Pm at *
    simp -implicitDefEqProofs [ir_spec_l03Frobenius_L0, dn_cond, hlt, e1, w4]
def K_sFrob (O : Oracle) : Prop := ∀ (p : Int) [IsP p] (m a : Fp p) (k : Nat), 2 ≤ m.len → m.len ≤ 64 → a.len ≤ 64 → k < 1000000 → ask O F_spec_l03Frobenius [(D.int .i64 p), (D.arr 64 .leaf (ints .u8 (pad (row a)))), (D.int .i64 k), (D.arr 64 .leaf (ints .u8 (pad (row m))))] = some (D.arr 64 .leaf (ints .u8 (pad (row (frIt m (k % (m.len - 1)) a)))))
theorem k_sFrob (hT : T F_spec_l03Frobenius = some ir_spec_l03Frobenius) (hpw : K_sPowMod (den T A)) (hdg : K_sDeg (den T A)) : K_sFrob (den T A) := by
  intro p ip m a k h2 hml ha hk
  have hm : m ≠ 0 := fun h => by rw [h, Pol.len_zero] at h2; omega
  have e1 := hdg p m hml
  rw [show ((m.len : Int) - 1) = ((m.len - 1 : Nat) : Int) by omega] at e1
  have hlt := Nat.mod_lt k (show 0 < m.len - 1 by omega)
  have e2 := l_sFrob (O := den T A) (z := pad []) hpw hm hml (k % (m.len - 1)) a (by omega) ha
  have w1 : (k : Int).tmod ((m.len - 1 : Nat) : Int) = ((k % (m.len - 1) : Nat) : Int) := by rw [Int.tmod_eq_emod_of_nonneg (by omega)]; rfl
  have h0 : ((m.len - 1 : Nat) : Int) ≠ 0 := by omega
  refine ask_of hT rfl ?_
  generalize pad (row (frIt m (k % (m.len - 1)) a)) = R at *
  generalize ((k % (m.len - 1) : Nat) : Int) = n1 at *
  generalize ((m.len - 1 : Nat) : Int) = m1 at *
  generalize pad (row a) = Pa at *
  generalize pad (row m) = Pm at *
  simp -implicitDefEqProofs [ir_spec_l03Frobenius, ir_spec_l03Frobenius_B, e1, e2, w1, h0, List.replicate]
section
variable {p : Int}
open Classical in
noncomputable def stl (S : List (Fp p)) : Nat → Nat
  | 0 => 0
  | n + 1 => if S[n]? = some 0 then stl S n else n + 1
noncomputable def trimS (S : List (Fp p)) : List (Fp p) := S.take (stl S S.length)
theorem stl_le (S : List (Fp p)) : ∀ n, stl S n ≤ n
  | 0 => Nat.le_refl 0
  | n + 1 => by
    unfold stl
    split
    · have := stl_le S n; omega
    · omega
theorem stl_zero (S : List (Fp p)) : ∀ n j, stl S n ≤ j → j < n → S[j]? = some 0
  | 0, j, _, h => by omega
  | n + 1, j, h1, h2 => by
    unfold stl at h1
    split at h1
    · rename_i h0
      by_cases hj : j = n
      · rw [hj]; exact h0
      · exact stl_zero S n j h1 (by omega)
    · omega
end
section
variable {p : Int} [IsP p]
theorem svI_zeros {m x : Fp p} (hm : m ≠ 0) : ∀ (i : Nat) (S : List (Fp p)) (out : Fp p), (∀ a ∈ S, a = 0) → svI m x i S out = out
  | _, [], _, _ => rfl
  | i, c :: cs, out, h => by
    have hc := h c (by simp)
    subst hc
    show svI m x (i + 1) cs (out + 0 * frIt m (i % (m.len - 1)) x % m) = out
    rw [Gq.zero_mul, Pol.zero_mod hm, Gq.add_zero]
    exact svI_zeros hm (i + 1) cs out fun a ha => h a (by simp [ha])
theorem svI_append {m x : Fp p} : ∀ (i : Nat) (S R : List (Fp p)) (out : Fp p), svI m x i (S ++ R) out = svI m x (i + S.length) R (svI m x i S out)
  | _, [], _, _ => rfl
  | i, c :: cs, R, out => by
    show svI m x (i + 1) (cs ++ R) _ = svI m x (i + (cs.length + 1)) R (svI m x (i + 1) cs _)
    rw [svI_append (i + 1) cs R, show i + (cs.length + 1) = i + 1 + cs.length by omega]
theorem svI_trim {m x : Fp p} (hm : m ≠ 0) (S : List (Fp p)) : svI m x 0 (trimS S) 0 = svI m x 0 S 0 := by
  have e := svI_append (m := m) (x := x) 0 (S.take (stl S S.length)) (S.drop (stl S S.length)) 0
  rw [List.take_append_drop] at e
  have hz : ∀ a ∈ S.drop (stl S S.length), a = 0 := by
    intro a ha
    obtain ⟨j, hj, rfl⟩ := List.getElem_of_mem ha
    rw [List.length_drop] at hj
    have := stl_zero S S.length (stl S S.length + j) (by omega) (by omega)
    rw [List.getElem_drop]
    rw [List.getElem?_eq_getElem (by omega)] at this
    exact Option.some.inj this
  rw [e, svI_zeros hm _ _ _ hz]
  rfl
end
theorem l_sktrim {O : Oracle} {p : Int} [IsP p] {S : List (Fp p)} (hS : S.length < 100000) : ∀ n : Nat, n ≤ S.length →
    dn O 0 (.loop ir_impl_skew_trimmed_L0) ⟨[(0, .d (skD S)), (3, (.d (.int .i64 n)))], []⟩ = some (.exit 0, ⟨[(0, .d (skD S)), (3, (.d (.int .i64 (stl S n)))), (16, (.d (.bool false)))], []⟩)
  | 0, _ => dn_stop (by simp -implicitDefEqProofs [ir_impl_skew_trimmed_L0, dn_cond, stl])
  | n + 1, hn => by
    have hlt : n < S.length := by omega
    have w1 : IntKind.i64.wrap (((n + 1 : Nat) : Int) - 1) = (n : Int) := (w64 (x := ((n + 1 : Nat) : Int) - 1) (by omega)).trans (by omega)
    have h0 : (0 : Int) < ((n + 1 : Nat) : Int) := by omega
    unfold stl
    by_cases hz : S[n]? = some 0
    · rw [if_pos hz]
      rw [List.getElem?_eq_getElem hlt] at hz
      have hz' : S[n] = 0 := Option.some.inj hz
      have hlen : (S[n]).len = 0 := by rw [hz', Pol.len_zero]
      refine dn_round ?_ (l_sktrim hS n (by omega))
      generalize ((n + 1 : Nat) : Int) = n1 at *
      simp -implicitDefEqProofs [ir_impl_skew_trimmed_L0, dn_cond, hlt, w1, h0, hlen]
    · rw [if_neg hz]
      rw [List.getElem?_eq_getElem hlt] at hz
      have hlen : (S[n]).len ≠ 0 := fun h => hz (by rw [Pol.len_zero_iff.1 h])
      refine dn_stop ?_
      generalize ((n + 1 : Nat) : Int) = n1 at *
      simp -implicitDefEqProofs [ir_impl_skew_trimmed_L0, dn_cond, hlt, w1, h0, hlen]
def K_sktrim (O : Oracle) : Prop := ∀ (p : Int) [IsP p] (S : List (Fp p)), S.length < 100000 → ask O F_impl_skew_trimmed [skD S] = some (skD (trimS S))
theorem k_sktrim (hT : T F_impl_skew_trimmed = some ir_impl_skew_trimmed) : K_sktrim (den T A) := by
  intro p ip S hS
  have e := l_sktrim (O := den T A) hS S.length (Nat.le_refl _)
  have hle := stl_le S S.length
  have hL : (S.map fun c => (D.sl .leaf (ints .i64 (row c)))).length = S.length := List.length_map ..
  have e9 : skD (trimS S) = .sl .leaf ((S.map fun c => (D.sl .leaf (ints .i64 (row c)))).take (stl S S.length)) := by unfold trimS; rw [← List.map_take]
  have e8 : skD S = .sl .leaf (S.map fun c => (D.sl .leaf (ints .i64 (row c)))) := rfl
  rw [e9]
  rw [e8] at e ⊢
  refine ask_of hT rfl ?_
  generalize stl S S.length = n at *
  generalize (S.map fun c => (D.sl .leaf (ints .i64 (row c)))) = LD at *
  generalize S.length = sl at *
  subst hL
  simp -implicitDefEqProofs [ir_impl_skew_trimmed, ir_impl_skew_trimmed_B, e, hle]
theorem sk_of {p : Int} [IsP p] {m : Fp p} : ∀ {ls : List (List Int)}, IsSk m ls → ∃ S : List (Fp p), ls = S.map (fun a => pad (row a)) ∧ ∀ a ∈ S, a.len < m.len
  | [], _ => ⟨[], rfl, fun _ h => by cases h⟩
  | l :: ls, h => by
    obtain ⟨h1, h2⟩ := isSk_cons.1 h
    obtain ⟨a, ha, rfl⟩ := h1
    obtain ⟨S, rfl, hS⟩ := sk_of h2
    exact ⟨a :: S, rfl, by simpa using ⟨ha, hS⟩⟩
noncomputable abbrev skP {p : Int} (S : List (Fp p)) : List (List Int) := S.map fun a => pad (row a)
theorem l_skewOf {O : Oracle} (hro : K_rowOf O) {p : Int} [IsP p] {S : List (Fp p)} (h8 : S.length = 8) (hS : ∀ a ∈ S, a.len ≤ 64) : ∀ (k i : Nat) (cp : Option Nat), i + k = 8 → ∃ cp' : Option Nat,
    dn O 0 (.loop ir_impl_skewOf_L0) ⟨[(3, .sl 1 [] 0 i cp), (6, .d (.arr 8 (.arr 64 .leaf) ((skP S).map arr8))), (7, (.d (.int .i64 i)))], [.hole, .sl false .leaf ((S.take i).map fun c => (D.sl .leaf (ints .i64 (row c)))), .hole, .hole, .hole]⟩ =
      some (.exit 0, ⟨[(3, .sl 1 [] 0 8 cp'), (6, .d (.arr 8 (.arr 64 .leaf) ((skP S).map arr8))), (7, (.d (.int .i64 8))), (8, (.d (.bool false)))], [.hole, .sl false .leaf (S.map fun c => (D.sl .leaf (ints .i64 (row c)))), .hole, .hole, .hole]⟩)
  | 0, i, cp, hi => by
    obtain rfl : i = 8 := by omega
    rw [List.take_of_length_le (by omega)]
    refine ⟨cp, dn_stop ?_⟩
    generalize (skP S).map arr8 = LD at *
    generalize (S.map fun c => (D.sl .leaf (ints .i64 (row c)))) = LR at *
    simp -implicitDefEqProofs [ir_impl_skewOf_L0, dn_cond]
  | k + 1, i, cp, hi => by
    have hi8 : i < 8 := by omega
    have hi8' : (i : Int) < 8 := by omega
    have hlt : i < S.length := by omega
    have hm1 := List.getElem_mem hlt
    have e1 := hro p S[i] (hS _ hm1)
    have hL : ((skP S).map arr8).length = 8 := by rw [List.length_map, List.length_map]; exact h8
    have hx2 : ∀ h : i < ((skP S).map arr8).length, ((skP S).map arr8)[i]'h = (D.arr 64 .leaf (ints .u8 (pad (row S[i])))) := fun h => by rw [List.getElem_map, List.getElem_map]
    have w4 : IntKind.i64.wrap ((i : Int) + 1) = ((i + 1 : Nat) : Int) := (w64 (x := (i : Int) + 1) (by omega)).trans (by omega)
    have o1 : ((S.take (i + 1)).map fun c => (D.sl .leaf (ints .i64 (row c)))) = ((S.take i).map fun c => (D.sl .leaf (ints .i64 (row c)))) ++ [(D.sl .leaf (ints .i64 (row S[i])))] := by
      rw [List.take_succ_eq_append_getElem hlt, List.map_append]; rfl
    have hL2 : ((S.take i).map fun c => (D.sl .leaf (ints .i64 (row c)))).length = i := by rw [List.length_map, List.length_take]; omega
    have ht : ((S.take i).map fun c => (D.sl .leaf (ints .i64 (row c)))).take i = ((S.take i).map fun c => (D.sl .leaf (ints .i64 (row c)))) := List.take_of_length_le (by omega)
    have h24 : (i + 1) * 24 ≤ 1099511627776 := by omega
    obtain ⟨cp', ih⟩ := l_skewOf hro h8 hS k (i + 1) none (by omega)
    rw [o1] at ih
    refine ⟨cp', dn_round ?_ ih⟩
    generalize (skP S).map arr8 = LD at *
    generalize ((S.take i).map fun c => (D.sl .leaf (ints .i64 (row c)))) = LR at *
    generalize pad (row S[i]) = Pi at *
    generalize row S[i] = Ri at *
    simp -implicitDefEqProofs [ir_impl_skewOf_L0, dn_cond, hi8, hi8', hL, hx2, e1, w4, hL2, ht, h24, List.replicate]
def K_skewOf (O : Oracle) : Prop := ∀ (p : Int) [IsP p] (S : List (Fp p)), S.length = 8 → (∀ a ∈ S, a.len ≤ 64) → ask O F_impl_skewOf [skwD (skP S)] = some (skD (trimS S))
theorem k_skewOf (hT : T F_impl_skewOf = some ir_impl_skewOf) (hro : K_rowOf (den T A)) (htr : K_sktrim (den T A)) : K_skewOf (den T A) := by
  intro p ip S h8 hS
  obtain ⟨cp', e1⟩ := l_skewOf (O := den T A) hro h8 hS 8 0 (some 0) rfl
  have e00 : ((0 : Nat) : Int) = 0 := rfl
  rw [e00, List.take_zero, List.map_nil] at e1
  have e2 := htr p S (by omega)
  have hsk : skwD (skP S) = .arr 8 (.arr 64 .leaf) ((skP S).map arr8) := rfl
  have hs2 : skD S = .sl .leaf (S.map fun c => (D.sl .leaf (ints .i64 (row c)))) := rfl
  rw [hsk]
  rw [hs2] at e2
  have hL : (S.map fun c => (D.sl .leaf (ints .i64 (row c)))).length = 8 := by rw [List.length_map]; exact h8
  have ht : (S.map fun c => (D.sl .leaf (ints .i64 (row c)))).take 8 = (S.map fun c => (D.sl .leaf (ints .i64 (row c)))) := List.take_of_length_le (by omega)
  refine ask_of hT rfl ?_
  generalize (skP S).map arr8 = LD at *
  generalize (S.map fun c => (D.sl .leaf (ints .i64 (row c)))) = LR at *
  generalize skD (trimS S) = TD at *
  simp -implicitDefEqProofs [ir_impl_skewOf, ir_impl_skewOf_B, e1, e2, hL, ht, List.replicate]
end Pe

namespace Pe
open Go Gq
variable {T : Nat → Option Fn} {A : Oracle}
theorem l_sSkVal {O : Oracle} (hfr : K_sFrob O) (hmm : K_sMulMod O) (ha : K_sAdd O) {p : Int} [IsP p] {m x : Fp p} {z : List Int} (h2 : 2 ≤ m.len) (hml : m.len ≤ 64) (hx : x.len < m.len) {S : List (Fp p)} (h8 : S.length = 8) (hS : ∀ a ∈ S, a.len < m.len) : ∀ (k i : Nat) (out : Fp p), i + k = 8 → out.len < m.len →
    dn O 0 (.loop ir_spec_l03Value_L0) ⟨[(0, (.d (.int .i64 p))), (5, .ptr 0 []), (6, .ptr 1 []), (7, .ptr 2 []), (8, .ptr 3 []), (9, .ptr 4 []), (10, (.d (.int .i64 i)))], [.box false (D.arr 64 .leaf (ints .u8 (pad (row m)))), .box false (.arr 8 (.arr 64 .leaf) ((skP S).map arr8)), .box false (D.arr 64 .leaf (ints .u8 (pad (row x)))), .box false (D.arr 64 .leaf (ints .u8 z)), .box false (D.arr 64 .leaf (ints .u8 (pad (row out))))]⟩ =
      some (.exit 0, ⟨[(0, (.d (.int .i64 p))), (5, .ptr 0 []), (6, .ptr 1 []), (7, .ptr 2 []), (8, .ptr 3 []), (9, .ptr 4 []), (10, (.d (.int .i64 8))), (13, (.d (.bool false)))], [.box false (D.arr 64 .leaf (ints .u8 (pad (row m)))), .box false (.arr 8 (.arr 64 .leaf) ((skP S).map arr8)), .box false (D.arr 64 .leaf (ints .u8 (pad (row x)))), .box false (D.arr 64 .leaf (ints .u8 z)), .box false (D.arr 64 .leaf (ints .u8 (pad (row (svI m x i (S.drop i) out)))))]⟩)
  | 0, i, out, hi, ho => by
    obtain rfl : i = 8 := by omega
    rw [List.drop_eq_nil_of_le (by omega)]
    refine dn_stop ?_
    show _ = some (_, (⟨_, [_, _, _, _, .box false (D.arr 64 .leaf (ints .u8 (pad (row out))))]⟩ : St))
    generalize (skP S).map arr8 = LD at *
    generalize pad (row out) = Po at *
    generalize pad (row x) = Px at *
    generalize pad (row m) = Pm at *
    simp -implicitDefEqProofs [ir_spec_l03Value_L0, dn_cond]
  | k + 1, i, out, hi, ho => by
    have hm : m ≠ 0 := fun h => by rw [h, Pol.len_zero] at h2; omega
    have hi8 : i < 8 := by omega
    have hi8' : (i : Int) < 8 := by omega
    have hlt : i < S.length := by omega
    have hm1 := List.getElem_mem hlt
    have hsl := hS _ hm1
    have hL : ((skP S).map arr8).length = 8 := by rw [List.length_map, List.length_map]; exact h8
    have hx2 : ∀ h : i < ((skP S).map arr8).length, ((skP S).map arr8)[i]'h = (D.arr 64 .leaf (ints .u8 (pad (row S[i])))) := fun h => by rw [List.getElem_map, List.getElem_map]
    have w4 : IntKind.i64.wrap ((i : Int) + 1) = ((i + 1 : Nat) : Int) := (w64 (x := (i : Int) + 1) (by omega)).trans (by omega)
    have t3 : pad (row S[i]) = pad [] ↔ S[i] = 0 := by
      rw [← row_zero (p := p), pad_row_inj (by omega) (by rw [Pol.len_zero]; omega)]
    have e4 := beq_P (pad_length (row S[i])) (pad_length [])
    have hd : S.drop i = S[i] :: S.drop (i + 1) := List.drop_eq_getElem_cons hlt
    have hsv : svI m x i (S.drop i) out = svI m x (i + 1) (S.drop (i + 1)) (out + S[i] * frIt m (i % (m.len - 1)) x % m) := by rw [hd]; rfl
    rw [hsv]
    by_cases hz : S[i] = 0
    · rw [decide_eq_true (t3.2 hz)] at e4
      have hsame : out + S[i] * frIt m (i % (m.len - 1)) x % m = out := by rw [hz, Gq.zero_mul, Pol.zero_mod hm, Gq.add_zero]
      rw [hsame]
      refine dn_round ?_ (l_sSkVal hfr hmm ha h2 hml hx h8 hS k (i + 1) out (by omega) ho)
      generalize (skP S).map arr8 = LD at *
      generalize pad (row S[i]) = Pi at *
      generalize pad (row out) = Po at *
      generalize pad (row x) = Px at *
      generalize pad (row m) = Pm at *
      simp -implicitDefEqProofs [ir_spec_l03Value_L0, dn_cond, hi8, hi8', hL, hx2, e4, w4]
    · rw [decide_eq_false (fun h => hz (t3.1 h))] at e4
      have e1 := hfr p m x i h2 hml (by omega) (by omega)
      have hfl := frIt_len hm (i % (m.len - 1)) x hx
      have e2 := hmm p S[i] (frIt m (i % (m.len - 1)) x) m hm hml (by omega) (by omega)
      have hl := Pol.len_mod (S[i] * frIt m (i % (m.len - 1)) x) hm
      have e3 := ha p 1 out (S[i] * frIt m (i % (m.len - 1)) x % m) (by omega) (by omega) (by omega) (by omega)
      rw [zp_one, Pol.C_one, Gq.one_mul] at e3
      have hl2 := Pol.len_add_le (a := out) (b := S[i] * frIt m (i % (m.len - 1)) x % m) (n := m.len - 1) (by omega) (by omega)
      refine dn_round ?_ (l_sSkVal hfr hmm ha h2 hml hx h8 hS k (i + 1) _ (by omega) (by omega))
      generalize pad (row (out + S[i] * frIt m (i % (m.len - 1)) x % m)) = P1 at *
      generalize pad (row (S[i] * frIt m (i % (m.len - 1)) x % m)) = P2 at *
      generalize pad (row (frIt m (i % (m.len - 1)) x)) = P3 at *
      generalize (skP S).map arr8 = LD at *
      generalize pad (row S[i]) = Pi at *
      generalize pad (row out) = Po at *
      generalize pad (row x) = Px at *
      generalize pad (row m) = Pm at *
      simp -implicitDefEqProofs [ir_spec_l03Value_L0, dn_cond, hi8, hi8', hL, hx2, e1, e2, e3, e4, w4]
def K_sSkVal (O : Oracle) : Prop := ∀ (p : Int) [IsP p] (m x : Fp p) (S : List (Fp p)), 2 ≤ m.len → m.len ≤ 64 → x.len < m.len → S.length = 8 → (∀ a ∈ S, a.len < m.len) → ask O F_spec_l03Value [(D.int .i64 p), (D.arr 64 .leaf (ints .u8 (pad (row m)))), skwD (skP S), (D.arr 64 .leaf (ints .u8 (pad (row x))))] = some (D.arr 64 .leaf (ints .u8 (pad (row (svI m x 0 S 0)))))
theorem k_sSkVal (hT : T F_spec_l03Value = some ir_spec_l03Value) (hfr : K_sFrob (den T A)) (hmm : K_sMulMod (den T A)) (ha : K_sAdd (den T A)) : K_sSkVal (den T A) := by
  intro p ip m x S h2 hml hx h8 hS
  have e := l_sSkVal (O := den T A) (z := pad []) hfr hmm ha h2 hml hx h8 hS 8 0 0 rfl (by rw [Pol.len_zero]; omega)
  have e00 : ((0 : Nat) : Int) = 0 := rfl
  rw [e00, List.drop_zero, row_zero] at e
  have hsk : skwD (skP S) = .arr 8 (.arr 64 .leaf) ((skP S).map arr8) := rfl
  rw [hsk]
  refine ask_of hT rfl ?_
  generalize (skP S).map arr8 = LD at *
  generalize pad (row (svI m x 0 S 0)) = PR at *
  generalize pad (row x) = Px at *
  generalize pad (row m) = Pm at *
  simp -implicitDefEqProofs [ir_spec_l03Value, ir_spec_l03Value_B, e, List.replicate]
theorem map_polOf {p : Int} {S : List (Fp p)} (hS : ∀ a ∈ S, a.len ≤ 64) : (skP S).map (polOf p) = S := by
  unfold skP
  rw [List.map_map]
  conv => rhs; rw [← List.map_id S]
  exact List.map_congr_left fun a ha => polOf_pad (hS a ha)
theorem codeSk_01 (p : Int) (l : List Int) (lss : List (List (List Int))) : codeSk p l lss = 0 ∨ codeSk p l lss = 1 := by
  unfold codeSk; split
  · exact .inl rfl
  · exact .inr rfl
theorem l_toSk {O : Oracle} (hp : C_toPoly O) {ls : List (List Int)} (h : Sk8 ls) {b1 : Blk} : ∀ (k i : Nat) (Q : List D), i + k = 8 → Q.length = 8 → (∀ d ∈ Q, d.sh.beq (.arr 64 .leaf) = true) → Q.take i = (ls.map arr8).take i →
    dn O 0 (.loop ir_laws_toSkew_L0) ⟨[(1, .ptr 0 []), (2, .ptr 1 []), (3, .ptr 2 []), (4, (.d (.int .i64 i)))], [.box false (.arr 8 (.arr 64 .leaf) (ls.map arr8)), b1, .box false (.arr 8 (.arr 64 .leaf) Q)]⟩ =
      some (.exit 0, ⟨[(1, .ptr 0 []), (2, .ptr 1 []), (3, .ptr 2 []), (4, (.d (.int .i64 8))), (6, (.d (.bool false)))], [.box false (.arr 8 (.arr 64 .leaf) (ls.map arr8)), b1, .box false (.arr 8 (.arr 64 .leaf) (ls.map arr8))]⟩)
  | 0, i, Q, hi, hq, hQ, ht => by
    obtain rfl : i = 8 := by omega
    rw [List.take_of_length_le (by omega), List.take_of_length_le (by rw [List.length_map, h.2]; omega)] at ht
    subst ht
    refine dn_stop ?_
    generalize ls.map arr8 = LD at *
    simp -implicitDefEqProofs [ir_laws_toSkew_L0, dn_cond]
  | k + 1, i, Q, hi, hq, hQ, ht => by
    have hi8 : i < 8 := by omega
    have hi8' : (i : Int) < 8 := by omega
    have hsh : ∀ h : i < Q.length, (Q[i]'h).sh.beq (.arr 64 .leaf) = true := fun h => hQ _ (List.getElem_mem h)
    obtain ⟨l, hl, hx, hb, h64, hli⟩ := sk8_get h hi8
    have e1 := hp l hb h64
    have hL : (ls.map arr8).length = 8 := by rw [List.length_map]; exact h.2
    have hx2 : ∀ h : i < (ls.map arr8).length, (ls.map arr8)[i]'h = (D.arr 64 .leaf (ints .u8 l)) := fun h => by rw [List.getElem?_eq_getElem h] at hx; exact Option.some.inj hx
    have w4 : IntKind.i64.wrap ((i : Int) + 1) = ((i + 1 : Nat) : Int) := (w64 (x := (i : Int) + 1) (by omega)).trans (by omega)
    refine dn_round ?_ (l_toSk hp h k (i + 1) (Q.set i (D.arr 64 .leaf (ints .u8 l))) (by omega) (by rw [List.length_set]; exact hq) (fun d hd => by
      rcases List.mem_or_eq_of_mem_set hd with h1 | rfl
      · exact hQ d h1
      · rfl) (by
      rw [List.take_succ_eq_append_getElem (show i < (ls.map arr8).length by omega), List.take_succ_eq_append_getElem (by rw [List.length_set]; omega), List.getElem_set_self, List.take_set, List.set_eq_of_length_le (by rw [List.length_take]; omega), ht, hx2]))
    generalize ls.map arr8 = LD at *
    simp -implicitDefEqProofs [ir_laws_toSkew_L0, dn_cond, hi8, hi8', hL, hx2, hq, hsh, e1, w4]
def C_toSk (O : Oracle) : Prop := ∀ ls : List (List Int), Sk8 ls → ask O F_laws_toSkew [skwD ls] = some (skwD ls)
theorem c_toSk (hT : T F_laws_toSkew = some ir_laws_toSkew) (hp : C_toPoly (den T A)) : C_toSk (den T A) := by
  intro ls h
  have e := l_toSk (O := den T A) hp h (b1 := .box false (.arr 8 (.arr 64 .leaf) z8)) 8 0 z8 rfl rfl (fun d hd => by rw [List.eq_of_mem_replicate hd]; rfl) (by rw [List.take_zero, List.take_zero])
  have e00 : ((0 : Nat) : Int) = 0 := rfl
  rw [e00] at e
  have hskd : skwD ls = .arr 8 (.arr 64 .leaf) (ls.map arr8) := rfl
  rw [hskd]
  refine ask_of hT rfl ?_
  generalize ls.map arr8 = LD at *
  simp -implicitDefEqProofs [ir_laws_toSkew, ir_laws_toSkew_B, e, List.replicate]
theorem flats_arr8 : ∀ ls : List (List Int), D.flats (ls.map arr8) = true
  | [] => rfl
  | l :: ls => by
    show (D.flats (ints .u8 l) && D.flats (ls.map arr8)) = true
    rw [flats_arr8 ls, flats_ints]; rfl
end Pe

namespace Pe
open Go Gq
variable {T : Nat → Option Fn} {A : Oracle}
section
variable {p : Int}
end
section
variable {p : Int} [IsP p]
end
end Pe

namespace Pe
open Go Gq
variable {T : Nat → Option Fn} {A : Oracle}
end Pe

namespace Pe
open Go Gq
variable {T : Nat → Option Fn} {A : Oracle}
end Pe

namespace Pe
open Go Gq
variable {T : Nat → Option Fn} {A : Oracle}
section
variable {p : Int}
end
section
variable {p : Int} [IsP p]
end
section
variable {p : Int}
end
section
variable {p : Int} [IsP p]
end
end Pe

namespace Pe
open Go Gq
variable {T : Nat → Option Fn} {A : Oracle}
section
variable {p : Int} [IsP p]
end
end Pe



namespace Pe
open Go Gq
variable {T : Nat → Option Fn} {A : Oracle}
abbrev z6 : List Int := List.replicate 6 0
section
variable {p : Int} [IsP p]
noncomputable def mono (p : Int) (i : Nat) : Fp p := numP p (p ^ i)
end
def updR (f : Nat → List Int) : Nat → Nat → List (List Int) → List (List Int)
  | 0, _, L => L
  | m + 1, i, L => updR f m (i + 1) (L.set i (f i))
def SkOk (p : Int) (l : List Int) (ls : List (List Int)) : Prop := ∃ (_ : IsP p) (m : Fp p), l = pad (row m) ∧ Fld m ∧ IsSk m ls
theorem codes_so {p : Int} {l : List Int} {ls : List (List Int)} : codeSk p l [ls] = 0 ↔ SkOk p l ls := by
  unfold codeSk
  constructor
  · intro h1
    split at h1
    · rename_i g1
      obtain ⟨ip, m, e1, f1, s1⟩ := g1
      exact ⟨ip, m, e1, f1, s1 _ (by simp)⟩
    · cases h1
  · rintro ⟨ip, m, e, f, s⟩
    exact if_pos ⟨ip, m, e, f, fun x hx => by simp at hx; rw [hx]; exact s⟩
end Pe

namespace Pe
open Go Gq
variable {T : Nat → Option Fn} {A : Oracle}
section
variable {O : Oracle} {g : Nat} {first caps : List D}
/-- A comparison of a list's elements. -/
structure CmpRow (O : Oracle) (g : Nat) (first caps : List D) (f : D → Int) (s : Sh) (cs : List D) : Prop where
  nf : noTup first
  nc : noTup caps
  nx : noTup cs
  sh : AllSh s cs
  ask : ∀ x ∈ cs, ∀ y ∈ cs, ∃ v : Int, ask O g (first ++ [x, y] ++ caps) = some (D.int .i64 v) ∧ (v < 0 ↔ f x < f y)
theorem CmpRow.perm {f : D → Int} {s : Sh} {cs ds : List D} (h : CmpRow O g first caps f s cs) (p : ds.Perm cs) : CmpRow O g first caps f s ds :=
  ⟨h.nf, h.nc, fun x hx => h.nx x (p.subset hx), fun x hx => h.sh x (p.subset hx), fun x hx y hy => h.ask x (p.subset hx) y (p.subset hy)⟩
theorem CmpRow.call {f : D → Int} {s : Sh} {cs : List D} (h : CmpRow O g first caps f s cs) {hp : Heap} {np : Nat} {news : List Nat} {x y : D} (hx : x ∈ cs) (hy : y ∈ cs) :
    ∃ v : Int, kCall O np hp .flat news (g, first.map .d, caps.map .d) [.d x, .d y] = some (.d (D.int .i64 v), hp) ∧ (v < 0 ↔ f x < f y) := by
  have e : toDs hp (first.map .d ++ [.d x, .d y] ++ caps.map .d) = some (first ++ [x, y] ++ caps) :=
    toDs_app hp (toDs_app hp (toDs_map hp h.nf) (toDs_map hp (ds := [x, y]) (by intro z hz; simp at hz; rcases hz with rfl | rfl; exact h.nx _ hx; exact h.nx _ hy))) (toDs_map hp h.nc)
  obtain ⟨v, e1, e2⟩ := h.ask x hx y hy
  refine ⟨v, ?_, e2⟩
  rw [kCall_flat, e, Option.bind_some, kAsk_ask, e1, Option.bind_some, kAns_flat, show (D.int IntKind.i64 v).flat = true from rfl, if_pos rfl]
theorem l_insR {f : D → Int} {n : Nat} {cp : Option Nat} (hn : n ≤ 1000) {i : Nat} : ∀ (L : List D) (x : D) (R : List D), (L.reverse ++ x :: R).length = n → CmpRow O g first caps f .leaf (L.reverse ++ x :: R) → ∃ j : Int,
    dn O 1 (.loop ir_slices_insertionSortCmpFunc_impl_row_L0) ⟨[(0, .sl 0 [] 0 n cp), (1, (.d (.int .i64 0))), (2, (.d (.int .i64 n))), (3, .d (.fn g first caps)), (8, (.d (.int .i64 i))), (9, (.d (.int .i64 L.length)))], [.sl false .leaf (L.reverse ++ x :: R)]⟩ =
      some (.exit 2, ⟨[(0, .sl 0 [] 0 n cp), (1, (.d (.int .i64 0))), (2, (.d (.int .i64 n))), (3, .d (.fn g first caps)), (8, (.d (.int .i64 i))), (9, (.d (.int .i64 j))), (34, (.d (.bool false)))], [.sl false .leaf (insG f L x R)]⟩)
  | [], x, R, hl, ok => by
    refine ⟨0, dn_stop ?_⟩
    simp -implicitDefEqProofs [ir_slices_insertionSortCmpFunc_impl_row_L0, dn_cond, insG]
  | y :: L, x, R, hl, ok => by
    have hj : (y :: L).length = L.length + 1 := rfl
    have hlen : ((y :: L).reverse ++ x :: R).length = L.length + 1 + (R.length + 1) := by simp; omega
    have e1 : ((y :: L).reverse ++ x :: R)[L.length + 1]? = some x := by
      rw [List.getElem?_append_right (by simp)]; simp
    have e2 : ((y :: L).reverse ++ x :: R)[L.length]? = some y := by
      rw [List.getElem?_append_left (by simp)]; simp
    have m1 : x ∈ (y :: L).reverse ++ x :: R := by simp
    have m2 : y ∈ (y :: L).reverse ++ x :: R := by simp
    obtain ⟨cv, c, cneg⟩ := ok.call (hp := [.sl false .leaf ((y :: L).reverse ++ x :: R)]) (np := 1) (news := []) m1 m2
    have s1 := ok.sh x m1
    have s2 := ok.sh y m2
    have n1 := ok.nx x m1
    have n2 := ok.nx y m2
    have e3 : (((y :: L).reverse ++ x :: R).set (L.length + 1) y).set L.length x = L.reverse ++ x :: y :: R := by
      rw [List.set_append_right _ _ (by simp), List.set_append_left _ _ (by simp)]
      simp
    have hp : ((y :: L).reverse ++ x :: R).Perm (L.reverse ++ x :: y :: R) := by
      simp
      exact (List.Perm.swap x y R).append_left _
    have w1 : IntKind.i64.wrap (L.length : Int) = L.length := w64 (by omega)
    have h0 : (0 : Int) < (L.length : Int) + 1 := by omega
    have h00 : (0 : Int) ≤ (L.length : Int) + 1 := by omega
    have h1 : L.length + 1 < n := by omega
    have h2 : L.length < n := by omega
    have h3 : L.length < ((y :: L).reverse ++ x :: R).length := by omega
    have h4 : L.length + 1 < ((y :: L).reverse ++ x :: R).length := by omega
    have e4 : (((y :: L).reverse ++ x :: R).set (L.length + 1) y)[L.length]? = some y := by
      rw [List.getElem?_set_ne (by omega), e2]
    unfold insG
    rw [hj, show ((L.length + 1 : Nat) : Int) = (L.length : Int) + 1 by omega]
    generalize (y :: L).reverse ++ x :: R = cs at *
    have e1' : cs[L.length + 1] = x := by rw [List.getElem?_eq_getElem h4] at e1; exact Option.some.inj e1
    have e2' : cs[L.length] = y := by rw [List.getElem?_eq_getElem h3] at e2; exact Option.some.inj e2
    by_cases hlt : f x < f y
    · rw [if_pos hlt]
      obtain ⟨j, e⟩ := l_insR hn L x (y :: R) (by rw [← hp.length_eq]; omega) (ok.perm hp.symm)
      have hc := cneg.2 hlt
      refine ⟨j, dn_round ?_ e⟩
      simp -implicitDefEqProofs [ir_slices_insertionSortCmpFunc_impl_row_L0, dn_cond, h0, h00, h1, h2, h3, h4, e1', e2', c, s1, s2, n1, n2, w1, hc, e3]
    · rw [if_neg hlt]
      have hc := mt cneg.1 hlt
      refine ⟨(L.length : Int) + 1, dn_stop ?_⟩
      simp -implicitDefEqProofs [ir_slices_insertionSortCmpFunc_impl_row_L0, dn_cond, h0, h00, h1, h2, h3, h4, e1', e2', c, s1, s2, w1, hc]
end
theorem l_srtR {O : Oracle} {g : Nat} {first caps : List D} {f : D → Int} {n : Nat} {cp : Option Nat} (hn : n ≤ 1000) : ∀ (r P : List D), P.length + r.length = n → 0 < P.length → CmpRow O g first caps f .leaf (P ++ r) →
    dn O 1 (.loop ir_slices_insertionSortCmpFunc_impl_row_L1) ⟨[(0, .sl 0 [] 0 n cp), (1, (.d (.int .i64 0))), (2, (.d (.int .i64 n))), (3, .d (.fn g first caps)), (8, (.d (.int .i64 P.length)))], [.sl false .leaf (P ++ r)]⟩ =
      some (.exit 0, ⟨[(0, .sl 0 [] 0 n cp), (1, (.d (.int .i64 0))), (2, (.d (.int .i64 n))), (3, .d (.fn g first caps)), (8, (.d (.int .i64 n))), (14, (.d (.bool false)))], [.sl false .leaf (srtG f P r)]⟩)
  | [], P, hl, hP, ok => by
    have hl' : P.length = n := by simpa using hl
    refine dn_stop ?_
    simp -implicitDefEqProofs [ir_slices_insertionSortCmpFunc_impl_row_L1, dn_cond, srtG, hl']
  | x :: r, P, hl, hP, ok => by
    simp at hl
    have e0 : P.reverse.reverse ++ x :: r = P ++ x :: r := by simp
    obtain ⟨j, e⟩ := l_insR (O := O) (g := g) (first := first) (caps := caps) (f := f) (n := n) (cp := cp) hn (i := P.length) P.reverse x r (by simp; omega) (by rw [e0]; exact ok)
    rw [e0, List.length_reverse, ← List.nil_append r, insG_app, List.nil_append] at e
    have hlen := insG_len f P.reverse x []
    rw [List.length_reverse, List.length_nil, Nat.add_zero] at hlen
    have hperm : (insG f P.reverse x [] ++ r).Perm (P ++ x :: r) := by
      refine (List.Perm.append_right r (insG_perm f P.reverse x [])).trans ?_
      simp
      exact List.perm_middle.symm
    have ih := l_srtR (O := O) (g := g) (first := first) (caps := caps) (f := f) (cp := cp) hn r (insG f P.reverse x []) (by rw [hlen]; omega) (by omega) (ok.perm hperm)
    have hlt : P.length < n := by omega
    have w1 : IntKind.i64.wrap ((P.length : Int) + 1) = ((P.length + 1 : Nat) : Int) := (w64 (x := (P.length : Int) + 1) (by omega)).trans (by omega)
    rw [hlen] at ih
    unfold srtG
    refine dn_round ?_ ih
    simp -implicitDefEqProofs [ir_slices_insertionSortCmpFunc_impl_row_L1, dn_cond, hlt, e, w1]
/-- A short list, sorted in its place. -/
def H_sortR (O : Oracle) (F : Nat) (args : V → List V → List V) : Prop := ∀ (g : Nat) (first caps : List D) (f : D → Int) (cs : List D) (cp : Option Nat), cs.length ≤ 12 → CmpRow O g first caps f .leaf cs →
  ∃ ds : List D, ds.Perm cs ∧ Asc f ds ∧ O F (args (.sl 0 [] 0 cs.length cp) [(.d (.int .i64 cs.length)), .d (.fn g first caps)]) [.sl false .leaf cs] = some (.tup [], [.sl false .leaf ds], [])
def H_insRow (O : Oracle) : Prop := H_sortR O F_slices_insertionSortCmpFunc_impl_row fun s l => [s, (.d (.int .i64 0))] ++ l
theorem h_insRow (hT : T F_slices_insertionSortCmpFunc_impl_row = some ir_slices_insertionSortCmpFunc_impl_row) : H_insRow (den T A) := by
  intro g first caps f cs cp hl ok
  cases cs with
  | nil =>
    refine ⟨[], .refl _, List.Pairwise.nil, den_of hT rfl ?_⟩
    have st := dn_stop (O := den T A) (np := 1) (c := ir_slices_insertionSortCmpFunc_impl_row_L1) (s := ⟨[(0, .sl 0 [] 0 0 cp), (1, (.d (.int .i64 0))), (2, (.d (.int .i64 0))), (3, .d (.fn g first caps)), (8, (.d (.int .i64 1)))], [.sl false .leaf []]⟩) (s1 := ⟨[(0, .sl 0 [] 0 0 cp), (1, (.d (.int .i64 0))), (2, (.d (.int .i64 0))), (3, .d (.fn g first caps)), (8, (.d (.int .i64 1))), (14, (.d (.bool false)))], [.sl false .leaf []]⟩) (id := 0) (by simp -implicitDefEqProofs [ir_slices_insertionSortCmpFunc_impl_row_L1, dn_cond])
    have w1 : IntKind.i64.wrap 1 = 1 := w64 (by omega)
    simp -implicitDefEqProofs [ir_slices_insertionSortCmpFunc_impl_row, ir_slices_insertionSortCmpFunc_impl_row_B, st, w1]
  | cons x r =>
    have e := l_srtR (O := den T A) (g := g) (first := first) (caps := caps) (f := f) (n := (x :: r).length) (cp := cp) (by omega) r [x] (by simp; omega) (by simp) ok
    have e1 : (([x] : List D).length : Int) = 1 := rfl
    rw [e1] at e
    refine ⟨srtG f [x] r, srtG_perm f r [x], srtG_asc f r [x] (List.pairwise_singleton _ _), den_of hT rfl ?_⟩
    have w1 : IntKind.i64.wrap 1 = 1 := w64 (by omega)
    rw [List.singleton_append] at e
    generalize x :: r = cs at *
    simp -implicitDefEqProofs [ir_slices_insertionSortCmpFunc_impl_row, ir_slices_insertionSortCmpFunc_impl_row_B, e, w1]
theorem h_pdqRow (hT : T F_slices_pdqsortCmpFunc_impl_row = some ir_slices_pdqsortCmpFunc_impl_row) (hi : H_insRow (den T A)) : ∀ (g : Nat) (first caps : List D) (f : D → Int) (cs : List D) (cp : Option Nat) (v : Int), cs.length ≤ 12 → CmpRow (den T A) g first caps f .leaf cs →
    ∃ ds : List D, ds.Perm cs ∧ Asc f ds ∧ den T A F_slices_pdqsortCmpFunc_impl_row [.sl 0 [] 0 cs.length cp, (.d (.int .i64 0)), (.d (.int .i64 cs.length)), (.d (.int .i64 v)), .d (.fn g first caps)] [.sl false .leaf cs] = some (.tup [], [.sl false .leaf ds], []) := by
  intro g first caps f cs cp v hl ok
  obtain ⟨ds, h1, h2, e⟩ := hi g first caps f cs cp hl ok
  refine ⟨ds, h1, h2, den_of hT rfl ?_⟩
  have w1 : IntKind.i64.wrap (cs.length : Int) = cs.length := w64 (by omega)
  have h12 : (cs.length : Int) ≤ 12 := by omega
  have lp := dn_back (O := den T A) (np := 1) (c := ir_slices_pdqsortCmpFunc_impl_row_L0) (s := ⟨[(0, .sl 0 [] 0 cs.length cp), (1, (.d (.int .i64 0))), (2, (.d (.int .i64 cs.length))), (3, (.d (.int .i64 v))), (4, .d (.fn g first caps)), (10, (.d (.bool true))), (11, (.d (.bool true)))], [.sl false .leaf cs]⟩) (s1 := ⟨[], [.sl false .leaf ds]⟩) (by
    simp at e
    simp -implicitDefEqProofs [ir_slices_pdqsortCmpFunc_impl_row_L0, dn_cond, w1, h12, e, List.idxOf, List.findIdx, List.findIdx.go])
  simp -implicitDefEqProofs [ir_slices_pdqsortCmpFunc_impl_row, ir_slices_pdqsortCmpFunc_impl_row_B, lp]
def H_sortRow (O : Oracle) : Prop := ∀ (g : Nat) (first caps : List D) (f : D → Int) (cs : List D) (cp : Option Nat), cs.length ≤ 12 → CmpRow O g first caps f .leaf cs →
  ∃ ds : List D, ds.Perm cs ∧ Asc f ds ∧ O F_slices_SortFunc_impl_row_impl_row [.sl 0 [] 0 cs.length cp, .d (.fn g first caps)] [.sl false .leaf cs] = some (.tup [], [.sl false .leaf ds], [])
theorem h_sortRow (hT : T F_slices_SortFunc_impl_row_impl_row = some ir_slices_SortFunc_impl_row_impl_row) (hTp : T F_slices_pdqsortCmpFunc_impl_row = some ir_slices_pdqsortCmpFunc_impl_row) (hi : H_insRow (den T A)) (hl : C_len64 (den T A) F_math_bits_Len) : H_sortRow (den T A) := by
  intro g first caps f cs cp hl12 ok
  obtain ⟨v, ev⟩ := hl cs.length hl12
  obtain ⟨ds, h1, h2, e⟩ := h_pdqRow hTp hi g first caps f cs cp v hl12 ok
  refine ⟨ds, h1, h2, den_of hT rfl ?_⟩
  have w1 : IntKind.u64.wrap (cs.length : Int) = cs.length := by
    simp [IntKind.wrap, IntKind.bits, IntKind.signed]; omega
  simp -implicitDefEqProofs [ir_slices_SortFunc_impl_row_impl_row, ir_slices_SortFunc_impl_row_impl_row_B, w1, ev, e, List.idxOf, List.findIdx, List.findIdx.go]
end Pe

namespace Pe
open Go Gq
variable {T : Nat → Option Fn} {A : Oracle}
section
variable {p : Int}
/-- b without its part at the degree of a. -/
noncomputable def elim (a b : Fp p) : Fp p := b + Pol.C (-(b.c (a.len - 1))) * a
noncomputable def redS : List (Fp p) → Fp p → Fp p
  | [], a => a
  | b :: bs, a => redS bs (elim b a)
noncomputable def insS (a : Fp p) : List (Fp p) → List (Fp p)
  | [] => [a]
  | b :: bs => if b.len < a.len then a :: (b :: bs).map (elim a) else elim a b :: insS a bs
theorem insS_perm (a : Fp p) : ∀ L : List (Fp p), (insS a L).Perm (L.map (elim a) ++ [a])
  | [] => .refl _
  | b :: bs => by
    unfold insS
    split
    · exact (List.perm_append_singleton a ((b :: bs).map (elim a))).symm
    · exact (insS_perm a bs).cons _
theorem c_ge {a : Fp p} {n : Nat} (h : a.len ≤ n) : a.c n = 0 := a.lt_len n h
theorem elim_c (a b : Fp p) (n : Nat) : (elim a b).c n = b.c n + -(b.c (a.len - 1)) * a.c n := by
  unfold elim; rw [Pol.c_add, Pol.c_Cmul]
theorem insS_mem {a c : Fp p} : ∀ {L : List (Fp p)}, c ∈ insS a L → c = a ∨ ∃ b ∈ L, c = elim a b := fun {L} h => by
  have := (insS_perm a L).subset h
  rcases List.mem_append.1 this with h | h
  · obtain ⟨b, hb, rfl⟩ := List.mem_map.1 h; exact .inr ⟨b, hb, rfl⟩
  · exact .inl (by simpa using h)
noncomputable abbrev rowD (a : Fp p) : D := (D.sl .leaf (ints .i64 (row a)))
/-- Less for a greater degree. -/
def lenK : D → Int
  | .sl _ cs => -(cs.length : Int)
  | _ => 0
theorem lenK_row (a : Fp p) : lenK (rowD a) = -(a.len : Int) := by
  show -((ints .i64 (row a)).length : Int) = _
  rw [ints_length, row_length]
theorem sorted_is {L M : List (Fp p)} (hp : M.Perm L) (hL : L.Pairwise fun x y => y.len < x.len) (hM : M.Pairwise fun x y => y.len ≤ x.len) : M = L := by
  refine List.Perm.eq_of_pairwise (le := fun x y : Fp p => y.len ≤ x.len) (fun a b ha hb h1 h2 => ?_) hM (hL.imp fun h => by omega) hp
  have ha' := hp.subset ha
  have e : a.len = b.len := Nat.le_antisymm h2 h1
  clear h1 h2 hM
  induction L generalizing M with
  | nil => cases hb
  | cons c L ih =>
    obtain ⟨g1, g2⟩ := List.pairwise_cons.1 hL
    rcases List.mem_cons.1 ha' with rfl | ha1
    · rcases List.mem_cons.1 hb with rfl | hb1
      · rfl
      · have := g1 b hb1; omega
    · rcases List.mem_cons.1 hb with rfl | hb1
      · have := g1 a ha1; omega
      · exact ih (M := L) (.refl _) g2 ha1 hb1 ha1
theorem redS_keep {n : Nat} : ∀ {L : List (Fp p)} {a : Fp p}, (∀ b ∈ L, b.len ≤ n) → (redS L a).c n = a.c n
  | [], _, _ => rfl
  | b :: L, a, h => by
    show (redS L (elim b a)).c n = _
    rw [redS_keep (L := L) (fun c hc => h c (by simp [hc])), elim_c, c_ge (a := b) (h b (by simp)), Gq.mul_zero, Gq.add_zero]
end
section
variable {p : Int} [IsP p]
/-- Strictly descending degrees, all monic. -/
structure Desc (N : Nat) (L : List (Fp p)) : Prop where
  pw : L.Pairwise fun x y => y.len < x.len
  mon : ∀ b ∈ L, Monic b
  le : ∀ b ∈ L, b.len ≤ N
theorem Desc.nil (N : Nat) : Desc N ([] : List (Fp p)) := ⟨List.Pairwise.nil, (fun _ h => by cases h), (fun _ h => by cases h)⟩
theorem Desc.tail {N : Nat} {b : Fp p} {L : List (Fp p)} (h : Desc N (b :: L)) : Desc N L ∧ ∀ c ∈ L, c.len < b.len :=
  ⟨⟨h.pw.tail, fun c hc => h.mon c (by simp [hc]), fun c hc => h.le c (by simp [hc])⟩, (List.pairwise_cons.1 h.pw).1⟩
theorem Desc.length : ∀ {N : Nat} {L : List (Fp p)}, Desc N L → L.length ≤ N
  | N, [], _ => Nat.zero_le _
  | N, b :: L, h => by
    obtain ⟨h1, h2⟩ := h.tail
    have hb := Pol.len_pos (h.mon b (by simp)).2
    have hle := h.le b (by simp)
    have := Desc.length (N := b.len - 1) ⟨h1.pw, h1.mon, fun c hc => by have := h2 c hc; omega⟩
    rw [List.length_cons]; omega
theorem elim_le {N : Nat} {a b : Fp p} (ha : a.len ≤ N) (hb : b.len ≤ N) : (elim a b).len ≤ N := by
  unfold elim
  refine Pol.len_add_le hb (Pol.len_le fun i hi => ?_)
  rw [Pol.c_Cmul, c_ge (a := a) (by omega), Gq.mul_zero]
theorem elim_at {a : Fp p} (ha : Monic a) (b : Fp p) : (elim a b).c (a.len - 1) = 0 := by
  rw [elim_c, show a.c (a.len - 1) = 1 from ha.1, Gq.mul_one]
  exact Gq.add_neg _
theorem redS_le {N : Nat} : ∀ {L : List (Fp p)} {a : Fp p}, (∀ b ∈ L, b.len ≤ N) → a.len ≤ N → (redS L a).len ≤ N
  | [], _, _, ha => ha
  | b :: L, a, h, ha => redS_le (L := L) (fun c hc => h c (by simp [hc])) (elim_le (h b (by simp)) ha)
theorem redS_zero {N : Nat} : ∀ {L : List (Fp p)} {a : Fp p}, Desc N L → ∀ b ∈ L, (redS L a).c (b.len - 1) = 0
  | b :: L, a, h, c, hc => by
    obtain ⟨h1, h2⟩ := h.tail
    show (redS L (elim b a)).c _ = 0
    rcases List.mem_cons.1 hc with rfl | hc
    · rw [redS_keep (L := L) (fun d hd => by have := h2 d hd; omega), elim_at (h.mon c (by simp))]
    · exact redS_zero h1 c hc
theorem redS_ne {N : Nat} {L : List (Fp p)} {a : Fp p} (h : Desc N L) (h0 : redS L a ≠ 0) : ∀ b ∈ L, b.len ≠ (redS L a).len := fun b hb e => by
  have h1 := redS_zero (a := a) h b hb
  rw [e] at h1
  exact Pol.ld_ne h0 h1
theorem elim_mon {a b : Fp p} (hb : Monic b) (hne : b.len ≠ a.len) : Monic (elim a b) ∧ (elim a b).len = b.len := by
  have hbp := Pol.len_pos hb.2
  rcases Nat.lt_or_ge b.len a.len with h | h
  · have : elim a b = b := by
      unfold elim
      rw [c_ge (by omega), Gq.neg_zero, Pol.C_zero, Gq.zero_mul, Gq.add_zero]
    rw [this]; exact ⟨hb, rfl⟩
  · have hc : (elim a b).c (b.len - 1) = 1 := by
      rw [elim_c, c_ge (a := a) (by omega), Gq.mul_zero, Gq.add_zero]; exact hb.1
    have hl : (elim a b).len = b.len := by
      have h1 : (elim a b).len = (b.len - 1) + 1 := Pol.len_eq (Pol.lt_iff.2 (by
        rw [Nat.sub_add_cancel hbp]; exact elim_le h (Nat.le_refl _))) (by rw [hc]; exact Fd.one_ne)
      omega
    refine ⟨⟨by unfold Pol.ld; rw [hl]; exact hc, fun h0 => ?_⟩, hl⟩
    rw [h0, Pol.len_zero] at hl
    omega
theorem insS_desc {N : Nat} {a : Fp p} (ha : Monic a) (hal : a.len ≤ N) : ∀ {L : List (Fp p)}, Desc N L → (∀ b ∈ L, b.len ≠ a.len) → Desc N (insS a L)
  | [], _, _ => ⟨List.pairwise_singleton _ _, fun b hb => by simp [insS] at hb; rw [hb]; exact ha, fun b hb => by simp [insS] at hb; rw [hb]; exact hal⟩
  | b :: L, h, hne => by
    obtain ⟨h1, h2⟩ := h.tail
    have hall : ∀ c ∈ b :: L, Monic (elim a c) ∧ (elim a c).len = c.len := fun c hc => elim_mon (h.mon c hc) (hne c hc)
    refine ⟨?_, fun c hc => ?_, fun c hc => ?_⟩
    · unfold insS
      split
      · rename_i hlt
        refine List.pairwise_cons.2 ⟨fun c hc => ?_, ?_⟩
        · obtain ⟨d, hd, rfl⟩ := List.mem_map.1 hc
          rw [(hall d hd).2]
          rcases List.mem_cons.1 hd with rfl | hd
          · exact hlt
          · have := h2 d hd; omega
        · rw [List.pairwise_map]
          refine h.pw.imp_of_mem fun {x y} hx hy hxy => ?_
          rw [(hall x hx).2, (hall y hy).2]; exact hxy
      · rename_i hge
        refine List.pairwise_cons.2 ⟨fun c hc => ?_, (insS_desc ha hal h1 fun c hc => hne c (by simp [hc])).pw⟩
        rw [(hall b (by simp)).2]
        rcases insS_mem hc with rfl | ⟨d, hd, rfl⟩
        · have := hne b (by simp); omega
        · rw [(hall d (by simp [hd])).2]; exact h2 d hd
    · rcases insS_mem hc with rfl | ⟨d, hd, rfl⟩
      · exact ha
      · exact (hall d hd).1
    · rcases insS_mem hc with rfl | ⟨d, hd, rfl⟩
      · exact hal
      · rw [(hall d hd).2]; exact h.le d hd
/-- A reduced list with one more. -/
noncomputable def putS (L : List (Fp p)) (x : Fp p) : List (Fp p) := by
  classical exact if redS L x = 0 then L else insS (Gq.mon (redS L x)) L
theorem putS_zero {L : List (Fp p)} {x : Fp p} (h : redS L x = 0) : putS L x = L := by unfold putS; rw [if_pos h]
theorem putS_ne {L : List (Fp p)} {x : Fp p} (h : redS L x ≠ 0) : putS L x = insS (Gq.mon (redS L x)) L := by unfold putS; rw [if_neg h]
noncomputable def spanS : List (Fp p) → List (Fp p) → List (Fp p)
  | [], L => L
  | x :: xs, L => spanS xs (putS L x)
theorem putS_desc {N : Nat} {L : List (Fp p)} {x : Fp p} (h : Desc N L) (hx : x.len ≤ N) : Desc N (putS L x) := by
  by_cases h0 : redS L x = 0
  · rw [putS_zero h0]; exact h
  · rw [putS_ne h0]
    exact insS_desc (mon_monic h0) (by rw [mon_len h0]; exact redS_le h.le hx) h fun b hb => by rw [mon_len h0]; exact redS_ne h h0 b hb
theorem spanS_desc {N : Nat} : ∀ {xs L : List (Fp p)}, Desc N L → (∀ x ∈ xs, x.len ≤ N) → Desc N (spanS xs L)
  | [], _, h, _ => h
  | x :: xs, L, h, hx => spanS_desc (xs := xs) (putS_desc h (hx x (by simp))) fun y hy => hx y (by simp [hy])
end
section
variable {p : Int}
theorem sort_row {a : Fp p} {L : List (Fp p)} {ds : List D} (hd : (insS a L).Pairwise fun x y => y.len < x.len) (hp : ds.Perm ((L.map (elim a) ++ [a]).map rowD)) (hs : Asc lenK ds) : ds = (insS a L).map rowD := by
  obtain ⟨M, p1, p2⟩ := perm_map_ex rowD hp.symm (L.map (elim a) ++ [a]) rfl
  subst p2
  have : M = insS a L := sorted_is (p1.trans (insS_perm a L).symm) hd (by
    unfold Asc at hs
    rw [List.pairwise_map] at hs
    exact hs.imp fun h => by rw [lenK_row, lenK_row] at h; omega)
  rw [this]
end
end Pe

namespace Pe
open Go Gq
variable {T : Nat → Option Fn} {A : Oracle}
section
variable {p : Int} [IsP p]
theorem rep_small (x : Zp p) : 0 ≤ rep x ∧ rep x ≤ 7 := by
  have h1 := rep_in x
  have h2 := IsP.le (p := p)
  omega
theorem k_elim {O : Oracle} (hc : K_combine O) {a b : Fp p} (ha : a.len ≤ 64) (hb : b.len ≤ 64) : ask O F_impl_prime_combine [(D.int .i64 p), (D.sl .leaf (ints .i64 (row b))), (D.sl .leaf (ints .i64 (row a))), (D.int .i64 (-rep (b.c (a.len - 1))))] = some (D.sl .leaf (ints .i64 (row (elim a b)))) := by
  have h := rep_small (b.c (a.len - 1))
  have := hc p (-rep (b.c (a.len - 1))) b a (by omega) (by omega) (by omega) (by omega)
  rw [zp_neg, zp_rep] at this
  exact this
theorem l_red0 {O : Oracle} (hat : C_at O) (hc : K_combine O) {L : List (Fp p)} {N : Nat} (hN : N ≤ 12) (hL : Desc N L) {xs : List D} {nx i : Int} {n : Nat} (hn : L.length = n) {cp cp2 : Option Nat} : ∀ (r j : Nat) (a : Fp p), j + r = n → a.len ≤ N →
    dn O 0 (.loop ir_impl_prime_reducedList_L0) ⟨[(0, (.d (.int .i64 p))), (5, .sl 0 [] 0 n cp), (7, (.d (.sl .leaf (ints .i64 (row a))))), (12, .d (.sl .leaf xs)), (13, (.d (.int .i64 nx))), (14, (.d (.int .i64 i))), (18, .sl 0 [] 0 n cp2), (19, (.d (.int .i64 n))), (20, (.d (.int .i64 j)))], [.sl false .leaf (L.map rowD), .hole, .hole]⟩ =
      some (.exit 2, ⟨[(0, (.d (.int .i64 p))), (5, .sl 0 [] 0 n cp), (7, (.d (.sl .leaf (ints .i64 (row (redS (L.drop j) a)))))), (12, .d (.sl .leaf xs)), (13, (.d (.int .i64 nx))), (14, (.d (.int .i64 i))), (18, .sl 0 [] 0 n cp2), (19, (.d (.int .i64 n))), (20, (.d (.int .i64 n))), (21, (.d (.bool false)))], [.sl false .leaf (L.map rowD), .hole, .hole]⟩)
  | 0, j, a, hj, ha => by
    obtain rfl : j = n := by omega
    rw [List.drop_eq_nil_of_le (by omega)]
    refine dn_stop ?_
    show _ = some (_, (⟨[_, _, (7, (.d (.sl .leaf (ints .i64 (row a))))), _, _, _, _, _, _, _], _⟩ : St))
    generalize L.map rowD = LD at *
    simp -implicitDefEqProofs [ir_impl_prime_reducedList_L0, dn_cond]
  | r + 1, j, a, hj, ha => by
    have hlt : j < L.length := by omega
    have hll := hL.length
    have hjn : j < n := by omega
    have hm := List.getElem_mem hlt
    have hbl := hL.le _ hm
    have hbp := Pol.len_pos (hL.mon _ hm).2
    have e1 := hat (row a) (L[j].len - 1) (by omega)
    rw [row_cf] at e1
    have e2 := k_elim (O := O) hc (a := L[j]) (b := a) (by omega) (by omega)
    have w1 : IntKind.i64.wrap (((row L[j]).length : Int) - 1) = ((L[j].len - 1 : Nat) : Int) := by rw [row_length]; exact (w64 (by omega)).trans (by omega)
    have hr := rep_small (a.c (L[j].len - 1))
    have w2' : IntKind.i64.wrap (-rep (a.c (L[j].len - 1))) = -rep (a.c (L[j].len - 1)) := w64 (by omega)
    have w4 : IntKind.i64.wrap ((j : Int) + 1) = ((j + 1 : Nat) : Int) := (w64 (x := (j : Int) + 1) (by omega)).trans (by omega)
    have hx : ∀ h : j < (L.map rowD).length, (L.map rowD)[j]'h = (D.sl .leaf (ints .i64 (row L[j]))) := fun h => by rw [List.getElem_map]
    have hLD : (L.map rowD).length = n := by rw [List.length_map]; exact hn
    have hd : redS (L.drop j) a = redS (L.drop (j + 1)) (elim L[j] a) := by rw [List.drop_eq_getElem_cons hlt]; rfl
    have hjl : (j : Int) < n := by omega
    rw [hd]
    refine dn_round ?_ (l_red0 hat hc hN hL hn r (j + 1) (elim L[j] a) (by omega) (elim_le hbl ha))
    generalize rep (a.c (L[j].len - 1)) = k at *
    generalize row (elim L[j] a) = R1 at *
    generalize row a = R2 at *
    generalize row L[j] = R3 at *
    generalize L[j].len - 1 = d at *
    generalize L.map rowD = LD at *
    simp -implicitDefEqProofs [ir_impl_prime_reducedList_L0, dn_cond, hjl, hjn, hLD, hx, e1, e2, w1, w2', w4]
theorem l_red1 {O : Oracle} (hat : C_at O) (hc : K_combine O) {a : Fp p} (ha : a ≠ 0) (hal : a.len ≤ 12) {xs : List D} {nx i : Int} {n : Nat} {cp cp2 : Option Nat} : ∀ (r j : Nat) (Q : List (Fp p)), j + r = n → Q.length = n → (∀ b ∈ Q, b.len ≤ 12) → n ≤ 12 →
    dn O 0 (.loop ir_impl_prime_reducedList_L1) ⟨[(0, (.d (.int .i64 p))), (5, .sl 0 [] 0 n cp), (7, (.d (.sl .leaf (ints .i64 (row a))))), (12, .d (.sl .leaf xs)), (13, (.d (.int .i64 nx))), (14, (.d (.int .i64 i))), (45, .sl 0 [] 0 n cp2), (46, (.d (.int .i64 n))), (47, (.d (.int .i64 j)))], [.sl false .leaf (Q.map rowD), .hole, .hole]⟩ =
      some (.exit 4, ⟨[(0, (.d (.int .i64 p))), (5, .sl 0 [] 0 n cp), (7, (.d (.sl .leaf (ints .i64 (row a))))), (12, .d (.sl .leaf xs)), (13, (.d (.int .i64 nx))), (14, (.d (.int .i64 i))), (45, .sl 0 [] 0 n cp2), (46, (.d (.int .i64 n))), (47, (.d (.int .i64 n))), (48, (.d (.bool false)))], [.sl false .leaf ((Q.take j ++ (Q.drop j).map (elim a)).map rowD), .hole, .hole]⟩)
  | 0, j, Q, hj, hq, hQ, hn => by
    obtain rfl : j = n := by omega
    have : Q.take j ++ (Q.drop j).map (elim a) = Q := by rw [List.drop_eq_nil_of_le (by omega), List.take_of_length_le (by omega)]; simp
    rw [this]
    refine dn_stop ?_
    generalize Q.map rowD = LD at *
    simp -implicitDefEqProofs [ir_impl_prime_reducedList_L1, dn_cond]
  | r + 1, j, Q, hj, hq, hQ, hn => by
    have hlt : j < Q.length := by omega
    have hjn : j < n := by omega
    have hm := List.getElem_mem hlt
    have hbl := hQ _ hm
    have hap := Pol.len_pos ha
    have e1 := hat (row Q[j]) (a.len - 1) (by omega)
    rw [row_cf] at e1
    have e2 := k_elim (O := O) hc (a := a) (b := Q[j]) (by omega) (by omega)
    have w1 : IntKind.i64.wrap (((row a).length : Int) - 1) = ((a.len - 1 : Nat) : Int) := by rw [row_length]; exact (w64 (by omega)).trans (by omega)
    have hr := rep_small (Q[j].c (a.len - 1))
    have w2' : IntKind.i64.wrap (-rep (Q[j].c (a.len - 1))) = -rep (Q[j].c (a.len - 1)) := w64 (by omega)
    have w4 : IntKind.i64.wrap ((j : Int) + 1) = ((j + 1 : Nat) : Int) := (w64 (x := (j : Int) + 1) (by omega)).trans (by omega)
    have hx : ∀ h : j < (Q.map rowD).length, (Q.map rowD)[j]'h = (D.sl .leaf (ints .i64 (row Q[j]))) := fun h => by rw [List.getElem_map]
    have hLD : (Q.map rowD).length = n := by rw [List.length_map]; exact hq
    have hset : (Q.set j (elim a Q[j])).take (j + 1) ++ ((Q.set j (elim a Q[j])).drop (j + 1)).map (elim a) = Q.take j ++ (Q.drop j).map (elim a) := by
      rw [List.drop_set_of_lt (by omega), List.take_succ_eq_append_getElem (by rw [List.length_set]; exact hlt), List.getElem_set_self, List.take_set, List.set_eq_of_length_le (by rw [List.length_take]; omega), List.drop_eq_getElem_cons hlt, List.map_cons, List.append_assoc]
      rfl
    rw [← hset]
    refine dn_round ?_ (l_red1 hat hc ha hal r (j + 1) (Q.set j (elim a Q[j])) (by omega) (by rw [List.length_set]; exact hq) (fun b hb => by
      rcases List.mem_or_eq_of_mem_set hb with h | rfl
      · exact hQ b h
      · exact elim_le hal hbl) hn)
    have hms : (Q.set j (elim a Q[j])).map rowD = (Q.map rowD).set j (D.sl .leaf (ints .i64 (row (elim a Q[j])))) := List.map_set
    rw [hms]
    have hjl : (j : Int) < n := by omega
    generalize rep (Q[j].c (a.len - 1)) = k at *
    generalize row (elim a Q[j]) = R1 at *
    generalize row Q[j] = R2 at *
    generalize row a = R3 at *
    generalize a.len - 1 = d at *
    generalize Q.map rowD = LD at *
    simp -implicitDefEqProofs [ir_impl_prime_reducedList_L1, dn_cond, hjl, hjn, hLD, hx, e1, e2, w1, w2', w4]
theorem l_red2 {O : Oracle} (hat : C_at O) (hc : K_combine O) (hld : C_lead O) (hinv : C_inverse O) (hsc : K_scale O) (hsort : H_sortRow O) (hcmp : ∀ L : List (Fp p), (∀ x ∈ L, x.len ≤ 1000) → CmpRow O F_impl_prime_reducedList_1 [] [] lenK .leaf (L.map rowD)) {xs : List (Fp p)} {N : Nat} (hN : N ≤ 11) (hxs : ∀ x ∈ xs, x.len ≤ N) (hxl : xs.length < 2000000) : ∀ (r i : Nat) (L : List (Fp p)) (cp : Option Nat), i + r = xs.length → Desc N L → ∃ cp' : Option Nat,
    dn O 0 (.loop ir_impl_prime_reducedList_L2) ⟨[(0, (.d (.int .i64 p))), (5, .sl 0 [] 0 L.length cp), (12, .d (.sl .leaf (xs.map rowD))), (13, (.d (.int .i64 xs.length))), (14, (.d (.int .i64 i)))], [.sl false .leaf (L.map rowD), .hole, .hole]⟩ =
      some (.exit 0, ⟨[(0, (.d (.int .i64 p))), (5, .sl 0 [] 0 (spanS (xs.drop i) L).length cp'), (12, .d (.sl .leaf (xs.map rowD))), (13, (.d (.int .i64 xs.length))), (14, (.d (.int .i64 xs.length))), (15, (.d (.bool false)))], [.sl false .leaf ((spanS (xs.drop i) L).map rowD), .hole, .hole]⟩)
  | 0, i, L, cp, hi, hL => by
    obtain rfl : i = xs.length := by omega
    rw [List.drop_length]
    refine ⟨cp, dn_stop ?_⟩
    show _ = some (_, (⟨[_, (5, .sl 0 [] 0 L.length cp), _, _, _, _], [.sl false .leaf (L.map rowD), _, _]⟩ : St))
    generalize L.map rowD = LD at *
    generalize xs.map rowD = XD at *
    simp -implicitDefEqProofs [ir_impl_prime_reducedList_L2, dn_cond]
  | r + 1, i, L, cp, hi, hL => by
    have hlt : i < xs.length := by omega
    have hm := List.getElem_mem hlt
    have hxi := hxs _ hm
    have hll := hL.length
    have hd : spanS (xs.drop i) L = spanS (xs.drop (i + 1)) (putS L xs[i]) := by rw [List.drop_eq_getElem_cons hlt]; rfl
    have hx : ∀ h : i < (xs.map rowD).length, (xs.map rowD)[i]'h = (D.sl .leaf (ints .i64 (row xs[i]))) := fun h => by rw [List.getElem_map]
    have hXD : (xs.map rowD).length = xs.length := List.length_map ..
    have hLD : (L.map rowD).length = L.length := List.length_map ..
    have w4 : IntKind.i64.wrap ((i : Int) + 1) = ((i + 1 : Nat) : Int) := (w64 (x := (i : Int) + 1) (by omega)).trans (by omega)
    have e0 := l_red0 (O := O) hat hc (by omega) hL (xs := xs.map rowD) (nx := xs.length) (i := i) rfl (cp := cp) (cp2 := cp) L.length 0 xs[i] (Nat.zero_add _) hxi
    have e00 : ((0 : Nat) : Int) = 0 := rfl
    rw [e00, List.drop_zero] at e0
    have hrl := redS_le (L := L) hL.le hxi
    rw [hd]
    by_cases h0 : redS L xs[i] = 0
    · rw [putS_zero h0]
      obtain ⟨cp', ih⟩ := l_red2 hat hc hld hinv hsc hsort hcmp hN hxs hxl r (i + 1) L cp (by omega) hL
      refine ⟨cp', dn_round ?_ ih⟩
      rw [h0, row_zero] at e0
      generalize row xs[i] = R1 at *
      generalize L.map rowD = LD at *
      generalize xs.map rowD = XD at *
      simp -implicitDefEqProofs [ir_impl_prime_reducedList_L2, dn_cond, hlt, hXD, hx, e0, w4, ints_nil]
    · have hap := Pol.len_pos h0
      have hml := mon_len h0
      have hmm := mon_monic h0
      have hld0 := Pol.ld_ne h0
      have hri := rep_in (redS L xs[i]).ld
      have hp7 := IsP.le (p := p)
      have hp2 := IsP.ge (p := p)
      have hr0 : rep (redS L xs[i]).ld ≠ 0 := fun h => hld0 (rep_eq_zero.1 h)
      have e2 := hld (row (redS L xs[i])) (by rw [row_length]; omega)
      rw [ld_row] at e2
      have e3 := hinv p (rep (redS L xs[i]).ld) (by omega) (by omega) (by omega) (by omega)
      have hin := inv_in (p := p) (rep (redS L xs[i]).ld)
      have e4 := hsc p (inv p (rep (redS L xs[i]).ld)) (redS L xs[i]) (by omega) (by omega) (by omega)
      rw [finv_rep _ hld0, show Pol.C (Fd.inv (redS L xs[i]).ld) * redS L xs[i] = Gq.mon (redS L xs[i]) from rfl] at e4
      have e5 := l_red1 (O := O) hat hc hmm.2 (by omega) (xs := xs.map rowD) (nx := xs.length) (i := i) (n := L.length) (cp := cp) (cp2 := cp) L.length 0 L (Nat.zero_add _) rfl (fun b hb => by have := hL.le b hb; omega) (by omega)
      rw [e00, List.take_zero, List.nil_append, List.drop_zero] at e5
      have hne : ∀ b ∈ L, b.len ≠ (Gq.mon (redS L xs[i])).len := fun b hb => by rw [hml]; exact redS_ne hL h0 b hb
      have hins := insS_desc hmm (by omega) hL hne
      obtain ⟨ds, s1, s2, s3⟩ := hsort F_impl_prime_reducedList_1 [] [] lenK ((L.map (elim (Gq.mon (redS L xs[i]))) ++ [Gq.mon (redS L xs[i])]).map rowD) none (by rw [List.length_map, List.length_append, List.length_map, List.length_singleton]; omega) (hcmp _ fun x hx => by
        rcases List.mem_append.1 hx with h | h
        · obtain ⟨b, hb, rfl⟩ := List.mem_map.1 h
          have := elim_le (N := N) (a := Gq.mon (redS L xs[i])) (by omega) (hL.le b hb)
          omega
        · obtain rfl : x = _ := by simpa using h
          omega)
      rw [sort_row hins.pw s1 s2] at s3
      have hpl := (insS_perm (Gq.mon (redS L xs[i])) L).length_eq
      rw [List.length_append, List.length_map, List.length_singleton] at hpl
      rw [putS_ne h0]
      obtain ⟨cp', ih⟩ := l_red2 hat hc hld hinv hsc hsort hcmp hN hxs hxl r (i + 1) (insS (Gq.mon (redS L xs[i])) L) none (by omega) hins
      refine ⟨cp', dn_round ?_ ih⟩
      rw [hpl]
      have hsl : ((L.map (elim (Gq.mon (redS L xs[i]))) ++ [Gq.mon (redS L xs[i])]).map rowD).length = L.length + 1 := by rw [List.length_map, List.length_append, List.length_map, List.length_singleton]
      rw [hsl] at s3
      have hmap : (L.map (elim (Gq.mon (redS L xs[i]))) ++ [Gq.mon (redS L xs[i])]).map rowD = (L.map (elim (Gq.mon (redS L xs[i])))).map rowD ++ [(D.sl .leaf (ints .i64 (row (Gq.mon (redS L xs[i])))))] := by rw [List.map_append]; rfl
      rw [hmap] at s3
      have hLE : ((L.map (elim (Gq.mon (redS L xs[i])))).map rowD).length = L.length := by rw [List.length_map, List.length_map]
      have h24 : (L.length + 1) * 24 ≤ 1099511627776 := by omega
      have hrl0 : (row (redS L xs[i])).length ≠ 0 := by rw [row_length]; omega
      have htk : ((L.map (elim (Gq.mon (redS L xs[i])))).map rowD).take L.length = (L.map (elim (Gq.mon (redS L xs[i])))).map rowD := List.take_of_length_le (by omega)
      generalize (insS (Gq.mon (redS L xs[i])) L).map rowD = LI at *
      generalize (L.map (elim (Gq.mon (redS L xs[i])))).map rowD = LE at *
      generalize inv p (rep (redS L xs[i]).ld) = k1 at *
      generalize rep (redS L xs[i]).ld = k2 at *
      generalize row (Gq.mon (redS L xs[i])) = R2 at *
      generalize row (redS L xs[i]) = R3 at *
      generalize row xs[i] = R1 at *
      generalize L.map rowD = LD at *
      generalize xs.map rowD = XD at *
      simp -implicitDefEqProofs [ir_impl_prime_reducedList_L2, dn_cond, hlt, hXD, hx, e0, e2, e3, e4, e5, s3, w4, hrl0, hLE, h24, htk, List.replicate, List.idxOf, List.findIdx, List.findIdx.go]
def K_redList (O : Oracle) : Prop := ∀ (p : Int) [IsP p] (xs : List (Fp p)), (∀ x ∈ xs, x.len ≤ 11) → xs.length < 2000000 → ask O F_impl_prime_reducedList [(D.int .i64 p), .sl .leaf (xs.map rowD)] = some (.sl .leaf ((spanS xs []).map rowD))
end
theorem row_cmp {p : Int} (hT : T F_impl_prime_reducedList_1 = some ir_impl_prime_reducedList_1) {L : List (Fp p)} (hl : ∀ x ∈ L, x.len ≤ 1000) : CmpRow (den T A) F_impl_prime_reducedList_1 [] [] lenK .leaf (L.map rowD) := by
  refine ⟨fun x hx => by simp at hx, fun x hx => by simp at hx, fun x hx => ?_, fun x hx => ?_, fun x hx y hy => ?_⟩
  · obtain ⟨a, _, rfl⟩ := List.mem_map.1 hx; rfl
  · obtain ⟨a, _, rfl⟩ := List.mem_map.1 hx; rfl
  · obtain ⟨a, ha, rfl⟩ := List.mem_map.1 hx
    obtain ⟨b, hb, rfl⟩ := List.mem_map.1 hy
    have h1 := hl a ha
    have h2 := hl b hb
    have w1 : IntKind.i64.wrap ((b.len : Int) - a.len) = (b.len : Int) - a.len := w64 (by omega)
    refine ⟨(b.len : Int) - a.len, ask_of hT rfl ?_, by rw [lenK_row, lenK_row]; omega⟩
    simp -implicitDefEqProofs [ir_impl_prime_reducedList_1, ir_impl_prime_reducedList_1_B, w1]
theorem k_redList (hT : T F_impl_prime_reducedList = some ir_impl_prime_reducedList) (hT1 : T F_impl_prime_reducedList_1 = some ir_impl_prime_reducedList_1) (hat : C_at (den T A)) (hc : K_combine (den T A)) (hld : C_lead (den T A)) (hinv : C_inverse (den T A)) (hsc : K_scale (den T A)) (hsort : H_sortRow (den T A)) : K_redList (den T A) := by
  intro p ip xs hxs hxl
  obtain ⟨cp, e⟩ := l_red2 (O := den T A) hat hc hld hinv hsc hsort (fun L hl => row_cmp hT1 hl) (Nat.le_refl 11) hxs hxl xs.length 0 [] (some 0) (Nat.zero_add _) (Desc.nil 11)
  have e00 : ((0 : Nat) : Int) = 0 := rfl
  rw [e00, List.drop_zero, List.map_nil, List.length_nil] at e
  have hL : ((spanS xs []).map rowD).length = (spanS xs []).length := List.length_map ..
  have hX : (xs.map rowD).length = xs.length := List.length_map ..
  have htk : ((spanS xs []).map rowD).take (spanS xs []).length = (spanS xs []).map rowD := List.take_of_length_le (by omega)
  refine ask_of hT rfl ?_
  generalize (spanS xs []).map rowD = LD at *
  generalize xs.map rowD = XD at *
  simp -implicitDefEqProofs [ir_impl_prime_reducedList, ir_impl_prime_reducedList_B, hX, hL, htk, e]
end Pe



namespace Pe
open Go Gq
variable {T : Nat → Option Fn} {A : Oracle}
noncomputable abbrev padD {p : Int} (a : Fp p) : D := (D.arr 64 .leaf (ints .u8 (pad (row a))))
theorem map_padD {p : Int} (xs : List (Fp p)) : (skP xs).map arr8 = xs.map padD := by unfold skP; rw [List.map_map]; rfl
section
variable {p : Int} [IsP p]
theorem l_polys {O : Oracle} (hpo : K_poly O) {xs : List (Fp p)} (hl : xs.length < 2000000) (hx : ∀ x ∈ xs, x.len ≤ 64) : ∀ (r i : Nat) (cp : Option Nat), i + r = xs.length → ∃ cp' : Option Nat,
    dn O 0 (.loop ir_impl_polys_L0) ⟨[(3, .sl 0 [] 0 i cp), (6, .d (.sl .leaf (xs.map rowD))), (7, (.d (.int .i64 xs.length))), (8, (.d (.int .i64 i)))], [.sl false (.arr 64 .leaf) ((xs.take i).map padD), .hole, .hole]⟩ =
      some (.exit 0, ⟨[(3, .sl 0 [] 0 xs.length cp'), (6, .d (.sl .leaf (xs.map rowD))), (7, (.d (.int .i64 xs.length))), (8, (.d (.int .i64 xs.length))), (9, (.d (.bool false)))], [.sl false (.arr 64 .leaf) (xs.map padD), .hole, .hole]⟩)
  | 0, i, cp, hi => by
    obtain rfl : i = xs.length := by omega
    rw [List.take_length]
    refine ⟨cp, dn_stop ?_⟩
    generalize xs.map padD = XD at *
    generalize xs.map rowD = RD at *
    simp -implicitDefEqProofs [ir_impl_polys_L0, dn_cond]
  | r + 1, i, cp, hi => by
    have hlt : i < xs.length := by omega
    have hm := List.getElem_mem hlt
    have e1 := hpo p xs[i] (hx _ hm)
    have hXD : (xs.map rowD).length = xs.length := List.length_map ..
    have hxi : ∀ h : i < (xs.map rowD).length, (xs.map rowD)[i]'h = (D.sl .leaf (ints .i64 (row xs[i]))) := fun h => by rw [List.getElem_map]
    have w4 : IntKind.i64.wrap ((i : Int) + 1) = ((i + 1 : Nat) : Int) := (w64 (x := (i : Int) + 1) (by omega)).trans (by omega)
    have h24 : (i + 1) * 64 ≤ 1099511627776 := by omega
    have htk : (xs.take (i + 1)).map padD = (xs.take i).map padD ++ [(D.arr 64 .leaf (ints .u8 (pad (row xs[i]))))] := by rw [List.take_succ_eq_append_getElem hlt, List.map_append]; rfl
    have hL : ((xs.take i).map padD).length = i := by rw [List.length_map, List.length_take]; omega
    have htt : ((xs.take i).map padD).take i = (xs.take i).map padD := List.take_of_length_le (by omega)
    obtain ⟨cp', ih⟩ := l_polys hpo hl hx r (i + 1) none (by omega)
    refine ⟨cp', dn_round ?_ ih⟩
    rw [htk]
    generalize pad (row xs[i]) = Pi at *
    generalize row xs[i] = Ri at *
    generalize (xs.take i).map padD = TD at *
    generalize xs.map rowD = XD at *
    simp -implicitDefEqProofs [ir_impl_polys_L0, dn_cond, hlt, hXD, hxi, e1, h24, hL, htt, w4, List.replicate]
def K_polys (O : Oracle) : Prop := ∀ (p : Int) [IsP p] (xs : List (Fp p)), xs.length < 2000000 → (∀ x ∈ xs, x.len ≤ 64) → ask O F_impl_polys [.sl .leaf (xs.map rowD)] = some (.sl (.arr 64 .leaf) (xs.map padD))
end
theorem k_polys (hT : T F_impl_polys = some ir_impl_polys) (hpo : K_poly (den T A)) : K_polys (den T A) := by
  intro p ip xs hl hx
  obtain ⟨cp, e⟩ := l_polys (O := den T A) hpo hl hx xs.length 0 (some 0) (Nat.zero_add _)
  have e00 : ((0 : Nat) : Int) = 0 := rfl
  rw [e00, List.take_zero, List.map_nil] at e
  have h1 : (xs.map padD).length = xs.length := List.length_map ..
  have h2 : (xs.map rowD).length = xs.length := List.length_map ..
  have htk : (xs.map padD).take xs.length = xs.map padD := List.take_of_length_le (by omega)
  refine ask_of hT rfl ?_
  generalize xs.map padD = XD at *
  generalize xs.map rowD = RD at *
  simp -implicitDefEqProofs [ir_impl_polys, ir_impl_polys_B, h1, h2, htk, e]
end Pe


namespace Pe
open Go Gq
variable {T : Nat → Option Fn} {A : Oracle}
section
variable {p : Int}
theorem pad_row_at {a : Fp p} (ha : a.len ≤ 64) {n : Nat} : ∀ h : n < (pad (row a)).length, (pad (row a))[n]'h = rep (a.c n) := fun h => by
  rw [← cf_lt h, pad_row_cf ha]
end
section
variable {p : Int} [IsP p]
theorem k_selim {O : Oracle} (hadd : K_sAdd O) {a b : Fp p} (ha : a.len ≤ 64) (hb : b.len ≤ 64) : ask O F_spec_l01Add [(D.int .i64 p), (D.arr 64 .leaf (ints .u8 (pad (row b)))), (D.arr 64 .leaf (ints .u8 (pad (row a)))), (D.int .i64 (-rep (b.c (a.len - 1))))] = some (D.arr 64 .leaf (ints .u8 (pad (row (elim a b))))) := by
  have h := rep_small (b.c (a.len - 1))
  have := hadd p (-rep (b.c (a.len - 1))) b a (by omega) (by omega) hb ha
  rw [zp_neg, zp_rep] at this
  exact this
theorem l_put0 {O : Oracle} (hdg : K_sDeg O) (hadd : K_sAdd O) {L : List (Fp p)} {N : Nat} (hN : N ≤ 11) (hL : Desc N L) : ∀ (r i : Nat) (a : Fp p), i + r = L.length → a.len ≤ N →
    dn O 0 (.loop ir_spec_l03Put_L0) ⟨[(0, (.d (.int .i64 p))), (1, .d (.sl (.arr 64 .leaf) (L.map padD))), (5, .ptr 0 []), (7, (.d (.int .i64 i)))], [.box false (D.arr 64 .leaf (ints .u8 (pad (row a)))), .hole, .hole, .hole, .hole, .hole, .hole, .hole]⟩ =
      some (.exit 0, ⟨[(0, (.d (.int .i64 p))), (1, .d (.sl (.arr 64 .leaf) (L.map padD))), (5, .ptr 0 []), (7, (.d (.int .i64 L.length))), (16, (.d (.bool false)))], [.box false (D.arr 64 .leaf (ints .u8 (pad (row (redS (L.drop i) a))))), .hole, .hole, .hole, .hole, .hole, .hole, .hole]⟩)
  | 0, i, a, hi, ha => by
    obtain rfl : i = L.length := by omega
    have hLD : (L.map padD).length = L.length := List.length_map ..
    rw [List.drop_length]
    refine dn_stop ?_
    show _ = some (_, (⟨_, [.box false (D.arr 64 .leaf (ints .u8 (pad (row a)))), _, _, _, _, _, _, _]⟩ : St))
    generalize pad (row a) = Pa at *
    generalize L.map padD = LD at *
    simp -implicitDefEqProofs [ir_spec_l03Put_L0, dn_cond, hLD]
  | r + 1, i, a, hi, ha => by
    have hlt : i < L.length := by omega
    have hm := List.getElem_mem hlt
    have hbl := hL.le _ hm
    have hbp := Pol.len_pos (hL.mon _ hm).2
    have hll := hL.length
    have hLD : (L.map padD).length = L.length := List.length_map ..
    have hx : ∀ h : i < (L.map padD).length, (L.map padD)[i]'h = (D.arr 64 .leaf (ints .u8 (pad (row L[i])))) := fun h => by rw [List.getElem_map]
    have e1 := hdg p L[i] (by omega)
    rw [show (L[i].len : Int) - 1 = ((L[i].len - 1 : Nat) : Int) by omega] at e1
    have e2 := k_selim hadd (a := L[i]) (b := a) (by omega) (by omega)
    have hat := pad_row_at (a := a) (by omega) (n := L[i].len - 1)
    have hPl := pad_length (row a)
    have hd64 : L[i].len - 1 < 64 := by omega
    have hr := rep_small (a.c (L[i].len - 1))
    have w1 : IntKind.i64.wrap (rep (a.c (L[i].len - 1))) = rep (a.c (L[i].len - 1)) := w64 (by omega)
    have w2 : IntKind.i64.wrap (-rep (a.c (L[i].len - 1))) = -rep (a.c (L[i].len - 1)) := w64 (by omega)
    have w4 : IntKind.i64.wrap ((i : Int) + 1) = ((i + 1 : Nat) : Int) := (w64 (x := (i : Int) + 1) (by omega)).trans (by omega)
    have hd : redS (L.drop i) a = redS (L.drop (i + 1)) (elim L[i] a) := by rw [List.drop_eq_getElem_cons hlt]; rfl
    rw [hd]
    refine dn_round ?_ (l_put0 hdg hadd hN hL r (i + 1) (elim L[i] a) (by omega) (elim_le hbl ha))
    by_cases h0 : rep (a.c (L[i].len - 1)) = 0
    · have hz : elim L[i] a = a := by
        unfold elim
        rw [rep_eq_zero.1 h0, Gq.neg_zero, Pol.C_zero, Gq.zero_mul, Gq.add_zero]
      rw [hz]
      rw [h0] at hat
      generalize pad (row a) = Pa at *
      generalize pad (row L[i]) = Pi at *
      generalize L[i].len - 1 = d at *
      generalize L.map padD = LD at *
      simp -implicitDefEqProofs [ir_spec_l03Put_L0, dn_cond, hlt, hLD, hx, e1, hat, hPl, hd64, w4]
    · generalize rep (a.c (L[i].len - 1)) = k at *
      generalize pad (row (elim L[i] a)) = Pe at *
      generalize pad (row a) = Pa at *
      generalize pad (row L[i]) = Pi at *
      generalize L[i].len - 1 = d at *
      generalize L.map padD = LD at *
      simp -implicitDefEqProofs [ir_spec_l03Put_L0, dn_cond, hlt, hLD, hx, e1, e2, hat, hPl, hd64, h0, w1, w2, w4]
theorem r_put0 {O : Oracle} {p : Int} {Pa : List Int} {d ql n : Nat} {LD QD : List D} {cp : Option Nat} {b : Bool} (hLD : LD.length = n) :
    dn O 0 ir_spec_l03Put_L1 ⟨[(0, (.d (.int .i64 p))), (1, .d (.sl (.arr 64 .leaf) LD)), (5, .ptr 0 []), (9, (.d (.int .i64 ((d : Int))))), (10, .sl 1 [] 0 ql cp), (11, (.d (.bool b))), (12, (.d (.int .i64 n)))], [.box false (D.arr 64 .leaf (ints .u8 Pa)), .sl false (.arr 64 .leaf) QD, .hole, .hole, .hole, .hole, .hole, .hole]⟩ = some (.exit 2, ⟨[(0, (.d (.int .i64 p))), (1, .d (.sl (.arr 64 .leaf) LD)), (5, .ptr 0 []), (9, (.d (.int .i64 ((d : Int))))), (10, .sl 1 [] 0 ql cp), (11, (.d (.bool b))), (12, (.d (.int .i64 n))), (59, (.d (.bool false)))], [.box false (D.arr 64 .leaf (ints .u8 Pa)), .sl false (.arr 64 .leaf) QD, .hole, .hole, .hole, .hole, .hole, .hole]⟩) := by
  simp -implicitDefEqProofs [ir_spec_l03Put_L1, dn_cond, hLD]
theorem r_putT {O : Oracle} {p k : Int} {Pa Pi Pe : List Int} {d ql i n : Nat} {LD QD : List D} {cp : Option Nat} (hlt : i < n) (hLD : LD.length = n) (hx : ∀ h : i < LD.length, LD[i]'h = (D.arr 64 .leaf (ints .u8 Pi))) (e2 : ask O F_spec_l01Add [(D.int .i64 p), (D.arr 64 .leaf (ints .u8 Pi)), (D.arr 64 .leaf (ints .u8 Pa)), (D.int .i64 (-k))] = some (D.arr 64 .leaf (ints .u8 Pe)))
    (hat : ∀ h : d < Pi.length, Pi[d]'h = k) (hPl : Pi.length = 64) (hd64 : d < 64) (hQD : QD.length = ql) (htq : QD.take ql = QD) (h64 : (ql + 1) * 64 ≤ 1099511627776) (w1 : IntKind.i64.wrap k = k) (w2 : IntKind.i64.wrap (-k) = -k) (w4 : IntKind.i64.wrap ((i : Int) + 1) = ((i + 1 : Nat) : Int)) :
    dn O 0 ir_spec_l03Put_L1 ⟨[(0, (.d (.int .i64 p))), (1, .d (.sl (.arr 64 .leaf) LD)), (5, .ptr 0 []), (9, (.d (.int .i64 ((d : Int))))), (10, .sl 1 [] 0 ql cp), (11, (.d (.bool true))), (12, (.d (.int .i64 i)))], [.box false (D.arr 64 .leaf (ints .u8 Pa)), .sl false (.arr 64 .leaf) QD, .hole, .hole, .hole, .hole, .hole, .hole]⟩ = some (.normal, ⟨[(0, (.d (.int .i64 p))), (1, .d (.sl (.arr 64 .leaf) LD)), (5, .ptr 0 []), (9, (.d (.int .i64 ((d : Int))))), (10, .sl 1 [] 0 (ql + 1) none), (11, (.d (.bool true))), (12, (.d (.int .i64 (((i + 1 : Nat) : Int)))))], [.box false (D.arr 64 .leaf (ints .u8 Pa)), .sl false (.arr 64 .leaf) (QD ++ [(D.arr 64 .leaf (ints .u8 Pe))]), .hole, .hole, .hole, .hole, .hole, .hole]⟩) := by
  simp -implicitDefEqProofs [ir_spec_l03Put_L1, dn_cond, hlt, hLD, hx, e2, hat, hPl, hd64, hQD, htq, h64, w1, w2, w4, List.replicate]
theorem take_snoc {α : Type} {QD : List α} {ql : Nat} (h : QD.length = ql) (z : α) : (QD ++ [z]).take (ql + 1) = QD ++ [z] := List.take_of_length_le (by rw [List.length_append, h]; exact Nat.le_refl _)
theorem r_putL {O : Oracle} {p k : Int} {Pa Pi Pe : List Int} {d d2 ql i n : Nat} {LD QD : List D} {cp : Option Nat} (hlt : i < n) (hLD : LD.length = n) (hx : ∀ h : i < LD.length, LD[i]'h = (D.arr 64 .leaf (ints .u8 Pi))) (e1 : ask O F_spec_l01Deg [(D.arr 64 .leaf (ints .u8 Pi))] = some (D.int .i64 ((d2 : Int)))) (e2 : ask O F_spec_l01Add [(D.int .i64 p), (D.arr 64 .leaf (ints .u8 Pi)), (D.arr 64 .leaf (ints .u8 Pa)), (D.int .i64 (-k))] = some (D.arr 64 .leaf (ints .u8 Pe)))
    (hat : ∀ h : d < Pi.length, Pi[d]'h = k) (hPl : Pi.length = 64) (hd64 : d < 64) (hQD : QD.length = ql) (htq : QD.take ql = QD) (h64 : (ql + 1) * 64 ≤ 1099511627776) (h64' : (ql + 1 + 1) * 64 ≤ 1099511627776) (w1 : IntKind.i64.wrap k = k) (w2 : IntKind.i64.wrap (-k) = -k) (w4 : IntKind.i64.wrap ((i : Int) + 1) = ((i + 1 : Nat) : Int)) (hdl : d2 < d) :
    dn O 0 ir_spec_l03Put_L1 ⟨[(0, (.d (.int .i64 p))), (1, .d (.sl (.arr 64 .leaf) LD)), (5, .ptr 0 []), (9, (.d (.int .i64 ((d : Int))))), (10, .sl 1 [] 0 ql cp), (11, (.d (.bool false))), (12, (.d (.int .i64 i)))], [.box false (D.arr 64 .leaf (ints .u8 Pa)), .sl false (.arr 64 .leaf) QD, .hole, .hole, .hole, .hole, .hole, .hole]⟩ = some (.normal, ⟨[(0, (.d (.int .i64 p))), (1, .d (.sl (.arr 64 .leaf) LD)), (5, .ptr 0 []), (9, (.d (.int .i64 ((d : Int))))), (10, .sl 1 [] 0 (ql + 2) none), (11, (.d (.bool true))), (12, (.d (.int .i64 (((i + 1 : Nat) : Int)))))], [.box false (D.arr 64 .leaf (ints .u8 Pa)), .sl false (.arr 64 .leaf) (QD ++ [(D.arr 64 .leaf (ints .u8 Pa)), (D.arr 64 .leaf (ints .u8 Pe))]), .hole, .hole, .hole, .hole, .hole, .hole]⟩) := by
  have htq2 := fun z : D => take_snoc hQD z
  simp -implicitDefEqProofs [ir_spec_l03Put_L1, dn_cond, hlt, hLD, hx, e1, e2, hat, hPl, hd64, hdl, hQD, htq, htq2, h64, h64', w1, w2, w4, List.replicate]
theorem r_putG {O : Oracle} {p k : Int} {Pa Pi Pe : List Int} {d d2 ql i n : Nat} {LD QD : List D} {cp : Option Nat} (hlt : i < n) (hLD : LD.length = n) (hx : ∀ h : i < LD.length, LD[i]'h = (D.arr 64 .leaf (ints .u8 Pi))) (e1 : ask O F_spec_l01Deg [(D.arr 64 .leaf (ints .u8 Pi))] = some (D.int .i64 ((d2 : Int)))) (e2 : ask O F_spec_l01Add [(D.int .i64 p), (D.arr 64 .leaf (ints .u8 Pi)), (D.arr 64 .leaf (ints .u8 Pa)), (D.int .i64 (-k))] = some (D.arr 64 .leaf (ints .u8 Pe)))
    (hat : ∀ h : d < Pi.length, Pi[d]'h = k) (hPl : Pi.length = 64) (hd64 : d < 64) (hQD : QD.length = ql) (htq : QD.take ql = QD) (h64 : (ql + 1) * 64 ≤ 1099511627776) (w1 : IntKind.i64.wrap k = k) (w2 : IntKind.i64.wrap (-k) = -k) (w4 : IntKind.i64.wrap ((i : Int) + 1) = ((i + 1 : Nat) : Int)) (hdl : ¬ d2 < d) :
    dn O 0 ir_spec_l03Put_L1 ⟨[(0, (.d (.int .i64 p))), (1, .d (.sl (.arr 64 .leaf) LD)), (5, .ptr 0 []), (9, (.d (.int .i64 ((d : Int))))), (10, .sl 1 [] 0 ql cp), (11, (.d (.bool false))), (12, (.d (.int .i64 i)))], [.box false (D.arr 64 .leaf (ints .u8 Pa)), .sl false (.arr 64 .leaf) QD, .hole, .hole, .hole, .hole, .hole, .hole]⟩ = some (.normal, ⟨[(0, (.d (.int .i64 p))), (1, .d (.sl (.arr 64 .leaf) LD)), (5, .ptr 0 []), (9, (.d (.int .i64 ((d : Int))))), (10, .sl 1 [] 0 (ql + 1) none), (11, (.d (.bool false))), (12, (.d (.int .i64 (((i + 1 : Nat) : Int)))))], [.box false (D.arr 64 .leaf (ints .u8 Pa)), .sl false (.arr 64 .leaf) (QD ++ [(D.arr 64 .leaf (ints .u8 Pe))]), .hole, .hole, .hole, .hole, .hole, .hole]⟩) := by
  simp -implicitDefEqProofs [ir_spec_l03Put_L1, dn_cond, hlt, hLD, hx, e1, e2, hat, hPl, hd64, hdl, hQD, htq, h64, w1, w2, w4, List.replicate]
theorem put_facts {O : Oracle} (hdg : K_sDeg O) (hadd : K_sAdd O) {L : List (Fp p)} {N : Nat} (hN : N ≤ 11) (hL : Desc N L) {a : Fp p} (ha : a ≠ 0) (hal : a.len ≤ N) {i : Nat} (hlt : i < L.length) :
    (∀ h : i < (L.map padD).length, (L.map padD)[i]'h = (D.arr 64 .leaf (ints .u8 (pad (row L[i]))))) ∧ ask O F_spec_l01Deg [(D.arr 64 .leaf (ints .u8 (pad (row L[i]))))] = some (D.int .i64 (((L[i].len - 1 : Nat) : Int))) ∧
    ask O F_spec_l01Add [(D.int .i64 p), (D.arr 64 .leaf (ints .u8 (pad (row L[i])))), (D.arr 64 .leaf (ints .u8 (pad (row a)))), (D.int .i64 (-rep (L[i].c (a.len - 1))))] = some (D.arr 64 .leaf (ints .u8 (pad (row (elim a L[i]))))) ∧
    (∀ h : a.len - 1 < (pad (row L[i])).length, (pad (row L[i]))[a.len - 1]'h = rep (L[i].c (a.len - 1))) ∧ (pad (row L[i])).length = 64 ∧
    IntKind.i64.wrap (rep (L[i].c (a.len - 1))) = rep (L[i].c (a.len - 1)) ∧ IntKind.i64.wrap (-rep (L[i].c (a.len - 1))) = -rep (L[i].c (a.len - 1)) ∧
    IntKind.i64.wrap ((i : Int) + 1) = ((i + 1 : Nat) : Int) ∧ a.len - 1 < 64 := by
  have hm := List.getElem_mem hlt
  have hbl := hL.le _ hm
  have hbp := Pol.len_pos (hL.mon _ hm).2
  have hap := Pol.len_pos ha
  have hll := hL.length
  have e1 := hdg p L[i] (by omega)
  rw [show (L[i].len : Int) - 1 = ((L[i].len - 1 : Nat) : Int) by omega] at e1
  have hr := rep_small (L[i].c (a.len - 1))
  exact ⟨fun h => by rw [List.getElem_map], e1, k_selim hadd (a := a) (b := L[i]) (by omega) (by omega), pad_row_at (a := L[i]) (by omega) (n := a.len - 1), pad_length _, w64 (by omega), w64 (by omega), (w64 (x := (i : Int) + 1) (by omega)).trans (by omega), by omega⟩
theorem l_put1 {O : Oracle} (hdg : K_sDeg O) (hadd : K_sAdd O) {L : List (Fp p)} {N : Nat} (hN : N ≤ 11) (hL : Desc N L) {a : Fp p} (ha : a ≠ 0) (hal : a.len ≤ N) : ∀ (r i : Nat) (Q : List (Fp p)) (b : Bool) (cp : Option Nat), i + r = L.length → Q.length ≤ i + b.toNat → ∃ (Q' : List (Fp p)) (b' : Bool) (cp' : Option Nat),
    dn O 0 (.loop ir_spec_l03Put_L1) ⟨[(0, (.d (.int .i64 p))), (1, .d (.sl (.arr 64 .leaf) (L.map padD))), (5, .ptr 0 []), (9, (.d (.int .i64 (((a.len - 1 : Nat) : Int))))), (10, .sl 1 [] 0 Q.length cp), (11, (.d (.bool b))), (12, (.d (.int .i64 i)))], [.box false (D.arr 64 .leaf (ints .u8 (pad (row a)))), .sl false (.arr 64 .leaf) (Q.map padD), .hole, .hole, .hole, .hole, .hole, .hole]⟩ =
      some (.exit 2, ⟨[(0, (.d (.int .i64 p))), (1, .d (.sl (.arr 64 .leaf) (L.map padD))), (5, .ptr 0 []), (9, (.d (.int .i64 (((a.len - 1 : Nat) : Int))))), (10, .sl 1 [] 0 Q'.length cp'), (11, (.d (.bool b'))), (12, (.d (.int .i64 L.length))), (59, (.d (.bool false)))], [.box false (D.arr 64 .leaf (ints .u8 (pad (row a)))), .sl false (.arr 64 .leaf) (Q'.map padD), .hole, .hole, .hole, .hole, .hole, .hole]⟩) ∧
      (if b' then Q' else Q' ++ [a]) = Q ++ (if b then (L.drop i).map (elim a) else insS a (L.drop i)) ∧ Q'.length ≤ L.length + 1
  | 0, i, Q, b, cp, hi, hq => by
    obtain rfl : i = L.length := by omega
    have hLD : (L.map padD).length = L.length := List.length_map ..
    refine ⟨Q, b, cp, dn_stop ?_, ?_, by have := Bool.toNat_le b; omega⟩
    · exact r_put0 hLD
    · rw [List.drop_length]
      cases b <;> simp [insS]
  | r + 1, i, Q, b, cp, hi, hq => by
    have hlt : i < L.length := by omega
    have hll := hL.length
    have hbt := Bool.toNat_le b
    have hir : i + 1 + r = L.length := by omega
    have hQl : Q.length ≤ 12 := by omega
    have h64 : (Q.length + 1) * 64 ≤ 1099511627776 := Nat.le_trans (Nat.mul_le_mul_right 64 (Nat.succ_le_succ hQl)) (by decide)
    have h64' : (Q.length + 1 + 1) * 64 ≤ 1099511627776 := Nat.le_trans (Nat.mul_le_mul_right 64 (Nat.succ_le_succ (Nat.succ_le_succ hQl))) (by decide)
    have hLD : (L.map padD).length = L.length := List.length_map ..
    have hd : L.drop i = L[i] :: L.drop (i + 1) := List.drop_eq_getElem_cons hlt
    have hQD : (Q.map padD).length = Q.length := List.length_map ..
    have htq : (Q.map padD).take Q.length = Q.map padD := List.take_of_length_le (by omega)
    have hq1 : ∀ x : Fp p, (Q ++ [x]).map padD = Q.map padD ++ [(D.arr 64 .leaf (ints .u8 (pad (row x))))] := fun x => by rw [List.map_append]; rfl
    have hl1 : ∀ x : Fp p, (Q ++ [x]).length = Q.length + 1 := fun x => by rw [List.length_append]; rfl
    have hq2 : ∀ x y : Fp p, (Q ++ [x, y]).map padD = Q.map padD ++ [(D.arr 64 .leaf (ints .u8 (pad (row x)))), (D.arr 64 .leaf (ints .u8 (pad (row y))))] := fun x y => by rw [List.map_append]; rfl
    have hl2 : ∀ x y : Fp p, (Q ++ [x, y]).length = Q.length + 2 := fun x y => by rw [List.length_append]; rfl
    have hap := Pol.len_pos ha
    have hbp := Pol.len_pos (hL.mon _ (List.getElem_mem hlt)).2
    cases b with
    | true =>
      obtain ⟨Q', b', cp', g1, g2, g3⟩ := l_put1 hdg hadd hN hL ha hal r (i + 1) (Q ++ [elim a L[i]]) true none hir (by rw [hl1]; simp only [Bool.toNat_true] at hq ⊢; omega)
      refine ⟨Q', b', cp', dn_round ?_ g1, ?_, g3⟩
      · obtain ⟨hx, e1, e2, hat, hPl, w1, w2, w4, hd64⟩ := put_facts hdg hadd hN hL ha hal hlt
        rw [hq1, hl1]; exact r_putT hlt hLD hx e2 hat hPl hd64 hQD htq h64 w1 w2 w4
      · rw [g2, hd]; simp only [if_true, List.map_cons, List.append_assoc, List.cons_append, List.nil_append]
    | false =>
      by_cases hlen : L[i].len < a.len
      · have hdl : L[i].len - 1 < a.len - 1 := by omega
        obtain ⟨Q', b', cp', g1, g2, g3⟩ := l_put1 hdg hadd hN hL ha hal r (i + 1) (Q ++ [a, elim a L[i]]) true none hir (by rw [hl2]; simp only [Bool.toNat_true, Bool.toNat_false] at hq ⊢; omega)
        refine ⟨Q', b', cp', dn_round ?_ g1, ?_, g3⟩
        · obtain ⟨hx, e1, e2, hat, hPl, w1, w2, w4, hd64⟩ := put_facts hdg hadd hN hL ha hal hlt
          rw [hq2, hl2]; exact r_putL hlt hLD hx e1 e2 hat hPl hd64 hQD htq h64 h64' w1 w2 w4 hdl
        · rw [g2, hd]
          show _ = Q ++ (if L[i].len < a.len then a :: (L[i] :: L.drop (i + 1)).map (elim a) else elim a L[i] :: insS a (L.drop (i + 1)))
          rw [if_pos hlen]; simp only [if_true, List.map_cons, List.append_assoc, List.cons_append, List.nil_append]
      · have hdl : ¬ (L[i].len - 1 < a.len - 1) := by omega
        obtain ⟨Q', b', cp', g1, g2, g3⟩ := l_put1 hdg hadd hN hL ha hal r (i + 1) (Q ++ [elim a L[i]]) false none hir (by rw [hl1]; simp only [Bool.toNat_false] at hq ⊢; omega)
        refine ⟨Q', b', cp', dn_round ?_ g1, ?_, g3⟩
        · obtain ⟨hx, e1, e2, hat, hPl, w1, w2, w4, hd64⟩ := put_facts hdg hadd hN hL ha hal hlt
          rw [hq1, hl1]; exact r_putG hlt hLD hx e1 e2 hat hPl hd64 hQD htq h64 w1 w2 w4 hdl
        · rw [g2, hd]
          show _ = Q ++ (if L[i].len < a.len then a :: (L[i] :: L.drop (i + 1)).map (elim a) else elim a L[i] :: insS a (L.drop (i + 1)))
          rw [if_neg hlen]; simp
end
def K_sPut (O : Oracle) : Prop := ∀ (p : Int) [IsP p] (L : List (Fp p)) (x : Fp p), Desc 11 L → x.len ≤ 11 → ask O F_spec_l03Put [(D.int .i64 p), .sl (.arr 64 .leaf) (L.map padD), (D.arr 64 .leaf (ints .u8 (pad (row x))))] = some (.sl (.arr 64 .leaf) ((putS L x).map padD))
theorem k_sPut (hT : T F_spec_l03Put = some ir_spec_l03Put) (hdg : K_sDeg (den T A)) (hinv : K_sInverse (den T A)) (hadd : K_sAdd (den T A)) : K_sPut (den T A) := by
  intro p ip L x hL hx
  have e0 := l_put0 (O := den T A) hdg hadd (Nat.le_refl 11) hL L.length 0 x (Nat.zero_add _) hx
  have e00 : ((0 : Nat) : Int) = 0 := rfl
  rw [e00, List.drop_zero] at e0
  have hrl := redS_le (L := L) hL.le hx
  have e1 := hdg p (redS L x) (by omega)
  refine ask_of hT rfl ?_
  by_cases h0 : redS L x = 0
  · rw [putS_zero h0]
    rw [h0, row_zero, Pol.len_zero] at e1
    rw [h0, row_zero] at e0
    generalize pad (row x) = Px at *
    generalize L.map padD = LD at *
    simp -implicitDefEqProofs [ir_spec_l03Put, ir_spec_l03Put_B, dn_cond, e0, e1]
  · rw [putS_ne h0]
    have hap := Pol.len_pos h0
    have hml := mon_len h0
    have hmm := mon_monic h0
    have hld0 := Pol.ld_ne h0
    have hri := rep_in (redS L x).ld
    have hr0 : rep (redS L x).ld ≠ 0 := fun h => hld0 (rep_eq_zero.1 h)
    rw [show ((redS L x).len : Int) - 1 = (((redS L x).len - 1 : Nat) : Int) by omega] at e1
    have hat := pad_row_at (a := redS L x) (by omega) (n := (redS L x).len - 1)
    rw [show (redS L x).c ((redS L x).len - 1) = (redS L x).ld from rfl] at hat
    have hPl := pad_length (row (redS L x))
    have hd64 : (redS L x).len - 1 < 64 := by omega
    have e2 := hinv p (rep (redS L x).ld) (by omega) (by omega)
    have hin := inv_in (p := p) (rep (redS L x).ld)
    have hp7 := IsP.le (p := p)
    have e3 := hadd p (inv p (rep (redS L x).ld)) 0 (redS L x) (by omega) (by omega) (by rw [Pol.len_zero]; omega) (by omega)
    rw [finv_rep _ hld0, Gq.zero_add, show Pol.C (Fd.inv (redS L x).ld) * redS L x = Gq.mon (redS L x) from rfl, row_zero] at e3
    have w1 : IntKind.i64.wrap (inv p (rep (redS L x).ld)) = inv p (rep (redS L x).ld) := w64 (by omega)
    obtain ⟨Q', b', cp', g1, g2, g3⟩ := l_put1 (O := den T A) hdg hadd (Nat.le_refl 11) hL hmm.2 (by omega) L.length 0 [] false (some 0) (Nat.zero_add _) (by simp)
    rw [e00, List.map_nil, List.length_nil, hml] at g1
    simp only [List.drop_zero, List.nil_append, Bool.false_eq_true, if_false] at g2
    have hn0 : ¬ (((redS L x).len - 1 : Nat) : Int) < 0 := by omega
    have hll := hL.length
    have hQD : (Q'.map padD).length = Q'.length := List.length_map ..
    have htq : (Q'.map padD).take Q'.length = Q'.map padD := List.take_of_length_le (by omega)
    have h64 : (Q'.length + 1) * 64 ≤ 1099511627776 := by omega
    cases b' with
    | true =>
      simp only [if_true] at g2
      rw [← g2]
      generalize inv p (rep (redS L x).ld) = k1 at *
      generalize rep (redS L x).ld = k2 at *
      generalize pad (row (Gq.mon (redS L x))) = P2 at *
      generalize pad (row (redS L x)) = P1 at *
      generalize pad (row x) = Px at *
      generalize (redS L x).len - 1 = d at *
      generalize L.map padD = LD at *
      generalize Q'.map padD = QD at *
      generalize Q'.length = ql at *
      simp -implicitDefEqProofs [ir_spec_l03Put, ir_spec_l03Put_B, dn_cond, e0, e1, e2, e3, g1, hat, hPl, hd64, hn0, hQD, htq, w1]
    | false =>
      simp only [Bool.false_eq_true, if_false] at g2
      rw [← g2, show (Q' ++ [Gq.mon (redS L x)]).map padD = Q'.map padD ++ [(D.arr 64 .leaf (ints .u8 (pad (row (Gq.mon (redS L x))))))] by rw [List.map_append]; rfl]
      have htq2 : ∀ z : D, (Q'.map padD ++ [z]).take (Q'.length + 1) = Q'.map padD ++ [z] := fun z => List.take_of_length_le (by rw [List.length_append, hQD]; exact Nat.le_refl _)
      generalize inv p (rep (redS L x).ld) = k1 at *
      generalize rep (redS L x).ld = k2 at *
      generalize pad (row (Gq.mon (redS L x))) = P2 at *
      generalize pad (row (redS L x)) = P1 at *
      generalize pad (row x) = Px at *
      generalize (redS L x).len - 1 = d at *
      generalize L.map padD = LD at *
      generalize Q'.map padD = QD at *
      generalize Q'.length = ql at *
      simp -implicitDefEqProofs [ir_spec_l03Put, ir_spec_l03Put_B, dn_cond, e0, e1, e2, e3, g1, hat, hPl, hd64, hn0, hQD, htq, htq2, h64, w1, List.replicate]
end Pe

namespace Pe
open Go Gq
variable {T : Nat → Option Fn} {A : Oracle}
theorem l_eqPs {O : Oracle} (he : C_eqPoly O) {ls : List (List Int)} (h : ∀ l ∈ ls, l.length = 64) (hl : ls.length < 2000000) : ∀ (k i : Nat), i + k = ls.length →
    dn O 0 (.loop ir_laws_eqPolyS_L0) ⟨[(0, .d (.sl (.arr 64 .leaf) (ls.map arr8))), (1, .d (.sl (.arr 64 .leaf) (ls.map arr8))), (5, (.d (.int .i64 i)))], []⟩ =
      some (.exit 0, ⟨[(0, .d (.sl (.arr 64 .leaf) (ls.map arr8))), (1, .d (.sl (.arr 64 .leaf) (ls.map arr8))), (5, (.d (.int .i64 ls.length))), (14, (.d (.bool false)))], []⟩)
  | 0, i, hi => by
    obtain rfl : i = ls.length := by omega
    have hL : (ls.map arr8).length = ls.length := List.length_map ..
    refine dn_stop ?_
    generalize ls.map arr8 = LD at *
    simp -implicitDefEqProofs [ir_laws_eqPolyS_L0, dn_cond, hL]
  | k + 1, i, hi => by
    have hlt : i < ls.length := by omega
    have e1 := he ls[i] (h _ (List.getElem_mem hlt))
    have hL : (ls.map arr8).length = ls.length := List.length_map ..
    have hx2 : ∀ h : i < (ls.map arr8).length, (ls.map arr8)[i]'h = (D.arr 64 .leaf (ints .u8 (ls[i]))) := fun h => by rw [List.getElem_map]
    have w4 : IntKind.i64.wrap ((i : Int) + 1) = ((i + 1 : Nat) : Int) := (w64 (x := (i : Int) + 1) (by omega)).trans (by omega)
    refine dn_round ?_ (l_eqPs he h hl k (i + 1) (by omega))
    generalize ls[i] = li at *
    generalize ls.map arr8 = LD at *
    simp -implicitDefEqProofs [ir_laws_eqPolyS_L0, dn_cond, hlt, hL, hx2, e1, w4]
def C_eqPs (O : Oracle) : Prop := ∀ ls : List (List Int), (∀ l ∈ ls, l.length = 64) → ls.length < 2000000 → ask O F_laws_eqPolyS [.sl (.arr 64 .leaf) (ls.map arr8), .sl (.arr 64 .leaf) (ls.map arr8)] = some (D.bool true)
theorem c_eqPs (hT : T F_laws_eqPolyS = some ir_laws_eqPolyS) (he : C_eqPoly (den T A)) : C_eqPs (den T A) := by
  intro ls h hl
  have e := l_eqPs (O := den T A) he h hl ls.length 0 (Nat.zero_add _)
  have e00 : ((0 : Nat) : Int) = 0 := rfl
  rw [e00] at e
  refine ask_of hT rfl ?_
  generalize ls.map arr8 = LD at *
  simp -implicitDefEqProofs [ir_laws_eqPolyS, ir_laws_eqPolyS_B, dn_cond, e]
end Pe

namespace Pe
open Go Gq
variable {T : Nat → Option Fn} {A : Oracle}
def mk8 (k : Nat) : Int := ((k % 256 : Nat) : Int)
theorem wrap8 (k : Nat) : IntKind.u8.wrap (k : Int) = mk8 k := by
  unfold mk8
  simp [IntKind.wrap, IntKind.bits, IntKind.signed]
def mrow (s i : Nat) : List Int := (List.range 64).map fun j => mk8 (s + 64 * i + j)
def mrows (s n : Nat) : List (List Int) := (List.range n).map (mrow s)
theorem mrow_length (s i : Nat) : (mrow s i).length = 64 := by unfold mrow; rw [List.length_map, List.length_range]
theorem mrows_length (s n : Nat) : (mrows s n).length = n := by unfold mrows; rw [List.length_map, List.length_range]
theorem updR_get (f : Nat → List Int) : ∀ (m i : Nat) (l : List (List Int)) (j : Nat), (updR f m i l)[j]? = if i ≤ j ∧ j < i + m ∧ j < l.length then some (f j) else l[j]?
  | 0, i, l, j => by rw [updR, if_neg (by omega)]
  | m + 1, i, l, j => by
    rw [updR, updR_get f m, List.length_set]
    by_cases h1 : i + 1 ≤ j ∧ j < i + 1 + m ∧ j < l.length
    · rw [if_pos h1, if_pos (by omega)]
    · rw [if_neg h1]
      by_cases h2 : j = i
      · subst h2
        by_cases h3 : j < l.length
        · rw [if_pos (by omega), List.getElem?_set_self h3]
        · rw [if_neg (by omega), List.getElem?_eq_none (by simpa using h3), List.getElem?_eq_none (by omega)]
      · rw [List.getElem?_set_ne (Ne.symm h2), if_neg (by omega)]
theorem updR_all (f : Nat → List Int) (n : Nat) (l : List (List Int)) (hl : l.length = n) : updR f n 0 l = (List.range n).map f := by
  apply List.ext_getElem?
  intro j
  rw [updR_get, List.getElem?_map]
  by_cases hj : j < n
  · rw [if_pos (by omega), List.getElem?_range hj]; rfl
  · rw [if_neg (by omega), List.getElem?_eq_none (by omega), List.getElem?_eq_none (by simpa using hj)]; rfl
theorem l_mark0 {O : Oracle} {n s i : Nat} {cp : Option Nat} {LR : List D} (hn : n < 2000000) (hs : s < 1000000000000) (hi : i < n) (hLR : LR.length = n) : ∀ (r j : Nat) (cur : List Int), j + r = 64 → cur.length = 64 →
    dn O 1 (.loop ir_laws_markPolyS_L0) ⟨[(0, .sl 0 [] 0 n cp), (1, (.d (.int .i64 (((s + 64 * i + j : Nat) : Int))))), (5, (.d (.int .i64 i))), (6, (.d (.int .i64 j)))], [.sl false (.arr 64 .leaf) (LR.set i (D.arr 64 .leaf (ints .u8 cur)))]⟩ =
      some (.exit 2, ⟨[(0, .sl 0 [] 0 n cp), (1, (.d (.int .i64 (((s + 64 * i + 64 : Nat) : Int))))), (5, (.d (.int .i64 i))), (6, (.d (.int .i64 64))), (14, (.d (.bool false)))], [.sl false (.arr 64 .leaf) (LR.set i (D.arr 64 .leaf (ints .u8 (upd (fun j => mk8 (s + 64 * i + j)) r j cur))))]⟩)
  | 0, j, cur, hj, hc => by
    have : j = 64 := by omega
    subst this
    refine dn_stop ?_
    show _ = some (_, (⟨_, [.sl false (.arr 64 .leaf) (LR.set i (D.arr 64 .leaf (ints .u8 cur)))]⟩ : St))
    generalize LR.set i (D.arr 64 .leaf (ints .u8 cur)) = LQ at *
    generalize ((s + 64 * i + 64 : Nat) : Int) = k at *
    simp -implicitDefEqProofs [ir_laws_markPolyS_L0, dn_cond]
  | r + 1, j, cur, hj, hc => by
    have hj64 : j < 64 := by omega
    have hj64' : (j : Int) < 64 := by omega
    have w1 := wrap8 (s + 64 * i + j)
    have w2 : IntKind.i64.wrap (((s + 64 * i + j : Nat) : Int) + 1) = ((s + 64 * i + (j + 1) : Nat) : Int) := (w64 (x := ((s + 64 * i + j : Nat) : Int) + 1) (by omega)).trans (by omega)
    have w4 : IntKind.i64.wrap ((j : Int) + 1) = ((j + 1 : Nat) : Int) := (w64 (x := (j : Int) + 1) (by omega)).trans (by omega)
    have hcur : cur[j]? = some (cf cur j) := by rw [List.getElem?_eq_getElem (by omega), cf_lt]
    refine dn_round ?_ (l_mark0 hn hs hi hLR r (j + 1) (cur.set j (mk8 (s + 64 * i + j))) (by omega) (by rw [List.length_set]; exact hc))
    generalize mk8 (s + 64 * i + j) = mv at *
    generalize ((s + 64 * i + j : Nat) : Int) = k at *
    generalize ((s + 64 * i + (j + 1) : Nat) : Int) = k2 at *
    simp -implicitDefEqProofs [ir_laws_markPolyS_L0, dn_cond, hj64, hj64', hi, hLR, hcur, w1, w2, w4]
theorem l_mark1 {O : Oracle} {n s : Nat} {cp : Option Nat} (hn : n < 2000000) (hs : s < 1000000000000) : ∀ (r i : Nat) (L : List (List Int)), i + r = n → L.length = n → (∀ l ∈ L, l.length = 64) →
    dn O 1 (.loop ir_laws_markPolyS_L1) ⟨[(0, .sl 0 [] 0 n cp), (1, (.d (.int .i64 (((s + 64 * i : Nat) : Int))))), (5, (.d (.int .i64 i)))], [.sl false (.arr 64 .leaf) (L.map arr8)]⟩ =
      some (.exit 0, ⟨[(0, .sl 0 [] 0 n cp), (1, (.d (.int .i64 (((s + 64 * n : Nat) : Int))))), (5, (.d (.int .i64 n))), (10, (.d (.bool false)))], [.sl false (.arr 64 .leaf) ((updR (mrow s) r i L).map arr8)]⟩)
  | 0, i, L, hi, hL, h64 => by
    obtain rfl : i = n := by omega
    refine dn_stop ?_
    show _ = some (_, (⟨_, [.sl false (.arr 64 .leaf) (L.map arr8)]⟩ : St))
    generalize L.map arr8 = LQ at *
    generalize ((s + 64 * i : Nat) : Int) = k at *
    simp -implicitDefEqProofs [ir_laws_markPolyS_L1, dn_cond]
  | r + 1, i, L, hi, hL, h64 => by
    have hlt : i < n := by omega
    have hltL : i < L.length := by omega
    have hLD : (L.map arr8).length = n := by rw [List.length_map]; exact hL
    have w4 : IntKind.i64.wrap ((i : Int) + 1) = ((i + 1 : Nat) : Int) := (w64 (x := (i : Int) + 1) (by omega)).trans (by omega)
    have e := l_mark0 (O := O) (cp := cp) hn hs hlt hLD 64 0 L[i] rfl (h64 _ (List.getElem_mem hltL))
    have hs0 : (L.map arr8).set i (D.arr 64 .leaf (ints .u8 (L[i]))) = L.map arr8 := by
      have : (D.arr 64 .leaf (ints .u8 (L[i]))) = (L.map arr8)[i]'(by omega) := by rw [List.getElem_map]
      rw [this, List.set_getElem_self]
    have e00 : ((0 : Nat) : Int) = 0 := rfl
    rw [hs0, upd_all _ _ _ (h64 _ (List.getElem_mem hltL)), Nat.add_zero, e00, show (List.range 64).map (fun j => mk8 (s + 64 * i + j)) = mrow s i from rfl] at e
    have hset : (L.set i (mrow s i)).map arr8 = (L.map arr8).set i (D.arr 64 .leaf (ints .u8 (mrow s i))) := List.map_set
    have ih := l_mark1 (O := O) (cp := cp) hn hs r (i + 1) (L.set i (mrow s i)) (by omega) (by rw [List.length_set]; exact hL) (fun l hl => by
      rcases List.mem_or_eq_of_mem_set hl with h1 | rfl
      · exact h64 l h1
      · exact mrow_length s i)
    rw [hset, show s + 64 * (i + 1) = s + 64 * i + 64 by omega] at ih
    refine dn_round ?_ ih
    have hli : (i : Int) < n := by omega
    generalize mrow s i = mr at *
    generalize ((s + 64 * i + 64 : Nat) : Int) = k2 at *
    generalize ((s + 64 * i : Nat) : Int) = k at *
    generalize L.map arr8 = LQ at *
    simp -implicitDefEqProofs [ir_laws_markPolyS_L1, dn_cond, hli, e, w4]
def H_markPs (O : Oracle) : Prop := ∀ (ls : List (List Int)) (cp : Option Nat) (s : Nat), ls.length < 2000000 → s < 1000000000000 → (∀ l ∈ ls, l.length = 64) →
  O F_laws_markPolyS [.sl 0 [] 0 ls.length cp, (.d (.int .i64 s))] [.sl false (.arr 64 .leaf) (ls.map arr8)] = some ((.d (.int .i64 (((s + 64 * ls.length : Nat) : Int)))), [.sl false (.arr 64 .leaf) ((mrows s ls.length).map arr8)], [])
theorem h_markPs (hT : T F_laws_markPolyS = some ir_laws_markPolyS) : H_markPs (den T A) := by
  intro ls cp s hl hs h64
  have e := l_mark1 (O := den T A) (cp := cp) hl hs ls.length 0 ls (Nat.zero_add _) rfl h64
  have e00 : ((0 : Nat) : Int) = 0 := rfl
  rw [e00, Nat.mul_zero, Nat.add_zero, updR_all _ _ _ rfl, show (List.range ls.length).map (mrow s) = mrows s ls.length from rfl] at e
  refine den_of hT rfl ?_
  generalize mrows s ls.length = MR at *
  generalize ((s + 64 * ls.length : Nat) : Int) = k at *
  simp -implicitDefEqProofs [ir_laws_markPolyS, ir_laws_markPolyS_B, e, List.idxOf, List.findIdx]
theorem l_held0 {O : Oracle} {n s i : Nat} (hn : n < 2000000) (hs : s < 1000000000000) (hi : i < n) : ∀ (r j : Nat), j + r = 64 →
    dn O 0 (.loop ir_laws_heldPolyS_L0) ⟨[(0, .d (.sl (.arr 64 .leaf) ((mrows s n).map arr8))), (1, (.d (.int .i64 (((s + 64 * i + j : Nat) : Int))))), (5, (.d (.int .i64 i))), (6, (.d (.int .i64 j)))], []⟩ =
      some (.exit 2, ⟨[(0, .d (.sl (.arr 64 .leaf) ((mrows s n).map arr8))), (1, (.d (.int .i64 (((s + 64 * i + 64 : Nat) : Int))))), (5, (.d (.int .i64 i))), (6, (.d (.int .i64 64))), (14, (.d (.bool false)))], []⟩)
  | 0, j, hj => by
    have : j = 64 := by omega
    subst this
    refine dn_stop ?_
    generalize (mrows s n).map arr8 = LQ at *
    generalize ((s + 64 * i + 64 : Nat) : Int) = k at *
    simp -implicitDefEqProofs [ir_laws_heldPolyS_L0, dn_cond]
  | r + 1, j, hj => by
    have hj64 : j < 64 := by omega
    have hj64' : (j : Int) < 64 := by omega
    have w1 := wrap8 (s + 64 * i + j)
    have w2 : IntKind.i64.wrap (((s + 64 * i + j : Nat) : Int) + 1) = ((s + 64 * i + (j + 1) : Nat) : Int) := (w64 (x := ((s + 64 * i + j : Nat) : Int) + 1) (by omega)).trans (by omega)
    have w4 : IntKind.i64.wrap ((j : Int) + 1) = ((j + 1 : Nat) : Int) := (w64 (x := (j : Int) + 1) (by omega)).trans (by omega)
    have hML : ((mrows s n).map arr8).length = n := by rw [List.length_map, mrows_length]
    have hx : ∀ h : i < ((mrows s n).map arr8).length, ((mrows s n).map arr8)[i]'h = (D.arr 64 .leaf (ints .u8 (mrow s i))) := fun h => by
      rw [List.getElem_map]
      unfold mrows
      rw [List.getElem_map, List.getElem_range]
    have hml := mrow_length s i
    have hv : ∀ h : j < (mrow s i).length, (mrow s i)[j]'h = mk8 (s + 64 * i + j) := fun h => by simp [mrow]
    refine dn_round ?_ (l_held0 hn hs hi r (j + 1) (by omega))
    generalize (mrows s n).map arr8 = LQ at *
    generalize mrow s i = mr at *
    generalize mk8 (s + 64 * i + j) = mv at *
    generalize ((s + 64 * i + j : Nat) : Int) = k at *
    generalize ((s + 64 * i + (j + 1) : Nat) : Int) = k2 at *
    simp -implicitDefEqProofs [ir_laws_heldPolyS_L0, dn_cond, hj64, hj64', hi, hML, hx, hml, hv, w1, w2, w4]
theorem l_held1 {O : Oracle} {n s : Nat} (hn : n < 2000000) (hs : s < 1000000000000) : ∀ (r i : Nat), i + r = n →
    dn O 0 (.loop ir_laws_heldPolyS_L1) ⟨[(0, .d (.sl (.arr 64 .leaf) ((mrows s n).map arr8))), (1, (.d (.int .i64 (((s + 64 * i : Nat) : Int))))), (5, (.d (.int .i64 i)))], []⟩ =
      some (.exit 0, ⟨[(0, .d (.sl (.arr 64 .leaf) ((mrows s n).map arr8))), (1, (.d (.int .i64 (((s + 64 * n : Nat) : Int))))), (5, (.d (.int .i64 n))), (10, (.d (.bool false)))], []⟩)
  | 0, i, hi => by
    obtain rfl : i = n := by omega
    have hML : ((mrows s i).map arr8).length = i := by rw [List.length_map, mrows_length]
    refine dn_stop ?_
    generalize (mrows s i).map arr8 = LQ at *
    generalize ((s + 64 * i : Nat) : Int) = k at *
    simp -implicitDefEqProofs [ir_laws_heldPolyS_L1, dn_cond, hML]
  | r + 1, i, hi => by
    have hlt : i < n := by omega
    have hML : ((mrows s n).map arr8).length = n := by rw [List.length_map, mrows_length]
    have w4 : IntKind.i64.wrap ((i : Int) + 1) = ((i + 1 : Nat) : Int) := (w64 (x := (i : Int) + 1) (by omega)).trans (by omega)
    have e := l_held0 (O := O) hn hs hlt 64 0 rfl
    have e00 : ((0 : Nat) : Int) = 0 := rfl
    rw [Nat.add_zero, e00] at e
    have ih := l_held1 (O := O) hn hs r (i + 1) (by omega)
    rw [show s + 64 * (i + 1) = s + 64 * i + 64 by omega] at ih
    refine dn_round ?_ ih
    generalize ((s + 64 * i + 64 : Nat) : Int) = k2 at *
    generalize ((s + 64 * i : Nat) : Int) = k at *
    generalize (mrows s n).map arr8 = LQ at *
    simp -implicitDefEqProofs [ir_laws_heldPolyS_L1, dn_cond, hlt, hML, e, w4]
def C_heldPs (O : Oracle) : Prop := ∀ s n : Nat, n < 2000000 → s < 1000000000000 → ask O F_laws_heldPolyS [.sl (.arr 64 .leaf) ((mrows s n).map arr8), (D.int .i64 s)] = some (D.int .i64 (((s + 64 * n : Nat) : Int)))
theorem c_heldPs (hT : T F_laws_heldPolyS = some ir_laws_heldPolyS) : C_heldPs (den T A) := by
  intro s n hn hs
  have e := l_held1 (O := den T A) hn hs n 0 (Nat.zero_add _)
  have e00 : ((0 : Nat) : Int) = 0 := rfl
  rw [e00, Nat.mul_zero, Nat.add_zero] at e
  refine ask_of hT rfl ?_
  generalize (mrows s n).map arr8 = LQ at *
  generalize ((s + 64 * n : Nat) : Int) = k at *
  simp -implicitDefEqProofs [ir_laws_heldPolyS, ir_laws_heldPolyS_B, e]
end Pe


namespace Pe
open Go Gq
variable {T : Nat → Option Fn} {A : Oracle}
section
variable {p : Int} [IsP p]
theorem l_polysH {O : Oracle} (hpo : K_poly O) {xs : List (Fp p)} (hl : xs.length < 2000000) (hx : ∀ x ∈ xs, x.len ≤ 64) : ∀ (r i : Nat) (cp : Option Nat), i + r = xs.length → ∃ cp' : Option Nat,
    dn O 0 (.loop ir_impl_polys_h_L0) ⟨[(3, .sl 1 [] 0 i cp), (6, .d (.sl .leaf (xs.map rowD))), (7, (.d (.int .i64 xs.length))), (8, (.d (.int .i64 i)))], [.hole, .sl false (.arr 64 .leaf) ((xs.take i).map padD), .hole, .hole]⟩ =
      some (.exit 0, ⟨[(3, .sl 1 [] 0 xs.length cp'), (6, .d (.sl .leaf (xs.map rowD))), (7, (.d (.int .i64 xs.length))), (8, (.d (.int .i64 xs.length))), (9, (.d (.bool false)))], [.hole, .sl false (.arr 64 .leaf) (xs.map padD), .hole, .hole]⟩)
  | 0, i, cp, hi => by
    obtain rfl : i = xs.length := by omega
    rw [List.take_length]
    refine ⟨cp, dn_stop ?_⟩
    generalize xs.map padD = XD at *
    generalize xs.map rowD = RD at *
    simp -implicitDefEqProofs [ir_impl_polys_h_L0, dn_cond]
  | r + 1, i, cp, hi => by
    have hlt : i < xs.length := by omega
    have hm := List.getElem_mem hlt
    have e1 := hpo p xs[i] (hx _ hm)
    have hXD : (xs.map rowD).length = xs.length := List.length_map ..
    have hxi : ∀ h : i < (xs.map rowD).length, (xs.map rowD)[i]'h = (D.sl .leaf (ints .i64 (row xs[i]))) := fun h => by rw [List.getElem_map]
    have w4 : IntKind.i64.wrap ((i : Int) + 1) = ((i + 1 : Nat) : Int) := (w64 (x := (i : Int) + 1) (by omega)).trans (by omega)
    have h24 : (i + 1) * 64 ≤ 1099511627776 := by omega
    have htk : (xs.take (i + 1)).map padD = (xs.take i).map padD ++ [(D.arr 64 .leaf (ints .u8 (pad (row xs[i]))))] := by rw [List.take_succ_eq_append_getElem hlt, List.map_append]; rfl
    have hL : ((xs.take i).map padD).length = i := by rw [List.length_map, List.length_take]; omega
    have htt : ((xs.take i).map padD).take i = (xs.take i).map padD := List.take_of_length_le (by omega)
    obtain ⟨cp', ih⟩ := l_polysH hpo hl hx r (i + 1) none (by omega)
    refine ⟨cp', dn_round ?_ ih⟩
    rw [htk]
    generalize pad (row xs[i]) = Pi at *
    generalize row xs[i] = Ri at *
    generalize (xs.take i).map padD = TD at *
    generalize xs.map rowD = XD at *
    simp -implicitDefEqProofs [ir_impl_polys_h_L0, dn_cond, hlt, hXD, hxi, e1, h24, hL, htt, w4, List.replicate]
def H_polys (O : Oracle) : Prop := ∀ (p : Int) [IsP p] (xs : List (Fp p)), xs.length < 2000000 → (∀ x ∈ xs, x.len ≤ 64) → ∃ cp : Option Nat,
  O F_impl_polys_h [.d (.sl .leaf (xs.map rowD))] [] = some (.sl 0 [] 0 xs.length cp, [], [.sl false (.arr 64 .leaf) (xs.map padD)])
end
theorem h_polys (hT : T F_impl_polys_h = some ir_impl_polys_h) (hpo : K_poly (den T A)) : H_polys (den T A) := by
  intro p ip xs hl hx
  obtain ⟨cp, e⟩ := l_polysH (O := den T A) hpo hl hx xs.length 0 (some 0) (Nat.zero_add _)
  have e00 : ((0 : Nat) : Int) = 0 := rfl
  rw [e00, List.take_zero, List.map_nil] at e
  have h2 : (xs.map rowD).length = xs.length := List.length_map ..
  refine ⟨cp, den_of hT rfl ?_⟩
  generalize xs.map padD = XD at *
  generalize xs.map rowD = RD at *
  simp -implicitDefEqProofs [ir_impl_polys_h, ir_impl_polys_h_B, h2, e, List.idxOf, List.findIdx, List.findIdx.go]
end Pe

namespace Pe
open Go Gq
section
variable {p : Int}
/-- What a list of polynomials spans over the numbers modulo p. -/
inductive Spn (L : List (Fp p)) : Fp p → Prop
  | zero : Spn L 0
  | step {a b : Fp p} (k : Zp p) (ha : a ∈ L) (hb : Spn L b) : Spn L (Pol.C k * a + b)
theorem Spn.mem {L : List (Fp p)} {a : Fp p} (h : a ∈ L) : Spn L a := by
  have := Spn.step (1 : Zp p) h .zero
  rwa [Pol.C_one, Gq.one_mul, Gq.add_zero] at this
theorem Spn.add {L : List (Fp p)} {a b : Fp p} (ha : Spn L a) (hb : Spn L b) : Spn L (a + b) := by
  induction ha with
  | zero => rw [Gq.zero_add]; exact hb
  | step k h1 h2 ih => rw [Gq.add_assoc]; exact .step k h1 ih
theorem Spn.smul {L : List (Fp p)} {a : Fp p} (k : Zp p) (ha : Spn L a) : Spn L (Pol.C k * a) := by
  induction ha with
  | zero => rw [Gq.mul_zero]; exact .zero
  | step c h1 h2 ih => rw [Gq.mul_add, ← Gq.mul_assoc, ← Pol.C_mul]; exact .step _ h1 ih
theorem Spn.neg [IsP p] {L : List (Fp p)} {a : Fp p} (ha : Spn L a) : Spn L (-a) := by
  have := ha.smul (-1)
  rwa [Pol.C_neg, Pol.C_one, Gq.neg_mul, Gq.one_mul] at this
theorem Spn.sub [IsP p] {L : List (Fp p)} {a b : Fp p} (ha : Spn L a) (hb : Spn L b) : Spn L (a - b) := by rw [Gq.sub_eq]; exact ha.add hb.neg
/-- A space holds what a list in it spans. -/
theorem Spn.inside {L : List (Fp p)} {S : Fp p → Prop} (h0 : S 0) (hs : ∀ (k : Zp p) a b, S a → S b → S (Pol.C k * a + b)) (h : ∀ a ∈ L, S a) {a : Fp p} (ha : Spn L a) : S a := by
  induction ha with
  | zero => exact h0
  | step k h1 _ ih => exact hs k _ _ (h _ h1) ih
theorem Spn.sup [IsP p] {L M : List (Fp p)} (h : ∀ a ∈ L, Spn M a) {a : Fp p} (ha : Spn L a) : Spn M a :=
  ha.inside .zero (fun k _ _ h1 h2 => (h1.smul k).add h2) h
theorem elim_add (a x y : Fp p) : elim a (x + y) = elim a x + elim a y := by
  unfold elim
  rw [Pol.c_add, Gq.neg_add_neg, Pol.C_add]
  exact ring_of [x, y, a, Pol.C (-(x.c (a.len - 1))), Pol.C (-(y.c (a.len - 1)))] rfl
theorem elim_mul (a x : Fp p) (k : Zp p) : elim a (Pol.C k * x) = Pol.C k * elim a x := by
  unfold elim
  rw [Pol.c_Cmul, show -(k * x.c (a.len - 1)) = k * -(x.c (a.len - 1)) from ring_of [k, x.c (a.len - 1)] rfl, Pol.C_mul]
  exact ring_of [Pol.C k, x, a, Pol.C (-(x.c (a.len - 1)))] rfl
theorem redS_add [IsP p] : ∀ (L : List (Fp p)) (x y : Fp p), redS L (x + y) = redS L x + redS L y
  | [], _, _ => rfl
  | b :: L, x, y => by
    show redS L (elim b (x + y)) = _
    rw [elim_add, redS_add L]; rfl
theorem redS_mul [IsP p] : ∀ (L : List (Fp p)) (k : Zp p) (x : Fp p), redS L (Pol.C k * x) = Pol.C k * redS L x
  | [], _, _ => rfl
  | b :: L, k, x => by
    show redS L (elim b (Pol.C k * x)) = _
    rw [elim_mul, redS_mul L]; rfl
theorem redS_0 [IsP p] (L : List (Fp p)) : redS L 0 = 0 := by
  have := redS_mul L 0 0
  rwa [Pol.C_zero, Gq.zero_mul, Gq.zero_mul] at this
theorem elim_keep {a x : Fp p} (h : x.c (a.len - 1) = 0) : elim a x = x := by
  unfold elim; rw [h, Gq.neg_zero, Pol.C_zero, Gq.zero_mul, Gq.add_zero]
theorem redS_id [IsP p] : ∀ {L : List (Fp p)} {x : Fp p}, (∀ b ∈ L, x.c (b.len - 1) = 0) → redS L x = x
  | [], _, _ => rfl
  | b :: L, x, h => by
    show redS L (elim b x) = x
    rw [elim_keep (h b (by simp)), redS_id fun c hc => h c (by simp [hc])]
theorem redS_spn [IsP p] : ∀ (L : List (Fp p)) (x : Fp p), Spn L (x - redS L x)
  | [], x => by
    show Spn [] (x - x)
    rw [Gq.sub_self]; exact .zero
  | b :: L, x => by
    show Spn (b :: L) (x - redS L (elim b x))
    have h1 : Spn (b :: L) (elim b x - redS L (elim b x)) := (redS_spn L (elim b x)).sup fun a ha => .mem (by simp [ha])
    have h2 := Spn.step (L := b :: L) (x.c (b.len - 1)) (show b ∈ b :: L by simp) h1
    have e : Pol.C (x.c (b.len - 1)) * b + (elim b x - redS L (elim b x)) = x - redS L (elim b x) := by
      generalize hr : redS L (elim b x) = r
      unfold elim
      rw [Pol.C_neg]
      exact ring_of [Pol.C (x.c (b.len - 1)), b, x, r] rfl
    rwa [e] at h2
theorem redS_mem [IsP p] {N : Nat} : ∀ {L : List (Fp p)} {x : Fp p}, Desc N L → x ∈ L → redS L x = 0
  | b :: L, x, h, hx => by
    obtain ⟨h1, h2⟩ := h.tail
    show redS L (elim b x) = 0
    rcases List.mem_cons.1 hx with rfl | hx
    · have hm := h.mon x (by simp)
      have : elim x x = 0 := by
        unfold elim
        rw [show x.c (x.len - 1) = 1 from hm.1, Pol.C_neg, Pol.C_one, Gq.neg_mul, Gq.one_mul, Gq.add_neg]
      rw [this, redS_0]
    · rw [elim_keep (c_ge (by have := h2 x hx; omega)), redS_mem h1 hx]
/-- What a reduced list spans is what it reduces to 0. -/
theorem redS_iff [IsP p] {N : Nat} {L : List (Fp p)} (h : Desc N L) (x : Fp p) : redS L x = 0 ↔ Spn L x := by
  constructor
  · intro h0
    have := redS_spn L x
    rwa [h0, show x - 0 = x from ring_of [x] rfl] at this
  · intro hs
    exact hs.inside (S := fun x => redS L x = 0) (redS_0 L) (fun k a b h1 h2 => by rw [redS_add, redS_mul, h1, h2, Gq.mul_zero, Gq.add_zero]) fun a ha => redS_mem h ha
def Rdc (L : List (Fp p)) : Prop := ∀ b ∈ L, ∀ c ∈ L, b ≠ c → b.c (c.len - 1) = 0
theorem Rdc.nil : Rdc ([] : List (Fp p)) := fun _ h => by cases h
theorem desc_len_inj [IsP p] {N : Nat} : ∀ {L : List (Fp p)}, Desc N L → ∀ {b c : Fp p}, b ∈ L → c ∈ L → b.len = c.len → b = c
  | a :: L, h, b, c, hb, hc, e => by
    obtain ⟨h1, h2⟩ := h.tail
    rcases List.mem_cons.1 hb with eb | hb <;> rcases List.mem_cons.1 hc with ec | hc
    · rw [eb, ec]
    · have := h2 c hc; rw [eb] at e; omega
    · have := h2 b hb; rw [ec] at e; omega
    · exact desc_len_inj h1 hb hc e
theorem putS_rdc [IsP p] {N : Nat} {L : List (Fp p)} {x : Fp p} (h : Desc N L) (hr : Rdc L) : Rdc (putS L x) := by
  by_cases h0 : redS L x = 0
  · rw [putS_zero h0]; exact hr
  · rw [putS_ne h0]
    have ha := mon_monic h0
    have hal := mon_len h0
    have hz : ∀ b ∈ L, (Gq.mon (redS L x)).c (b.len - 1) = 0 := fun b hb => by
      unfold Gq.mon
      rw [Pol.c_Cmul, redS_zero h b hb, Gq.mul_zero]
    have hne : ∀ b ∈ L, b.len ≠ (Gq.mon (redS L x)).len := fun b hb => by rw [hal]; exact redS_ne h h0 b hb
    generalize Gq.mon (redS L x) = a at *
    intro b hb c hc hbc
    rcases insS_mem hb with rfl | ⟨b', hb', rfl⟩ <;> rcases insS_mem hc with rfl | ⟨c', hc', rfl⟩
    · exact absurd rfl hbc
    · rw [(elim_mon (h.mon c' hc') (hne c' hc')).2]; exact hz c' hc'
    · exact elim_at ha b'
    · rw [(elim_mon (h.mon c' hc') (hne c' hc')).2, elim_c, hz c' hc', Gq.mul_zero, Gq.add_zero]
      exact hr b' hb' c' hc' fun e => hbc (by rw [e])
theorem spanS_rdc [IsP p] {N : Nat} : ∀ {xs L : List (Fp p)}, Desc N L → Rdc L → (∀ x ∈ xs, x.len ≤ N) → Rdc (spanS xs L)
  | [], _, _, h, _ => h
  | x :: xs, L, h, hr, hx => spanS_rdc (xs := xs) (putS_desc h (hx x (by simp))) (putS_rdc h hr) fun y hy => hx y (by simp [hy])
theorem insS_has {a : Fp p} {L : List (Fp p)} {b : Fp p} (h : b = a ∨ ∃ c ∈ L, b = elim a c) : b ∈ insS a L :=
  (insS_perm a L).symm.subset (by
    rcases h with rfl | ⟨c, hc, rfl⟩
    · simp
    · exact List.mem_append_left _ (List.mem_map_of_mem hc))
theorem putS_spn [IsP p] {L : List (Fp p)} {x y : Fp p} : (Spn L y → Spn (putS L x) y) ∧ Spn (putS L x) x := by
  have key : ∀ b ∈ L, Spn (putS L x) b := fun b hb => by
    by_cases h0 : redS L x = 0
    · rw [putS_zero h0]; exact .mem hb
    · rw [putS_ne h0]
      have h1 : Spn (insS (Gq.mon (redS L x)) L) (elim (Gq.mon (redS L x)) b) := .mem (insS_has (.inr ⟨b, hb, rfl⟩))
      have h2 := Spn.step (b.c ((Gq.mon (redS L x)).len - 1)) (insS_has (L := L) (.inl rfl : Gq.mon (redS L x) = Gq.mon (redS L x) ∨ _)) h1
      have e : Pol.C (b.c ((Gq.mon (redS L x)).len - 1)) * Gq.mon (redS L x) + elim (Gq.mon (redS L x)) b = b := by
        generalize Gq.mon (redS L x) = a
        unfold elim
        rw [Pol.C_neg]
        exact ring_of [Pol.C (b.c (a.len - 1)), a, b] rfl
      rwa [e] at h2
  refine ⟨fun h => h.sup key, ?_⟩
  have h1 : Spn (putS L x) (x - redS L x) := (redS_spn L x).sup key
  have h2 : Spn (putS L x) (redS L x) := by
    by_cases h0 : redS L x = 0
    · rw [h0]; exact .zero
    · have h3 : Spn (putS L x) (Gq.mon (redS L x)) := by rw [putS_ne h0]; exact .mem (insS_has (.inl rfl))
      have h4 := h3.smul (redS L x).ld
      rwa [← eq_mon h0] at h4
  have h3 := h1.add h2
  rwa [show x - redS L x + redS L x = x from ring_of [x, redS L x] rfl] at h3
theorem putS_in [IsP p] {L : List (Fp p)} {x : Fp p} {S : Fp p → Prop} (h0 : S 0) (hs : ∀ (k : Zp p) a b, S a → S b → S (Pol.C k * a + b)) (hL : ∀ a ∈ L, S a) (hx : S x) : ∀ a ∈ putS L x, S a := by
  have hsub : ∀ a b, S a → S b → S (a - b) := fun a b ha hb => by
    have := hs (-1) b a hb ha
    rwa [Pol.C_neg, Pol.C_one, show -1 * b + a = a - b from ring_of [a, b] rfl] at this
  have hm : ∀ (k : Zp p) a, S a → S (Pol.C k * a) := fun k a ha => by
    have := hs k a 0 ha h0
    rwa [Gq.add_zero] at this
  intro a ha
  by_cases hr : redS L x = 0
  · rw [putS_zero hr] at ha; exact hL a ha
  · rw [putS_ne hr] at ha
    have h1 : S (x - redS L x) := (redS_spn L x).inside h0 hs hL
    have h2 : S (redS L x) := by
      have := hsub x _ hx h1
      rwa [show x - (x - redS L x) = redS L x from ring_of [x, redS L x] rfl] at this
    have h3 : S (Gq.mon (redS L x)) := hm _ _ h2
    rcases insS_mem ha with rfl | ⟨b, hb, rfl⟩
    · exact h3
    · unfold elim
      rw [Gq.add_comm]
      exact hs _ _ _ h3 (hL b hb)
/-- The space of a list. -/
theorem spanS_in [IsP p] {S : Fp p → Prop} (h0 : S 0) (hs : ∀ (k : Zp p) a b, S a → S b → S (Pol.C k * a + b)) : ∀ {xs L : List (Fp p)}, (∀ a ∈ L, S a) → (∀ x ∈ xs, S x) → ∀ a ∈ spanS xs L, S a
  | [], _, hL, _ => hL
  | x :: xs, L, hL, hx => spanS_in h0 hs (xs := xs) (putS_in h0 hs hL (hx x (by simp))) fun y hy => hx y (by simp [hy])
theorem spanS_spn [IsP p] : ∀ {xs L : List (Fp p)}, (∀ y, Spn L y → Spn (spanS xs L) y) ∧ ∀ x ∈ xs, Spn (spanS xs L) x
  | [], L => ⟨fun _ h => h, fun _ h => by cases h⟩
  | x :: xs, L => by
    obtain ⟨h1, h2⟩ := spanS_spn (xs := xs) (L := putS L x)
    refine ⟨fun y hy => h1 y (putS_spn.1 hy), fun y hy => ?_⟩
    rcases List.mem_cons.1 hy with rfl | hy
    · exact h1 y (putS_spn (y := y)).2
    · exact h2 y hy
theorem redS_pivot [IsP p] {N : Nat} {L : List (Fp p)} (_h : Desc N L) {x : Fp p} (hx : x ≠ 0) (hs : redS L x = 0) : ∃ b ∈ L, b.len = x.len := by
  apply Classical.byContradiction
  intro hno
  have hne : ∀ b ∈ L, b.len ≠ x.len := fun b hb e => hno ⟨b, hb, e⟩
  have key : ∀ (L : List (Fp p)), (∀ b ∈ L, b.len ≠ x.len) → ∀ y : Fp p, y.len = x.len → y.c (x.len - 1) = x.c (x.len - 1) → (redS L y).c (x.len - 1) = x.c (x.len - 1) := by
    intro L
    induction L with
    | nil => intro _ y _ h; exact h
    | cons b L ih =>
      intro hb y hy hc
      have hbl := hb b (by simp)
      show (redS L (elim b y)).c _ = _
      have hxp := Pol.len_pos hx
      have e : (elim b y).len = x.len ∧ (elim b y).c (x.len - 1) = x.c (x.len - 1) := by
        rcases Nat.lt_or_ge y.len b.len with h1 | h1
        · rw [elim_keep (c_ge (by omega))]; exact ⟨hy, hc⟩
        · have hc2 : (elim b y).c (x.len - 1) = x.c (x.len - 1) := by
            rw [elim_c, c_ge (a := b) (by omega), Gq.mul_zero, Gq.add_zero, hc]
          refine ⟨?_, hc2⟩
          have h3 : (elim b y).len = (x.len - 1) + 1 := Pol.len_eq (Pol.lt_iff.2 (by
            rw [Nat.sub_add_cancel hxp, ← hy]; exact elim_le h1 (Nat.le_refl _))) (by rw [hc2]; exact Pol.ld_ne hx)
          omega
      exact ih (fun c hc => hb c (by simp [hc])) _ e.1 e.2
  have := key L hne x rfl rfl
  rw [hs] at this
  exact Pol.ld_ne hx this.symm
theorem reduced_mem [IsP p] {N M : Nat} {L K : List (Fp p)} (hL : Desc N L) (hK : Desc M K) (rL : Rdc L) (rK : Rdc K) (h1 : ∀ b ∈ L, redS K b = 0) (h2 : ∀ b ∈ K, redS L b = 0) : ∀ b ∈ L, b ∈ K := by
  intro b hb
  have hbm := hL.mon b hb
  obtain ⟨c, hc, hcl⟩ := redS_pivot hK hbm.2 (h1 b hb)
  have hcm := hK.mon c hc
  have hd : redS K (b - c) = 0 := by
    have e := redS_add K (b - c) c
    rw [show b - c + c = b from ring_of [b, c] rfl, h1 b hb, redS_mem hK hc, Gq.add_zero] at e
    exact e.symm
  have hz : ∀ d ∈ K, (b - c).c (d.len - 1) = 0 := fun d hdK => by
    rw [Pol.c_sub]
    by_cases hdc : c = d
    · rw [← hdc, show c.c (c.len - 1) = 1 from hcm.1, hcl, show b.c (b.len - 1) = 1 from hbm.1, Gq.sub_self]
    · obtain ⟨e, he, hel⟩ := redS_pivot hL (hK.mon d hdK).2 (h2 d hdK)
      have hbe : b ≠ e := fun h => hdc (desc_len_inj hK hc hdK (by rw [hcl, h, hel]))
      have z1 := rL b hb e he hbe
      rw [hel] at z1
      rw [z1, rK c hc d hdK hdc, Gq.sub_self]
  rw [redS_id hz] at hd
  rw [eq_of_sub hd]; exact hc
theorem reduced_one [IsP p] {N M : Nat} {L K : List (Fp p)} (hL : Desc N L) (hK : Desc M K) (rL : Rdc L) (rK : Rdc K) (h1 : ∀ b ∈ L, redS K b = 0) (h2 : ∀ b ∈ K, redS L b = 0) : L = K :=
  sorted_eq (fun x : Fp p => -(x.len : Int)) (hL.pw.imp fun h => by omega) (hK.pw.imp fun h => by omega) fun x =>
    ⟨reduced_mem hL hK rL rK h1 h2 x, reduced_mem hK hL rK rL h2 h1 x⟩
end
end Pe

namespace Pe
open Go Gq
section
variable {p : Int} {m : Fp p}
theorem frIt_lin [IsP p] (hm : m ≠ 0) (k : Zp p) : ∀ (j : Nat) {x y : Fp p}, x.len < m.len → y.len < m.len → frIt m j (Pol.C k * x + y) = Pol.C k * frIt m j x + frIt m j y
  | 0, _, _, _, _ => rfl
  | j + 1, x, y, hx, hy => by
    have e : pw (Pol.C k * x + y) p.toNat % m = Pol.C k * (pw x p.toNat % m) + pw y p.toNat % m := by
      rw [← Pol.mod_Cmul k _ hm, ← Pol.mod_add_small hm]
      refine (Pol.mod_eq_iff hm).2 ?_
      rw [Quo.mk_add, Quo.mk_mul, Quo.mk_pow, Quo.mk_add, Quo.mk_mul, Quo.mk_pow, Quo.mk_pow, frob_add, pw_mul]
      congr 2
      rw [← Quo.mk_pow, ← C_pw, frob_const]
    show frIt m j (pw (Pol.C k * x + y) p.toNat % m) = Pol.C k * frIt m j (pw x p.toNat % m) + frIt m j (pw y p.toNat % m)
    rw [e, frIt_lin hm k j (Pol.len_mod _ hm) (Pol.len_mod _ hm)]
theorem svI_lin [IsP p] (hm : m ≠ 0) (k : Zp p) {x y : Fp p} (hx : x.len < m.len) (hy : y.len < m.len) : ∀ (a : List (Fp p)) (i : Nat) (u v : Fp p), svI m (Pol.C k * x + y) i a (Pol.C k * u + v) = Pol.C k * svI m x i a u + svI m y i a v
  | [], _, _, _ => rfl
  | c :: a, i, u, v => by
    show svI m (Pol.C k * x + y) (i + 1) a (Pol.C k * u + v + c * frIt m (i % (m.len - 1)) (Pol.C k * x + y) % m) = Pol.C k * svI m x (i + 1) a (u + c * frIt m (i % (m.len - 1)) x % m) + svI m y (i + 1) a (v + c * frIt m (i % (m.len - 1)) y % m)
    rw [← svI_lin hm k hx hy a]
    congr 1
    rw [frIt_lin hm k _ hx hy]
    have e : (c * (Pol.C k * frIt m (i % (m.len - 1)) x + frIt m (i % (m.len - 1)) y)) % m = Pol.C k * (c * frIt m (i % (m.len - 1)) x % m) + c * frIt m (i % (m.len - 1)) y % m := by
      rw [← Pol.mod_Cmul k _ hm, ← Pol.mod_add_small hm]
      congr 1
      exact ring_of [c, Pol.C k, frIt m (i % (m.len - 1)) x, frIt m (i % (m.len - 1)) y] rfl
    rw [e]
    exact ring_of [Pol.C k, u, v, c * frIt m (i % (m.len - 1)) x % m, c * frIt m (i % (m.len - 1)) y % m] rfl
/-- The value of a skew polynomial. -/
noncomputable def sev [IsP p] (m : Fp p) (S : List (Fp p)) (x : Fp p) : Fp p := svI m x 0 S 0
theorem sev_lin [IsP p] (hm : m ≠ 0) (S : List (Fp p)) (k : Zp p) {x y : Fp p} (hx : x.len < m.len) (hy : y.len < m.len) : sev m S (Pol.C k * x + y) = Pol.C k * sev m S x + sev m S y := by
  have := svI_lin hm k hx hy S 0 0 0
  rwa [show Pol.C k * (0 : Fp p) + 0 = 0 from ring_of [Pol.C k] rfl] at this
theorem sev_len [IsP p] (hm : m ≠ 0) (S : List (Fp p)) (x : Fp p) : (sev m S x).len < m.len := svI_len hm 0 S 0 (by rw [Pol.len_zero]; exact Pol.len_pos hm)
theorem lin_len {n : Nat} (k : Zp p) {x y : Fp p} (hx : x.len < n) (hy : y.len < n) : (Pol.C k * x + y).len < n := by
  have h1 : (Pol.C k * x).lt (n - 1) := Pol.lt_Cmul k (Pol.lt_iff.2 (by omega))
  have h2 : y.lt (n - 1) := Pol.lt_iff.2 (by omega)
  have := Pol.len_le (Pol.lt_add h1 h2)
  omega
theorem sev_zero [IsP p] (hm : m ≠ 0) (S : List (Fp p)) : sev m S 0 = 0 := by
  have h0 : (0 : Fp p).len < m.len := by rw [Pol.len_zero]; exact Pol.len_pos hm
  have := sev_lin hm S 0 (x := 0) (y := 0) h0 h0
  rw [Pol.C_zero, Gq.zero_mul, Gq.zero_add, Gq.zero_mul, Gq.zero_add] at this
  have h2 := congrArg (fun z => z - sev m S 0) this
  apply Classical.byContradiction
  intro hne
  have e : sev m S (0 * 0 + 0) = sev m S 0 := by rw [Gq.zero_mul, Gq.zero_add]
  have h3 := sev_lin hm S (-1) (x := 0) (y := 0) h0 h0
  rw [Gq.mul_zero, Gq.zero_add, Pol.C_neg, Pol.C_one] at h3
  exact hne (h3.trans (ring_of [sev m S 0] rfl))
abbrev KPair (p : Int) := Fp p × Fp p
noncomputable def kst [IsP p] (v s : Fp p) (yx : KPair p) : KPair p := (yx.1 + Pol.C (-(yx.1.c (v.len - 1)) * Fd.inv v.ld) * v, yx.2 + Pol.C (-(yx.1.c (v.len - 1)) * Fd.inv v.ld) * s)
noncomputable def kred [IsP p] : List (KPair p) → KPair p → KPair p
  | [], yx => yx
  | (v, s) :: r, yx => kred r (kst v s yx)
/-- What is known of values and sources. -/
structure KVals [IsP p] (m : Fp p) (S : List (Fp p)) (ps : List (KPair p)) : Prop where
  ok : ∀ q ∈ ps, q.1 ≠ 0 ∧ q.1.len < m.len ∧ q.2.len < m.len ∧ sev m S q.2 = q.1
  tri : ps.Pairwise fun a b => b.1.c (a.1.len - 1) = 0
theorem KVals.tail [IsP p] {S : List (Fp p)} {q : KPair p} {ps : List (KPair p)} (h : KVals m S (q :: ps)) : KVals m S ps ∧ ∀ b ∈ ps, b.1.c (q.1.len - 1) = 0 :=
  ⟨⟨fun b hb => h.ok b (by simp [hb]), h.tri.tail⟩, (List.pairwise_cons.1 h.tri).1⟩
theorem kst_at [IsP p] {v s : Fp p} (hv : v ≠ 0) (yx : KPair p) : (kst v s yx).1.c (v.len - 1) = 0 := by
  show (yx.1 + Pol.C (-(yx.1.c (v.len - 1)) * Fd.inv v.ld) * v).c (v.len - 1) = 0
  rw [Pol.c_add, Pol.c_Cmul]
  have h := Fd.mul_inv v.ld (Pol.ld_ne hv)
  rw [show v.c (v.len - 1) = v.ld from rfl, show -(yx.1.c (v.len - 1)) * Fd.inv v.ld * v.ld = -(yx.1.c (v.len - 1)) * (v.ld * Fd.inv v.ld) from ring_of [yx.1.c (v.len - 1), Fd.inv v.ld, v.ld] rfl, h, Gq.mul_one, Gq.add_neg]
theorem kred_keep [IsP p] {n : Nat} : ∀ {ps : List (KPair p)} {yx : KPair p}, (∀ b ∈ ps, b.1.c n = 0) → (kred ps yx).1.c n = yx.1.c n
  | [], _, _ => rfl
  | (v, s) :: r, yx, h => by
    show (kred r (kst v s yx)).1.c n = _
    rw [kred_keep fun b hb => h b (by simp [hb])]
    show (yx.1 + Pol.C (-(yx.1.c (v.len - 1)) * Fd.inv v.ld) * v).c n = _
    rw [Pol.c_add, Pol.c_Cmul, h (v, s) (by simp), Gq.mul_zero, Gq.add_zero]
theorem kred_zero [IsP p] {S : List (Fp p)} : ∀ {ps : List (KPair p)} {yx : KPair p}, KVals m S ps → ∀ b ∈ ps, (kred ps yx).1.c (b.1.len - 1) = 0
  | (v, s) :: r, yx, h, b, hb => by
    obtain ⟨h1, h2⟩ := h.tail
    show (kred r (kst v s yx)).1.c _ = 0
    rcases List.mem_cons.1 hb with e | hb
    · subst e
      rw [kred_keep h2]
      exact kst_at (h.ok (v, s) (by simp)).1 yx
    · exact kred_zero h1 b hb
theorem kred_ok [IsP p] {S : List (Fp p)} (hm : m ≠ 0) : ∀ {ps : List (KPair p)} {yx : KPair p}, KVals m S ps → yx.1.len < m.len → yx.2.len < m.len → sev m S yx.2 = yx.1 →
    (kred ps yx).1.len < m.len ∧ (kred ps yx).2.len < m.len ∧ sev m S (kred ps yx).2 = (kred ps yx).1 ∧ Spn (ps.map Prod.snd) ((kred ps yx).2 - yx.2)
  | [], yx, _, h1, h2, h3 => ⟨h1, h2, h3, by
      show Spn [] (yx.2 - yx.2)
      rw [Gq.sub_self]; exact .zero⟩
  | (v, s) :: r, yx, h, h1, h2, h3 => by
    obtain ⟨t1, t2⟩ := h.tail
    obtain ⟨o1, o2, o3, o4⟩ := h.ok (v, s) (by simp)
    generalize hk : -(yx.1.c (v.len - 1)) * Fd.inv v.ld = k
    have e1 : kst v s yx = (Pol.C k * v + yx.1, Pol.C k * s + yx.2) := by
      unfold kst
      rw [hk, Gq.add_comm yx.1, Gq.add_comm yx.2]
    obtain ⟨g1, g2, g3, g4⟩ := kred_ok hm (yx := kst v s yx) t1 (by rw [e1]; exact lin_len k o2 h1) (by rw [e1]; exact lin_len k o3 h2) (by
      rw [e1]
      show sev m S (Pol.C k * s + yx.2) = Pol.C k * v + yx.1
      rw [sev_lin hm S k o3 h2, o4, h3])
    refine ⟨g1, g2, g3, ?_⟩
    show Spn (s :: r.map Prod.snd) ((kred r (kst v s yx)).2 - yx.2)
    have g5 : Spn (s :: r.map Prod.snd) ((kred r (kst v s yx)).2 - (kst v s yx).2) := g4.sup fun a ha => .mem (by simp [ha])
    have g6 := Spn.step (L := s :: r.map Prod.snd) k (show s ∈ s :: r.map Prod.snd by simp) g5
    have e2 : Pol.C k * s + ((kred r (kst v s yx)).2 - (kst v s yx).2) = (kred r (kst v s yx)).2 - yx.2 := by
      rw [e1]
      show Pol.C k * s + ((kred r (Pol.C k * v + yx.1, Pol.C k * s + yx.2)).2 - (Pol.C k * s + yx.2)) = _
      generalize (kred r (Pol.C k * v + yx.1, Pol.C k * s + yx.2)).2 = z
      exact ring_of [Pol.C k, s, z, yx.2] rfl
    rwa [e2] at g6
theorem KVals.snoc [IsP p] {S : List (Fp p)} {ps : List (KPair p)} {q : KPair p} (h : KVals m S ps) (h1 : q.1 ≠ 0) (h2 : q.1.len < m.len) (h3 : q.2.len < m.len) (h4 : sev m S q.2 = q.1) (hz : ∀ b ∈ ps, q.1.c (b.1.len - 1) = 0) : KVals m S (ps ++ [q]) where
  ok := fun b hb => by
    rcases List.mem_append.1 hb with hb | hb
    · exact h.ok b hb
    · obtain rfl := List.mem_singleton.1 hb
      exact ⟨h1, h2, h3, h4⟩
  tri := List.pairwise_append.2 ⟨h.tri, List.pairwise_singleton _ _, fun a ha b hb => by
    obtain rfl := List.mem_singleton.1 hb
    exact hz a ha⟩
theorem spn_cons {s : Fp p} {L : List (Fp p)} {z : Fp p} (h : Spn (s :: L) z) : ∃ (k : Zp p) (y : Fp p), Spn L y ∧ z = Pol.C k * s + y := by
  induction h with
  | zero => exact ⟨0, 0, .zero, by rw [Pol.C_zero, Gq.zero_mul, Gq.zero_add]⟩
  | @step a b c ha _ ih =>
    obtain ⟨k, y, hy, rfl⟩ := ih
    rcases List.mem_cons.1 ha with rfl | ha
    · exact ⟨c + k, y, hy, by rw [Pol.C_add]; exact ring_of [Pol.C c, Pol.C k, a, y] rfl⟩
    · exact ⟨k, Pol.C c * a + y, .step c ha hy, ring_of [Pol.C c, Pol.C k, a, s, y] rfl⟩
theorem spn_app {L K : List (Fp p)} {z : Fp p} (h : Spn (L ++ K) z) : ∃ a b, Spn L a ∧ Spn K b ∧ z = a + b := by
  induction h with
  | zero => exact ⟨0, 0, .zero, .zero, (Gq.add_zero _).symm⟩
  | @step a b c ha _ ih =>
    obtain ⟨u, v, hu, hv, rfl⟩ := ih
    rcases List.mem_append.1 ha with ha | ha
    · exact ⟨Pol.C c * a + u, v, .step c ha hu, hv, (Gq.add_assoc _ _ _).symm⟩
    · exact ⟨u, Pol.C c * a + v, hu, .step c ha hv, ring_of [Pol.C c, a, u, v] rfl⟩
theorem spn_sev [IsP p] (hm : m ≠ 0) {S : List (Fp p)} {ps : List (KPair p)} (h : KVals m S ps) {z : Fp p} (hz : Spn (ps.map Prod.snd) z) : z.len < m.len ∧ Spn (ps.map Prod.fst) (sev m S z) := by
  have h0 := Pol.len_pos hm
  refine hz.inside (S := fun z => z.len < m.len ∧ Spn (ps.map Prod.fst) (sev m S z)) ⟨by rw [Pol.len_zero]; exact h0, by rw [sev_zero hm]; exact .zero⟩ (fun k a b h1 h2 => ⟨lin_len k h1.1 h2.1, ?_⟩) fun a ha => ?_
  · rw [sev_lin hm S k h1.1 h2.1]
    exact (h1.2.smul k).add h2.2
  · obtain ⟨q, hq, rfl⟩ := List.mem_map.1 ha
    obtain ⟨_, _, o3, o4⟩ := h.ok q hq
    exact ⟨o3, by rw [o4]; exact .mem (List.mem_map_of_mem hq)⟩
/-- Values in steps are independent. -/
theorem kvals_indep [IsP p] (hm : m ≠ 0) {S : List (Fp p)} : ∀ {ps : List (KPair p)}, KVals m S ps → ∀ {z : Fp p}, Spn (ps.map Prod.snd) z → sev m S z = 0 → z = 0
  | [], _, z, hz, _ => by
    have : Spn [] z := hz
    exact this.inside (S := fun z => z = 0) rfl (fun k a b h1 h2 => by rw [h1, h2, Gq.mul_zero, Gq.add_zero]) fun _ h => by cases h
  | (v, s) :: r, h, z, hz, h0 => by
    obtain ⟨t1, t2⟩ := h.tail
    obtain ⟨o1, o2, o3, o4⟩ := h.ok (v, s) (by simp)
    obtain ⟨k, y, hy, rfl⟩ := spn_cons (L := r.map Prod.snd) hz
    obtain ⟨hyl, hyv⟩ := spn_sev hm t1 hy
    rw [sev_lin hm S k o3 hyl, o4] at h0
    have hc : (sev m S y).c (v.len - 1) = 0 := hyv.inside (S := fun z => z.c (v.len - 1) = 0) rfl (fun k a b h1 h2 => by rw [Pol.c_add, Pol.c_Cmul, h1, h2, Gq.mul_zero, Gq.add_zero]) fun a ha => by
      obtain ⟨q, hq, rfl⟩ := List.mem_map.1 ha
      exact t2 q hq
    have hk : k = 0 := by
      have := congrArg (fun f => Pol.c f (v.len - 1)) h0
      simp only [Pol.c_add, Pol.c_Cmul, hc, Gq.add_zero, Pol.c_zero] at this
      exact (Fd.zero_or this).resolve_right (Pol.ld_ne o1)
    rw [hk, Pol.C_zero, Gq.zero_mul, Gq.zero_add] at h0 ⊢
    exact kvals_indep hm t1 hy h0
structure KInv [IsP p] (m : Fp p) (S : List (Fp p)) (i : Nat) (ps : List (KPair p)) (L : List (Fp p)) : Prop where
  vals : KVals m S ps
  desc : Desc 11 L
  rdc : Rdc L
  ker : ∀ b ∈ L, b.len < m.len ∧ sev m S b = 0
  gen : ∀ x : Fp p, x.len ≤ i → Spn (L ++ ps.map Prod.snd) x
theorem KInv.init [IsP p] (S : List (Fp p)) : KInv m S 0 [] [] where
  vals := ⟨(fun _ h => by cases h), List.Pairwise.nil⟩
  desc := Desc.nil 11
  rdc := Rdc.nil
  ker := fun _ h => by cases h
  gen := fun x hx => by
    obtain rfl : x = 0 := Pol.len_zero_iff.1 (by omega)
    exact .zero
noncomputable def tpow [IsP p] (i : Nat) : Fp p := Pol.mo 1 i
theorem tpow_len [IsP p] (i : Nat) : (tpow i : Fp p).len = i + 1 := Pol.len_eq (fun j hj => if_neg (by omega)) (by
  show (if i = i then (1 : Zp p) else 0) ≠ 0
  rw [if_pos rfl]; exact Fd.one_ne)
/-- The pair of a power of T, reduced. -/
noncomputable def kpr [IsP p] (m : Fp p) (S : List (Fp p)) (ps : List (KPair p)) (i : Nat) : KPair p := kred ps (sev m S (tpow i), tpow i)
open Classical in
noncomputable def kStep [IsP p] (m : Fp p) (S : List (Fp p)) (i : Nat) (st : List (KPair p) × List (Fp p)) : List (KPair p) × List (Fp p) :=
  if (kpr m S st.1 i).1 = 0 then (st.1, putS st.2 (kpr m S st.1 i).2) else (st.1 ++ [kpr m S st.1 i], st.2)
theorem KInv.pair [IsP p] (hm : m ≠ 0) {S : List (Fp p)} {i : Nat} {ps : List (KPair p)} {L : List (Fp p)} (h : KInv m S i ps L) (hi : i + 1 < m.len) :
    (kpr m S ps i).1.len < m.len ∧ (kpr m S ps i).2.len < m.len ∧ sev m S (kpr m S ps i).2 = (kpr m S ps i).1 ∧ Spn (ps.map Prod.snd) ((kpr m S ps i).2 - tpow i) :=
  kred_ok hm (yx := (sev m S (tpow i), tpow i)) h.vals (sev_len hm S _) (by rw [tpow_len]; exact hi) rfl
theorem KInv.step [IsP p] (hm : m ≠ 0) (h12 : m.len ≤ 12) {S : List (Fp p)} {i : Nat} {ps : List (KPair p)} {L : List (Fp p)} (h : KInv m S i ps L) (hi : i + 1 < m.len) :
    KInv m S (i + 1) (kStep m S i (ps, L)).1 (kStep m S i (ps, L)).2 := by
  obtain ⟨h1, h2, h3, h4⟩ := h.pair hm hi
  have h0 := Pol.len_pos hm
  have gen' : ∀ K : List (Fp p), (∀ y, Spn (L ++ ps.map Prod.snd) y → Spn K y) → Spn K (kpr m S ps i).2 → ∀ x : Fp p, x.len ≤ i + 1 → Spn K x := fun K hK hk x hx => by
    have ht : Spn K (tpow i) := by
      have := hk.sub (hK _ (h4.sup fun a ha => .mem (List.mem_append_right _ ha)))
      rwa [show (kpr m S ps i).2 - ((kpr m S ps i).2 - tpow i) = tpow i from ring_of [(kpr m S ps i).2, tpow i] rfl] at this
    have hx2 : Spn K (x - Pol.C (x.c i) * tpow i) := hK _ (h.gen _ (Pol.len_le fun j hj => by
      rw [Pol.c_sub, Pol.c_Cmul]
      show x.c j - x.c i * (if j = i then 1 else 0) = 0
      by_cases hji : j = i
      · rw [if_pos hji, Gq.mul_one, hji, Gq.sub_self]
      · rw [if_neg hji, Gq.mul_zero, x.lt_len j (by omega), Gq.sub_self]))
    have := (ht.smul (x.c i)).add hx2
    rwa [show Pol.C (x.c i) * tpow i + (x - Pol.C (x.c i) * tpow i) = x from ring_of [Pol.C (x.c i), tpow i, x] rfl] at this
  unfold kStep
  by_cases hy : (kpr m S ps i).1 = 0
  · rw [if_pos hy]
    refine ⟨h.vals, putS_desc h.desc (show (kpr m S ps i).2.len ≤ 11 by omega), putS_rdc h.desc h.rdc, ?_, ?_⟩
    · exact putS_in (S := fun b => b.len < m.len ∧ sev m S b = 0) ⟨by rw [Pol.len_zero]; exact h0, sev_zero hm S⟩ (fun k a b ha hb => ⟨lin_len k ha.1 hb.1, by rw [sev_lin hm S k ha.1 hb.1, ha.2, hb.2, Gq.mul_zero, Gq.add_zero]⟩) h.ker ⟨h2, by rw [h3, hy]⟩
    · refine gen' _ (fun y hy => ?_) ?_
      · refine hy.sup fun a ha => ?_
        rcases List.mem_append.1 ha with ha | ha
        · exact ((putS_spn (x := (kpr m S ps i).2)).1 (.mem ha)).sup fun b hb => .mem (List.mem_append_left _ hb)
        · exact .mem (List.mem_append_right _ ha)
      · exact (putS_spn (y := 0)).2.sup fun b hb => .mem (List.mem_append_left _ hb)
  · rw [if_neg hy]
    refine ⟨h.vals.snoc hy h1 h2 h3 fun b hb => kred_zero h.vals b hb, h.desc, h.rdc, h.ker, ?_⟩
    show ∀ x : Fp p, x.len ≤ i + 1 → Spn (L ++ (ps ++ [kpr m S ps i]).map Prod.snd) x
    rw [List.map_append]
    refine gen' _ (fun y hy => hy.sup fun a ha => ?_) (.mem (by simp))
    rcases List.mem_append.1 ha with ha | ha
    · exact .mem (List.mem_append_left _ ha)
    · exact .mem (List.mem_append_right _ (List.mem_append_left _ ha))
noncomputable def kLoop [IsP p] (m : Fp p) (S : List (Fp p)) : Nat → List (KPair p) × List (Fp p)
  | 0 => ([], [])
  | i + 1 => kStep m S i (kLoop m S i)
theorem kLoop_inv [IsP p] (hm : m ≠ 0) (h12 : m.len ≤ 12) (S : List (Fp p)) : ∀ i, i < m.len → KInv m S i (kLoop m S i).1 (kLoop m S i).2
  | 0, _ => KInv.init S
  | i + 1, hi => (kLoop_inv hm h12 S i (by omega)).step hm h12 hi
/-- The kernel's reduced list. -/
noncomputable def kerS [IsP p] (m : Fp p) (S : List (Fp p)) : List (Fp p) := (kLoop m S (m.len - 1)).2
theorem ker_all [IsP p] (hm : m ≠ 0) (h12 : m.len ≤ 12) {S : List (Fp p)} {x : Fp p} (hx : x.len < m.len) (h0 : sev m S x = 0) : Spn (kerS m S) x := by
  have inv := kLoop_inv hm h12 S (m.len - 1) (by omega)
  obtain ⟨a, b, ha, hb, rfl⟩ := spn_app (inv.gen x (by omega))
  obtain ⟨hbl, -⟩ := spn_sev hm inv.vals hb
  have hk : a.len < m.len ∧ sev m S a = 0 := ha.inside (S := fun b => b.len < m.len ∧ sev m S b = 0) ⟨by rw [Pol.len_zero]; omega, sev_zero hm S⟩ (fun k a b ha hb => ⟨lin_len k ha.1 hb.1, by rw [sev_lin hm S k ha.1 hb.1, ha.2, hb.2, Gq.mul_zero, Gq.add_zero]⟩) inv.ker
  have e : sev m S b = 0 := by
    have := sev_lin hm S 1 hk.1 hbl
    rw [Pol.C_one, Gq.one_mul, h0, hk.2, Gq.mul_zero, Gq.zero_add] at this
    exact this.symm
  rw [kvals_indep hm inv.vals hb e, Gq.add_zero]
  exact ha
/-- Whoever lists all zeros and reduces the list comes to the same list. -/
theorem ker_span [IsP p] (hm : m ≠ 0) (h12 : m.len ≤ 12) {S xs : List (Fp p)} (h1 : ∀ x ∈ xs, x.len < m.len ∧ sev m S x = 0) (h2 : ∀ x : Fp p, x.len < m.len → sev m S x = 0 → x ∈ xs) : spanS xs [] = kerS m S := by
  have inv := kLoop_inv hm h12 S (m.len - 1) (by have := Pol.len_pos hm; omega)
  have d1 : Desc 11 (spanS xs []) := spanS_desc (Desc.nil 11) fun x hx => by have := (h1 x hx).1; omega
  have r1 : Rdc (spanS xs []) := spanS_rdc (Desc.nil 11) Rdc.nil fun x hx => by have := (h1 x hx).1; omega
  have h0 := Pol.len_pos hm
  refine reduced_one d1 inv.desc r1 inv.rdc (fun b hb => ?_) fun b hb => ?_
  · obtain ⟨k1, k2⟩ := spanS_in (S := fun b => b.len < m.len ∧ sev m S b = 0) ⟨by rw [Pol.len_zero]; exact h0, sev_zero hm S⟩ (fun k a b ha hb => ⟨lin_len k ha.1 hb.1, by rw [sev_lin hm S k ha.1 hb.1, ha.2, hb.2, Gq.mul_zero, Gq.add_zero]⟩) (fun _ h => by cases h) h1 b hb
    exact (redS_iff inv.desc b).2 (ker_all hm h12 k1 k2)
  · obtain ⟨k1, k2⟩ := inv.ker b hb
    exact (redS_iff d1 b).2 (spanS_spn.2 b (h2 b k1 k2))
end
end Pe

namespace Pe
open Go Gq
variable {T : Nat → Option Fn} {A : Oracle}
section
variable {p : Int} [IsP p]
/-- The list of the reference: at first its own, later handed on. -/
def OutL (vo : V) (b : Blk) (L : List (Fp p)) : Prop := (vo = .sl 4 [] 0 0 (some 0) ∧ b = .sl false (.arr 64 .leaf) [] ∧ L = []) ∨ (vo = .d (.sl (.arr 64 .leaf) (L.map padD)) ∧ b = .hole)
theorem kst_int {v : Fp p} (hv : v ≠ 0) (y : Fp p) : zp p (-rep (y.c (v.len - 1)) * inv p (rep (v.c (v.len - 1)))) = -(y.c (v.len - 1)) * Fd.inv v.ld := by
  rw [zp_mul, zp_neg, zp_rep, show v.c (v.len - 1) = v.ld from rfl, finv_rep _ (Pol.ld_ne hv)]
theorem l_sk0 {O : Oracle} (hdg : K_sDeg O) (hinv : K_sInverse O) (had : K_sAdd O) {m : Fp p} {S : List (Fp p)} (hml : m.len ≤ 12) {ps : List (KPair p)} (hv : KVals m S ps) (hn : ps.length ≤ 12) {vo : V} {b4 : Blk} {L : List (Fp p)} (hO : OutL vo b4 L) {Fz : List D} {i : Int} {cv cs : Option Nat} : ∀ (r k : Nat) (yx : KPair p), k + r = ps.length → yx.1.len < m.len → yx.2.len < m.len →
    dn O 0 (.loop ir_spec_l03Kernel_L0) ⟨[(0, (.d (.int .i64 p))), (4, .ptr 0 []), (5, .ptr 1 []), (7, .sl 2 [] 0 ps.length cv), (8, .sl 3 [] 0 ps.length cs), (9, vo), (10, (.d (.int .i64 i))), (11, .ptr 5 []), (12, .ptr 6 []), (13, (.d (.int .i64 k)))], [.box false (D.arr 64 .leaf (ints .u8 (pad (row m)))), .box false (.arr 8 (.arr 64 .leaf) Fz), .sl false (.arr 64 .leaf) ((ps.map Prod.fst).map padD), .sl false (.arr 64 .leaf) ((ps.map Prod.snd).map padD), b4, .box false (D.arr 64 .leaf (ints .u8 (pad (row yx.2)))), .box false (D.arr 64 .leaf (ints .u8 (pad (row yx.1)))), .hole, .hole, .hole, .hole]⟩ =
      some (.exit 2, ⟨[(0, (.d (.int .i64 p))), (4, .ptr 0 []), (5, .ptr 1 []), (7, .sl 2 [] 0 ps.length cv), (8, .sl 3 [] 0 ps.length cs), (9, vo), (10, (.d (.int .i64 i))), (11, .ptr 5 []), (12, .ptr 6 []), (13, (.d (.int .i64 ps.length))), (36, (.d (.bool false)))], [.box false (D.arr 64 .leaf (ints .u8 (pad (row m)))), .box false (.arr 8 (.arr 64 .leaf) Fz), .sl false (.arr 64 .leaf) ((ps.map Prod.fst).map padD), .sl false (.arr 64 .leaf) ((ps.map Prod.snd).map padD), b4, .box false (D.arr 64 .leaf (ints .u8 (pad (row (kred (ps.drop k) yx).2)))), .box false (D.arr 64 .leaf (ints .u8 (pad (row (kred (ps.drop k) yx).1)))), .hole, .hole, .hole, .hole]⟩)
  | 0, k, yx, hk, h1, h2 => by
    obtain rfl : k = ps.length := by omega
    rw [List.drop_length, kred]
    refine dn_stop ?_
    generalize (ps.map Prod.fst).map padD = VD at *
    generalize (ps.map Prod.snd).map padD = SD at *
    generalize L.map padD = LD at *
    rcases hO with ⟨rfl, rfl, -⟩ | ⟨rfl, rfl⟩ <;> simp -implicitDefEqProofs [ir_spec_l03Kernel_L0, dn_cond]
  | r + 1, k, yx, hk, h1, h2 => by
    have hlt : k < ps.length := by omega
    obtain ⟨o1, o2, o3, o4⟩ := hv.ok _ (List.getElem_mem hlt)
    have e1 := hdg p ps[k].1 (by omega)
    have hvp := Pol.len_pos o1
    rw [show (ps[k].1.len : Int) - 1 = ((ps[k].1.len - 1 : Nat) : Int) by omega] at e1
    have hr := rep_in (ps[k].1.c (ps[k].1.len - 1))
    have hrp : 0 < rep (ps[k].1.c (ps[k].1.len - 1)) := by
      have : rep (ps[k].1.c (ps[k].1.len - 1)) ≠ 0 := fun h => Pol.ld_ne o1 (rep_eq_zero.1 h)
      omega
    have e2 := hinv p (rep (ps[k].1.c (ps[k].1.len - 1))) hrp hr.2
    have hy := rep_in (yx.1.c (ps[k].1.len - 1))
    have hii : 0 ≤ inv p (rep (ps[k].1.c (ps[k].1.len - 1))) ∧ inv p (rep (ps[k].1.c (ps[k].1.len - 1))) < p := ipow_in (p := p) (by omega) _
    have h7 := IsP.le (p := p)
    have hb : -100 ≤ -rep (yx.1.c (ps[k].1.len - 1)) * inv p (rep (ps[k].1.c (ps[k].1.len - 1))) ∧ -rep (yx.1.c (ps[k].1.len - 1)) * inv p (rep (ps[k].1.c (ps[k].1.len - 1))) ≤ 100 := by
      have u1 : 0 ≤ rep (yx.1.c (ps[k].1.len - 1)) * inv p (rep (ps[k].1.c (ps[k].1.len - 1))) := Int.mul_nonneg hy.1 hii.1
      have u2 : rep (yx.1.c (ps[k].1.len - 1)) * inv p (rep (ps[k].1.c (ps[k].1.len - 1))) ≤ 7 * 7 := Int.mul_le_mul (by omega) (by omega) hii.1 (by omega)
      rw [Int.neg_mul]; omega
    have e3 := had p _ yx.1 ps[k].1 (by omega : -1000000 ≤ -rep (yx.1.c (ps[k].1.len - 1)) * inv p (rep (ps[k].1.c (ps[k].1.len - 1)))) (by omega) (by omega) (by omega)
    have e4 := had p _ yx.2 ps[k].2 (by omega : -1000000 ≤ -rep (yx.1.c (ps[k].1.len - 1)) * inv p (rep (ps[k].1.c (ps[k].1.len - 1)))) (by omega) (by omega) (by omega)
    rw [kst_int o1] at e3 e4
    have hlen : (kst ps[k].1 ps[k].2 yx).1.len < m.len ∧ (kst ps[k].1 ps[k].2 yx).2.len < m.len := by
      unfold kst
      constructor
      · show (yx.1 + _).len < _
        rw [Gq.add_comm]; exact lin_len _ o2 h1
      · show (yx.2 + _).len < _
        rw [Gq.add_comm]; exact lin_len _ o3 h2
    have ih := l_sk0 hdg hinv had hml hv hn hO (Fz := Fz) (i := i) (cv := cv) (cs := cs) r (k + 1) (kst ps[k].1 ps[k].2 yx) (by omega) hlen.1 hlen.2
    have w4 : IntKind.i64.wrap ((k : Int) + 1) = ((k + 1 : Nat) : Int) := (w64 (x := (k : Int) + 1) (by omega)).trans (by omega)
    have hvl : ((ps.map Prod.fst).map padD).length = ps.length := by simp
    have hsl : ((ps.map Prod.snd).map padD).length = ps.length := by simp
    have hvg : ∀ h : k < ((ps.map Prod.fst).map padD).length, ((ps.map Prod.fst).map padD)[k]'h = (D.arr 64 .leaf (ints .u8 (pad (row ps[k].1)))) := fun h => by simp
    have hsg : ∀ h : k < ((ps.map Prod.snd).map padD).length, ((ps.map Prod.snd).map padD)[k]'h = (D.arr 64 .leaf (ints .u8 (pad (row ps[k].2)))) := fun h => by simp
    have hya := pad_row_at (a := yx.1) (by omega) (n := ps[k].1.len - 1)
    have hva := pad_row_at (a := ps[k].1) (by omega) (n := ps[k].1.len - 1)
    have ht64 : ps[k].1.len - 1 < 64 := by omega
    have hpy : (pad (row yx.1)).length = 64 := pad_length _
    have hpv : (pad (row ps[k].1)).length = 64 := pad_length _
    rw [show ps.drop k = ps[k] :: ps.drop (k + 1) from List.drop_eq_getElem_cons hlt]
    show _ = some ((_ : Out), (⟨_, [_, _, _, _, _, .box false (D.arr 64 .leaf (ints .u8 (pad (row (kred (ps.drop (k + 1)) (kst ps[k].1 ps[k].2 yx)).2)))), .box false (D.arr 64 .leaf (ints .u8 (pad (row (kred (ps.drop (k + 1)) (kst ps[k].1 ps[k].2 yx)).1)))), _, _, _, _]⟩ : St))
    refine dn_round ?_ ih
    by_cases hz : rep (yx.1.c (ps[k].1.len - 1)) = 0
    · have hk0 : kst ps[k].1 ps[k].2 yx = yx := by
        unfold kst
        rw [rep_eq_zero.1 hz, Gq.neg_zero, Gq.zero_mul, Pol.C_zero, Gq.zero_mul, Gq.zero_mul, Gq.add_zero, Gq.add_zero]
      rw [hk0]
      clear e3 e4 hb ih
      rw [hz] at hya
      generalize ps[k].1.len - 1 = t at *
      generalize pad (row ps[k].1) = Pv at *
      generalize pad (row ps[k].2) = Ps at *
      generalize pad (row yx.1) = Py at *
      generalize pad (row yx.2) = Px at *
      generalize pad (row m) = Pm at *
      generalize (ps.map Prod.fst).map padD = VD at *
      generalize (ps.map Prod.snd).map padD = SD at *
      generalize L.map padD = LD at *
      rcases hO with ⟨rfl, rfl, -⟩ | ⟨rfl, rfl⟩ <;> simp -implicitDefEqProofs [ir_spec_l03Kernel_L0, dn_cond, hlt, hvl, hvg, e1, hya, ht64, hpy, w4]
    · have hks : kst ps[k].1 ps[k].2 yx = (yx.1 + Pol.C (-(yx.1.c (ps[k].1.len - 1)) * Fd.inv ps[k].1.ld) * ps[k].1, yx.2 + Pol.C (-(yx.1.c (ps[k].1.len - 1)) * Fd.inv ps[k].1.ld) * ps[k].2) := rfl
      rw [hks]
      have c1 : IntKind.i64.wrap (rep (yx.1.c (ps[k].1.len - 1))) = rep (yx.1.c (ps[k].1.len - 1)) := w64 (by omega)
      have c2 : IntKind.i64.wrap (-rep (yx.1.c (ps[k].1.len - 1))) = -rep (yx.1.c (ps[k].1.len - 1)) := w64 (by omega)
      have c3 : IntKind.i64.wrap (inv p (rep (ps[k].1.c (ps[k].1.len - 1)))) = inv p (rep (ps[k].1.c (ps[k].1.len - 1))) := w64 (by omega)
      have c4 : IntKind.i64.wrap (-rep (yx.1.c (ps[k].1.len - 1)) * inv p (rep (ps[k].1.c (ps[k].1.len - 1)))) = -rep (yx.1.c (ps[k].1.len - 1)) * inv p (rep (ps[k].1.c (ps[k].1.len - 1))) := w64 (by omega)
      clear ih
      generalize pad (row (yx.1 + Pol.C (-(yx.1.c (ps[k].1.len - 1)) * Fd.inv ps[k].1.ld) * ps[k].1)) = Py2 at *
      generalize pad (row (yx.2 + Pol.C (-(yx.1.c (ps[k].1.len - 1)) * Fd.inv ps[k].1.ld) * ps[k].2)) = Px2 at *
      generalize inv p (rep (ps[k].1.c (ps[k].1.len - 1))) = iv at *
      generalize rep (ps[k].1.c (ps[k].1.len - 1)) = rv at *
      generalize rep (yx.1.c (ps[k].1.len - 1)) = ry at *
      generalize ps[k].1.len - 1 = t at *
      generalize pad (row ps[k].1) = Pv at *
      generalize pad (row ps[k].2) = Ps at *
      generalize pad (row yx.1) = Py at *
      generalize pad (row yx.2) = Px at *
      generalize pad (row m) = Pm at *
      generalize (ps.map Prod.fst).map padD = VD at *
      generalize (ps.map Prod.snd).map padD = SD at *
      generalize L.map padD = LD at *
      rcases hO with ⟨rfl, rfl, -⟩ | ⟨rfl, rfl⟩ <;> simp -implicitDefEqProofs [ir_spec_l03Kernel_L0, dn_cond, hlt, hvl, hvg, hsl, hsg, e1, e2, e3, e4, hya, hva, ht64, hpy, hpv, hz, w4, c1, c2, c3, c4]
theorem tpow_row (i : Nat) (hi : i < 64) : (pad []).set i 1 = pad (row (tpow i : Fp p)) := by
  refine List.ext_getElem? fun j => ?_
  by_cases hj : j < 64
  · have h1 : (pad (row (tpow i : Fp p)))[j]? = some (rep ((tpow i : Fp p).c j)) := by
      have hl : j < (pad (row (tpow i : Fp p))).length := by rw [pad_length]; exact hj
      rw [List.getElem?_eq_getElem hl, pad_row_at (by rw [tpow_len]; omega)]
    rw [h1, List.getElem?_set]
    have hl : (pad []).length = 64 := pad_length _
    by_cases hij : i = j
    · rw [if_pos hij, hl, if_pos hi]
      show some 1 = some (rep (if j = i then (1 : Zp p) else 0))
      rw [if_pos hij.symm, rep_one]
    · rw [if_neg hij, pad_get [] j hj, cf_ge (by simp)]
      show some 0 = some (rep (if j = i then (1 : Zp p) else 0))
      rw [if_neg (Ne.symm hij), rep_zero]
  · rw [List.getElem?_eq_none (by rw [List.length_set, pad_length]; omega), List.getElem?_eq_none (by rw [pad_length]; omega)]
theorem kLoop_len {m : Fp p} {S : List (Fp p)} : ∀ i, (kLoop m S i).1.length ≤ i
  | 0 => Nat.le_refl _
  | i + 1 => by
    have := kLoop_len (m := m) (S := S) i
    show (kStep m S i (kLoop m S i)).1.length ≤ _
    unfold kStep
    split
    · show (kLoop m S i).1.length ≤ _; omega
    · show ((kLoop m S i).1 ++ [_]).length ≤ _; rw [List.length_append, List.length_singleton]; omega
theorem l_sk1 {O : Oracle} (hdg : K_sDeg O) (hinv : K_sInverse O) (had : K_sAdd O) (hva : K_sSkVal O) (hpu : K_sPut O) {m : Fp p} (hm : Fld m) {S : List (Fp p)} (h8 : S.length = 8) (hS : ∀ a ∈ S, a.len < m.len) : ∀ (r i : Nat) (vo : V) (b4 : Blk) (cv cs : Option Nat), i + r = m.len - 1 → OutL vo b4 (kLoop m S i).2 → ∃ (vo' : V) (b4' : Blk) (cv' cs' : Option Nat), OutL vo' b4' (kerS m S) ∧
    dn O 0 (.loop ir_spec_l03Kernel_L1) ⟨[(0, (.d (.int .i64 p))), (4, .ptr 0 []), (5, .ptr 1 []), (7, .sl 2 [] 0 (kLoop m S i).1.length cv), (8, .sl 3 [] 0 (kLoop m S i).1.length cs), (9, vo), (10, (.d (.int .i64 i)))], [.box false (D.arr 64 .leaf (ints .u8 (pad (row m)))), .box false (.arr 8 (.arr 64 .leaf) ((skP S).map arr8)), .sl false (.arr 64 .leaf) (((kLoop m S i).1.map Prod.fst).map padD), .sl false (.arr 64 .leaf) (((kLoop m S i).1.map Prod.snd).map padD), b4, .hole, .hole, .hole, .hole, .hole, .hole]⟩ =
      some (.exit 0, ⟨[(0, (.d (.int .i64 p))), (4, .ptr 0 []), (5, .ptr 1 []), (7, .sl 2 [] 0 (kLoop m S (m.len - 1)).1.length cv'), (8, .sl 3 [] 0 (kLoop m S (m.len - 1)).1.length cs'), (9, vo'), (10, (.d (.int .i64 (((m.len - 1 : Nat) : Int))))), (22, (.d (.bool false)))], [.box false (D.arr 64 .leaf (ints .u8 (pad (row m)))), .box false (.arr 8 (.arr 64 .leaf) ((skP S).map arr8)), .sl false (.arr 64 .leaf) (((kLoop m S (m.len - 1)).1.map Prod.fst).map padD), .sl false (.arr 64 .leaf) (((kLoop m S (m.len - 1)).1.map Prod.snd).map padD), b4', .hole, .hole, .hole, .hole, .hole, .hole]⟩)
  | 0, i, vo, b4, cv, cs, hi, hO => by
    obtain rfl : i = m.len - 1 := by omega
    have h5 := hm.five
    have h2 := hm.two
    have e1 := hdg p m (by omega)
    rw [show (m.len : Int) - 1 = ((m.len - 1 : Nat) : Int) by omega] at e1
    refine ⟨vo, b4, cv, cs, hO, dn_stop ?_⟩
    generalize ((kLoop m S (m.len - 1)).1.map Prod.fst).map padD = VD at *
    generalize ((kLoop m S (m.len - 1)).1.map Prod.snd).map padD = SD at *
    generalize ((kLoop m S (m.len - 1)).2).map padD = LD at *
    generalize (kLoop m S (m.len - 1)).1.length = n at *
    generalize (skP S).map arr8 = Fz at *
    generalize pad (row m) = Pm at *
    generalize m.len - 1 = d at *
    rcases hO with ⟨rfl, rfl, -⟩ | ⟨rfl, rfl⟩ <;> simp -implicitDefEqProofs [ir_spec_l03Kernel_L1, dn_cond, e1]
  | r + 1, i, vo, b4, cv, cs, hi, hO => by
    have h5 := hm.five
    have h2 := hm.two
    have h0 := hm.mon.2
    have hlt : i < m.len - 1 := by omega
    have e1 := hdg p m (by omega)
    rw [show (m.len : Int) - 1 = ((m.len - 1 : Nat) : Int) by omega] at e1
    have inv := kLoop_inv h0 (by omega) S i (by omega)
    have hxl : (tpow i : Fp p).len < m.len := by rw [tpow_len]; omega
    have e2 := hva p m (tpow i) S h2 (by omega) hxl h8 hS
    rw [show svI m (tpow i) 0 S 0 = sev m S (tpow i) from rfl, show skwD (skP S) = .arr 8 (.arr 64 .leaf) ((skP S).map arr8) from rfl] at e2
    have hn := kLoop_len (m := m) (S := S) i
    obtain ⟨q1, q2, q3, q4⟩ := inv.pair h0 (by omega)
    have e3 := l_sk0 (O := O) hdg hinv had (S := S) (by omega) inv.vals (by omega) hO (Fz := (skP S).map arr8) (i := (i : Int)) (cv := cv) (cs := cs) (kLoop m S i).1.length 0 (sev m S (tpow i), tpow i) (Nat.zero_add _) (sev_len h0 S _) hxl
    have e00 : ((0 : Nat) : Int) = 0 := rfl
    rw [e00, List.drop_zero, show kred (kLoop m S i).1 (sev m S (tpow i), tpow i) = kpr m S (kLoop m S i).1 i from rfl] at e3
    have e4 := hdg p (kpr m S (kLoop m S i).1 i).1 (by omega)
    have hset := tpow_row (p := p) i (by omega)
    have w4 : IntKind.i64.wrap ((i : Int) + 1) = ((i + 1 : Nat) : Int) := (w64 (x := (i : Int) + 1) (by omega)).trans (by omega)
    have hi64 : i < 64 := by omega
    have hp0 : (pad []).length = 64 := pad_length _
    have hvl : (((kLoop m S i).1.map Prod.fst).map padD).length = (kLoop m S i).1.length := by simp
    have hsl : (((kLoop m S i).1.map Prod.snd).map padD).length = (kLoop m S i).1.length := by simp
    have hvt : (((kLoop m S i).1.map Prod.fst).map padD).take (kLoop m S i).1.length = ((kLoop m S i).1.map Prod.fst).map padD := List.take_of_length_le (by omega)
    have hst : (((kLoop m S i).1.map Prod.snd).map padD).take (kLoop m S i).1.length = ((kLoop m S i).1.map Prod.snd).map padD := List.take_of_length_le (by omega)
    by_cases hy : (kpr m S (kLoop m S i).1 i).1 = 0
    · have e5 := hpu p (kLoop m S i).2 (kpr m S (kLoop m S i).1 i).2 inv.desc (by omega)
      have hks : kLoop m S (i + 1) = ((kLoop m S i).1, putS (kLoop m S i).2 (kpr m S (kLoop m S i).1 i).2) := by
        show kStep m S i (kLoop m S i) = _
        unfold kStep; rw [if_pos hy]
      have hO' : OutL (p := p) (.d (.sl (.arr 64 .leaf) ((putS (kLoop m S i).2 (kpr m S (kLoop m S i).1 i).2).map padD))) .hole (kLoop m S (i + 1)).2 := .inr ⟨by rw [hks], rfl⟩
      obtain ⟨vo', b4', cv', cs', hO2, ih⟩ := l_sk1 hdg hinv had hva hpu hm h8 hS r (i + 1) _ .hole cv cs (by omega) hO'
      refine ⟨vo', b4', cv', cs', hO2, dn_round ?_ ih⟩
      rw [hks]
      rw [hy, row_zero, Pol.len_zero] at e4
      rw [hy, row_zero] at e3
      have e0z : ((0 : Nat) : Int) - 1 = -1 := rfl
      rw [e0z] at e4
      clear ih hO' hks
      have hLn : (kLoop m S i).2 = [] → (kLoop m S i).2.map padD = [] := fun h => by rw [h]; rfl
      show _ = some ((_ : Out), (⟨[_, _, _, (7, .sl 2 [] 0 (kLoop m S i).1.length cv), (8, .sl 3 [] 0 (kLoop m S i).1.length cs), _, _], [_, _, .sl false (.arr 64 .leaf) (((kLoop m S i).1.map Prod.fst).map padD), .sl false (.arr 64 .leaf) (((kLoop m S i).1.map Prod.snd).map padD), _, _, _, _, _, _, _]⟩ : St))
      generalize (putS (kLoop m S i).2 (kpr m S (kLoop m S i).1 i).2).map padD = PD at *
      generalize pad (row (kpr m S (kLoop m S i).1 i).2) = Px2 at *
      generalize pad (row (sev m S (tpow i))) = Py at *
      generalize pad (row (tpow i : Fp p)) = Pt at *
      generalize ((kLoop m S i).1.map Prod.fst).map padD = VD at *
      generalize ((kLoop m S i).1.map Prod.snd).map padD = SD at *
      generalize (kLoop m S i).1.length = n at *
      generalize (skP S).map arr8 = Fz at *
      generalize pad (row m) = Pm at *
      generalize m.len - 1 = d at *
      rcases hO with ⟨rfl, rfl, hL⟩ | ⟨rfl, rfl⟩
      · have hLD := hLn hL
        generalize (kLoop m S i).2.map padD = LD at *
        subst hLD
        simp -implicitDefEqProofs [ir_spec_l03Kernel_L1, dn_cond, hlt, e1, e2, e3, e4, e5, hset, hi64, hp0, w4]
      · generalize (kLoop m S i).2.map padD = LD at *
        simp -implicitDefEqProofs [ir_spec_l03Kernel_L1, dn_cond, hlt, e1, e2, e3, e4, e5, hset, hi64, hp0, w4]
    · have hks : kLoop m S (i + 1) = ((kLoop m S i).1 ++ [kpr m S (kLoop m S i).1 i], (kLoop m S i).2) := by
        show kStep m S i (kLoop m S i) = _
        unfold kStep; rw [if_neg hy]
      obtain ⟨vo', b4', cv', cs', hO2, ih⟩ := l_sk1 hdg hinv had hva hpu hm h8 hS r (i + 1) vo b4 none none (by omega) (by rw [hks]; exact hO)
      refine ⟨vo', b4', cv', cs', hO2, dn_round ?_ ih⟩
      rw [hks]
      have hyl := Pol.len_pos hy
      have hneg : ¬ ((kpr m S (kLoop m S i).1 i).1.len : Int) - 1 < 0 := by omega
      have hmf : (((kLoop m S i).1 ++ [kpr m S (kLoop m S i).1 i]).map Prod.fst).map padD = ((kLoop m S i).1.map Prod.fst).map padD ++ [(D.arr 64 .leaf (ints .u8 (pad (row (kpr m S (kLoop m S i).1 i).1))))] := by simp
      have hms : (((kLoop m S i).1 ++ [kpr m S (kLoop m S i).1 i]).map Prod.snd).map padD = ((kLoop m S i).1.map Prod.snd).map padD ++ [(D.arr 64 .leaf (ints .u8 (pad (row (kpr m S (kLoop m S i).1 i).2))))] := by simp
      show _ = some ((_ : Out), (⟨[_, _, _, (7, .sl 2 [] 0 ((kLoop m S i).1 ++ [kpr m S (kLoop m S i).1 i]).length none), (8, .sl 3 [] 0 ((kLoop m S i).1 ++ [kpr m S (kLoop m S i).1 i]).length none), _, _], [_, _, .sl false (.arr 64 .leaf) ((((kLoop m S i).1 ++ [kpr m S (kLoop m S i).1 i]).map Prod.fst).map padD), .sl false (.arr 64 .leaf) ((((kLoop m S i).1 ++ [kpr m S (kLoop m S i).1 i]).map Prod.snd).map padD), _, _, _, _, _, _, _]⟩ : St))
      rw [hmf, hms, List.length_append, List.length_singleton]
      clear ih hks hmf hms
      have h64 : ((kLoop m S i).1.length + 1) * 64 ≤ 1099511627776 := by omega
      generalize ((kpr m S (kLoop m S i).1 i).1.len : Int) - 1 = dy at *
      generalize pad (row (kpr m S (kLoop m S i).1 i).1) = Py2 at *
      generalize pad (row (kpr m S (kLoop m S i).1 i).2) = Px2 at *
      generalize pad (row (sev m S (tpow i))) = Py at *
      generalize pad (row (tpow i : Fp p)) = Pt at *
      generalize ((kLoop m S i).1.map Prod.fst).map padD = VD at *
      generalize ((kLoop m S i).1.map Prod.snd).map padD = SD at *
      generalize (kLoop m S i).1.length = n at *
      generalize (skP S).map arr8 = Fz at *
      generalize pad (row m) = Pm at *
      generalize m.len - 1 = d at *
      generalize (kLoop m S i).2.map padD = LD at *
      rcases hO with ⟨rfl, rfl, hL⟩ | ⟨rfl, rfl⟩ <;> simp -implicitDefEqProofs [ir_spec_l03Kernel_L1, dn_cond, hlt, e1, e2, e3, e4, hneg, hset, hi64, hp0, w4, hvl, hsl, hvt, hst, h64, List.replicate]
end
def K_sKernel (O : Oracle) : Prop := ∀ (p : Int) [IsP p] (m : Fp p) (S : List (Fp p)), Fld m → S.length = 8 → (∀ a ∈ S, a.len < m.len) → ask O F_spec_l03Kernel [(D.int .i64 p), (D.arr 64 .leaf (ints .u8 (pad (row m)))), skwD (skP S)] = some (.sl (.arr 64 .leaf) ((kerS m S).map padD))
theorem k_sKernel (hT : T F_spec_l03Kernel = some ir_spec_l03Kernel) (hdg : K_sDeg (den T A)) (hinv : K_sInverse (den T A)) (had : K_sAdd (den T A)) (hva : K_sSkVal (den T A)) (hpu : K_sPut (den T A)) : K_sKernel (den T A) := by
  intro p ip m S hm h8 hS
  have h2 := hm.two
  obtain ⟨vo, b4, cv, cs, hO, e⟩ := l_sk1 (O := den T A) hdg hinv had hva hpu hm h8 hS (m.len - 1) 0 (.sl 4 [] 0 0 (some 0)) (.sl false (.arr 64 .leaf) []) (some 0) (some 0) (Nat.zero_add _) (.inl ⟨rfl, rfl, rfl⟩)
  have e00 : ((0 : Nat) : Int) = 0 := rfl
  rw [e00, show kLoop m S 0 = ([], []) from rfl] at e
  have e' : dn (den T A) 0 (.loop ir_spec_l03Kernel_L1) ⟨[(0, (.d (.int .i64 p))), (4, .ptr 0 []), (5, .ptr 1 []), (7, .sl 2 [] 0 0 (some 0)), (8, .sl 3 [] 0 0 (some 0)), (9, .sl 4 [] 0 0 (some 0)), (10, (.d (.int .i64 0)))], [.box false (D.arr 64 .leaf (ints .u8 (pad (row m)))), .box false (.arr 8 (.arr 64 .leaf) ((skP S).map arr8)), .sl false (.arr 64 .leaf) [], .sl false (.arr 64 .leaf) [], .sl false (.arr 64 .leaf) [], .hole, .hole, .hole, .hole, .hole, .hole]⟩ = _ := e
  clear e
  have hsk : skwD (skP S) = .arr 8 (.arr 64 .leaf) ((skP S).map arr8) := rfl
  rw [hsk]
  refine ask_of hT rfl ?_
  generalize ((kLoop m S (m.len - 1)).1.map Prod.fst).map padD = VD at *
  generalize ((kLoop m S (m.len - 1)).1.map Prod.snd).map padD = SD at *
  generalize (kLoop m S (m.len - 1)).1.length = n at *
  generalize (skP S).map arr8 = Fz at *
  generalize pad (row m) = Pm at *
  rcases hO with ⟨rfl, rfl, hL⟩ | ⟨rfl, rfl⟩
  · rw [hL]
    simp -implicitDefEqProofs [ir_spec_l03Kernel, ir_spec_l03Kernel_B, e', List.replicate]
  · generalize (kerS m S).map padD = KD at *
    simp -implicitDefEqProofs [ir_spec_l03Kernel, ir_spec_l03Kernel_B, e', List.replicate]
end Pe

namespace Pe
open Go Gq
variable {T : Nat → Option Fn} {A : Oracle}
section
variable {p : Int} [IsP p]
open Classical in
/-- The zeros among the first polynomials. -/
noncomputable def zsS (m : Fp p) (S : List (Fp p)) : Nat → List (Fp p)
  | 0 => []
  | n + 1 => zsS m S n ++ (if sev m S (numP p n) = 0 then [numP p n] else [])
theorem zsS_mem {m : Fp p} {S : List (Fp p)} : ∀ (n : Nat) (x : Fp p), x ∈ zsS m S n ↔ ∃ k : Nat, k < n ∧ x = numP p k ∧ sev m S x = 0
  | 0, x => by
    constructor
    · intro h; cases h
    · rintro ⟨k, h, -⟩; omega
  | n + 1, x => by
    rw [zsS, List.mem_append, zsS_mem n x]
    constructor
    · rintro (⟨k, h1, h2, h3⟩ | h)
      · exact ⟨k, by omega, h2, h3⟩
      · split at h
        · rename_i h0
          obtain rfl := List.mem_singleton.1 h
          exact ⟨n, by omega, rfl, h0⟩
        · cases h
    · rintro ⟨k, h1, rfl, h3⟩
      by_cases hk : k < n
      · exact .inl ⟨k, hk, rfl, h3⟩
      · obtain rfl : k = n := by omega
        right
        rw [if_pos h3]; simp
theorem zsS_len {m : Fp p} {S : List (Fp p)} : ∀ n, (zsS m S n).length ≤ n
  | 0 => Nat.le_refl _
  | n + 1 => by
    have := zsS_len (m := m) (S := S) n
    rw [zsS, List.length_append]
    split
    · simp only [List.length_singleton]; omega
    · simp only [List.length_nil]; omega
theorem res_count {m : Fp p} (hm : Fld m) : ∃ N : Nat, (N : Int) = p ^ (m.len - 1) ∧ 1 ≤ N ∧ N ≤ 2401 := by
  have h5 := hm.five
  have h1 : (1 : Int) ≤ p ^ (m.len - 1) := ppow_pos _
  have h2 : p ^ (m.len - 1) ≤ p ^ 4 := ipow_mono (p := p) (by have := IsP.pos (p := p); omega) (by omega)
  have h3 : p ^ 4 ≤ 2401 := by rcases IsP.h (p := p) with h | h | h | h <;> subst h <;> decide
  exact ⟨(p ^ (m.len - 1)).toNat, by omega, by omega, by omega⟩
theorem num_len {m : Fp p} (h2 : 2 ≤ m.len) {N : Nat} (hN : (N : Int) = p ^ (m.len - 1)) (hb : N ≤ 2401) {k : Nat} (hk : k < N) : (numP p (k : Int)).len < m.len := by
  have := Pol.len_le (numP_lt (p := p) (n := (k : Int)) ⟨by omega, by omega⟩ (d := m.len - 1) (by omega))
  omega
theorem zsS_ker {m : Fp p} (hm : Fld m) {S : List (Fp p)} {N : Nat} (hN : (N : Int) = p ^ (m.len - 1)) (hb : N ≤ 2401) : spanS (zsS m S N) [] = kerS m S := by
  have h5 := hm.five
  have h2 := hm.two
  refine ker_span hm.mon.2 (by omega) (fun x hx => ?_) fun x hx h0 => ?_
  · obtain ⟨k, h1, rfl, h3⟩ := (zsS_mem N x).1 hx
    exact ⟨num_len h2 hN hb h1, h3⟩
  · have h1 := numOf_in x
    have h3 : p ^ x.len ≤ p ^ (m.len - 1) := ipow_mono (p := p) (by have := IsP.pos (p := p); omega) (by omega)
    have e := numP_numOf (a := x) (by omega)
    refine (zsS_mem N x).2 ⟨(numOf x).toNat, by omega, ?_, h0⟩
    rw [show (((numOf x).toNat : Nat) : Int) = numOf x by omega, e]
theorem l_ker {O : Oracle} (hnu : K_numbered O) (hva : K_value O) {m : Fp p} (hm : Fld m) {S : List (Fp p)} (h8 : S.length = 8) (hS : ∀ a ∈ S, a.len < m.len) {N : Nat} (hb : N ≤ 2401) : ∀ (r i : Nat) (cp : Option Nat), i + r = N → ∃ cp' : Option Nat,
    dn O 0 (.loop ir_impl_KernelOfSkew_L0) ⟨[(9, .ptr 3 []), (10, .d (skD (trimS S))), (11, .sl 4 [] 0 (zsS m S i).length cp), (32, (.d (.int .i64 N))), (33, (.d (.int .i64 i)))], [.hole, .hole, .hole, .box false (fldD m), .sl false .leaf ((zsS m S i).map rowD), .hole, .hole]⟩ =
      some (.exit 0, ⟨[(9, .ptr 3 []), (10, .d (skD (trimS S))), (11, .sl 4 [] 0 (zsS m S N).length cp'), (32, (.d (.int .i64 N))), (33, (.d (.int .i64 N))), (34, (.d (.bool false)))], [.hole, .hole, .hole, .box false (fldD m), .sl false .leaf ((zsS m S N).map rowD), .hole, .hole]⟩)
  | 0, i, cp, hi => by
    obtain rfl : i = N := by omega
    refine ⟨cp, dn_stop ?_⟩
    generalize (zsS m S i).map rowD = ZD at *
    generalize trimS S = TS at *
    simp -implicitDefEqProofs [ir_impl_KernelOfSkew_L0, dn_cond]
  | r + 1, i, cp, hi => by
    have h5 := hm.five
    have h2 := hm.two
    have hlt : i < N := by omega
    have e1 := hnu p i (by omega) (by omega)
    have hnl := numP_len (p := p) i
    have hTl : (trimS S).length ≤ S.length := by unfold trimS; rw [List.length_take]; omega
    have e2 := hva p m (numP p i) (trimS S) h2 (by omega) (by omega) (by omega) (fun c hc => by
      have : c ∈ S := List.mem_of_mem_take hc
      have := hS c this
      omega)
    rw [svI_trim hm.mon.2, show svI m (numP p i) 0 S 0 = sev m S (numP p i) from rfl] at e2
    have hzl := zsS_len (m := m) (S := S) i
    have hrl : (row (sev m S (numP p i))).length = (sev m S (numP p i)).len := row_length _
    have w4 : IntKind.i64.wrap ((i : Int) + 1) = ((i + 1 : Nat) : Int) := (w64 (x := (i : Int) + 1) (by omega)).trans (by omega)
    have hfd : fldD m = .st [.leaf, .leaf] [(D.int .i64 p), (D.sl .leaf (ints .i64 (row m)))] := rfl
    have hZ : ((zsS m S i).map rowD).length = (zsS m S i).length := List.length_map ..
    have hZt : ((zsS m S i).map rowD).take (zsS m S i).length = (zsS m S i).map rowD := List.take_of_length_le (by omega)
    have h24 : ((zsS m S i).length + 1) * 24 ≤ 1099511627776 := by omega
    by_cases h0 : sev m S (numP p i) = 0
    · have hz : zsS m S (i + 1) = zsS m S i ++ [numP p i] := by rw [zsS, if_pos h0]
      obtain ⟨cp', ih⟩ := l_ker hnu hva hm h8 hS hb r (i + 1) none (by omega)
      refine ⟨cp', dn_round ?_ ih⟩
      rw [hz, List.map_append, List.length_append, List.length_singleton, show [numP p (i : Int)].map rowD = [(D.sl .leaf (ints .i64 (row (numP p i))))] from rfl]
      rw [h0, row_zero] at e2
      rw [hfd] at e2 ⊢
      clear ih hrl
      generalize row (numP p i) = Rx at *
      generalize (zsS m S i).map rowD = ZD at *
      generalize (zsS m S i).length = zl at *
      generalize trimS S = TS at *
      generalize row m = Rm at *
      simp -implicitDefEqProofs [ir_impl_KernelOfSkew_L0, dn_cond, hlt, e1, e2, w4, hZ, hZt, h24, List.replicate]
    · have hz : zsS m S (i + 1) = zsS m S i := by rw [zsS, if_neg h0, List.append_nil]
      obtain ⟨cp', ih⟩ := l_ker hnu hva hm h8 hS hb r (i + 1) cp (by omega)
      refine ⟨cp', dn_round ?_ ih⟩
      rw [hz]
      have hpos := Pol.len_pos h0
      have hne : (row (sev m S (numP p i))).length ≠ 0 := by omega
      have hne2 : ¬ row (sev m S (numP p i)) = [] := fun h => hne (by rw [h]; rfl)
      rw [hfd] at e2 ⊢
      clear ih
      generalize row (sev m S (numP p i)) = Rv at *
      generalize row (numP p i) = Rx at *
      generalize (zsS m S i).map rowD = ZD at *
      generalize (zsS m S i).length = zl at *
      generalize trimS S = TS at *
      generalize row m = Rm at *
      simp -implicitDefEqProofs [ir_impl_KernelOfSkew_L0, dn_cond, hlt, e1, e2, hne, w4]
theorem l_kerH {O : Oracle} (hnu : K_numbered O) (hva : K_value O) {m : Fp p} (hm : Fld m) {S : List (Fp p)} (h8 : S.length = 8) (hS : ∀ a ∈ S, a.len < m.len) {N : Nat} (hb : N ≤ 2401) : ∀ (r i : Nat) (cp : Option Nat), i + r = N → ∃ cp' : Option Nat,
    dn O 0 (.loop ir_impl_KernelOfSkew_h_L0) ⟨[(9, .ptr 5 []), (10, .d (skD (trimS S))), (11, .sl 6 [] 0 (zsS m S i).length cp), (32, (.d (.int .i64 N))), (33, (.d (.int .i64 i)))], [.hole, .hole, .hole, .hole, .hole, .box false (fldD m), .sl false .leaf ((zsS m S i).map rowD), .hole, .hole, .hole]⟩ =
      some (.exit 0, ⟨[(9, .ptr 5 []), (10, .d (skD (trimS S))), (11, .sl 6 [] 0 (zsS m S N).length cp'), (32, (.d (.int .i64 N))), (33, (.d (.int .i64 N))), (34, (.d (.bool false)))], [.hole, .hole, .hole, .hole, .hole, .box false (fldD m), .sl false .leaf ((zsS m S N).map rowD), .hole, .hole, .hole]⟩)
  | 0, i, cp, hi => by
    obtain rfl : i = N := by omega
    refine ⟨cp, dn_stop ?_⟩
    generalize (zsS m S i).map rowD = ZD at *
    generalize trimS S = TS at *
    simp -implicitDefEqProofs [ir_impl_KernelOfSkew_h_L0, dn_cond]
  | r + 1, i, cp, hi => by
    have h5 := hm.five
    have h2 := hm.two
    have hlt : i < N := by omega
    have e1 := hnu p i (by omega) (by omega)
    have hnl := numP_len (p := p) i
    have hTl : (trimS S).length ≤ S.length := by unfold trimS; rw [List.length_take]; omega
    have e2 := hva p m (numP p i) (trimS S) h2 (by omega) (by omega) (by omega) (fun c hc => by
      have : c ∈ S := List.mem_of_mem_take hc
      have := hS c this
      omega)
    rw [svI_trim hm.mon.2, show svI m (numP p i) 0 S 0 = sev m S (numP p i) from rfl] at e2
    have hzl := zsS_len (m := m) (S := S) i
    have hrl : (row (sev m S (numP p i))).length = (sev m S (numP p i)).len := row_length _
    have w4 : IntKind.i64.wrap ((i : Int) + 1) = ((i + 1 : Nat) : Int) := (w64 (x := (i : Int) + 1) (by omega)).trans (by omega)
    have hfd : fldD m = .st [.leaf, .leaf] [(D.int .i64 p), (D.sl .leaf (ints .i64 (row m)))] := rfl
    have hZ : ((zsS m S i).map rowD).length = (zsS m S i).length := List.length_map ..
    have hZt : ((zsS m S i).map rowD).take (zsS m S i).length = (zsS m S i).map rowD := List.take_of_length_le (by omega)
    have h24 : ((zsS m S i).length + 1) * 24 ≤ 1099511627776 := by omega
    by_cases h0 : sev m S (numP p i) = 0
    · have hz : zsS m S (i + 1) = zsS m S i ++ [numP p i] := by rw [zsS, if_pos h0]
      obtain ⟨cp', ih⟩ := l_kerH hnu hva hm h8 hS hb r (i + 1) none (by omega)
      refine ⟨cp', dn_round ?_ ih⟩
      rw [hz, List.map_append, List.length_append, List.length_singleton, show [numP p (i : Int)].map rowD = [(D.sl .leaf (ints .i64 (row (numP p i))))] from rfl]
      rw [h0, row_zero] at e2
      rw [hfd] at e2 ⊢
      clear ih hrl
      generalize row (numP p i) = Rx at *
      generalize (zsS m S i).map rowD = ZD at *
      generalize (zsS m S i).length = zl at *
      generalize trimS S = TS at *
      generalize row m = Rm at *
      simp -implicitDefEqProofs [ir_impl_KernelOfSkew_h_L0, dn_cond, hlt, e1, e2, w4, hZ, hZt, h24, List.replicate]
    · have hz : zsS m S (i + 1) = zsS m S i := by rw [zsS, if_neg h0, List.append_nil]
      obtain ⟨cp', ih⟩ := l_kerH hnu hva hm h8 hS hb r (i + 1) cp (by omega)
      refine ⟨cp', dn_round ?_ ih⟩
      rw [hz]
      have hpos := Pol.len_pos h0
      have hne : (row (sev m S (numP p i))).length ≠ 0 := by omega
      have hne2 : ¬ row (sev m S (numP p i)) = [] := fun h => hne (by rw [h]; rfl)
      rw [hfd] at e2 ⊢
      clear ih
      generalize row (sev m S (numP p i)) = Rv at *
      generalize row (numP p i) = Rx at *
      generalize (zsS m S i).map rowD = ZD at *
      generalize (zsS m S i).length = zl at *
      generalize trimS S = TS at *
      generalize row m = Rm at *
      simp -implicitDefEqProofs [ir_impl_KernelOfSkew_h_L0, dn_cond, hlt, e1, e2, hne, w4]
end
open Classical in
noncomputable def kL (p : Int) (l : List Int) (ls : List (List Int)) : List (List Int) :=
  if h : SkOk p l ls then
    haveI : IsP p := h.choose
    skP (kerS (polOf p l) (ls.map (polOf p)))
  else []
theorem kL_good {p : Int} [IsP p] {m : Fp p} {S : List (Fp p)} (h : SkOk p (pad (row m)) (skP S)) (hm : m.len ≤ 64) (hS : ∀ a ∈ S, a.len ≤ 64) : kL p (pad (row m)) (skP S) = skP (kerS m S) := by
  unfold kL
  rw [dif_pos h, map_polOf hS, polOf_pad hm]
theorem kL_bad {p : Int} {l : List Int} {ls : List (List Int)} (h : ¬ SkOk p l ls) : kL p l ls = [] := by unfold kL; rw [dif_neg h]
theorem kerS_facts {p : Int} [IsP p] {m : Fp p} (hm : Fld m) (S : List (Fp p)) : (kerS m S).length ≤ 11 ∧ ∀ b ∈ kerS m S, b.len < m.len ∧ sev m S b = 0 := by
  have h5 := hm.five
  have inv := kLoop_inv hm.mon.2 (by omega) S (m.len - 1) (by have := hm.two; omega)
  exact ⟨inv.desc.length, inv.ker⟩
theorem kL_ok (p : Int) (l : List Int) (ls : List (List Int)) : (∀ x ∈ kL p l ls, x.length = 64) ∧ (kL p l ls).length ≤ 11 := by
  by_cases h : SkOk p l ls
  · have h' := h
    obtain ⟨ip, m, rfl, hm, hs⟩ := h
    obtain ⟨S, rfl, hS⟩ := sk_of hs
    have h5 := hm.five
    rw [kL_good h' (by omega) (fun a ha => by have := hS a ha; omega)]
    refine ⟨fun x hx => by obtain ⟨a, _, rfl⟩ := List.mem_map.1 hx; exact pad_length _, ?_⟩
    rw [List.length_map]; exact (kerS_facts hm S).1
  · rw [kL_bad h]; exact ⟨fun x hx => by simp at hx, by simp⟩
noncomputable def kerD (p : Int) (l : List Int) (ls : List (List Int)) : D := .tup [.sl (.arr 64 .leaf) ((kL p l ls).map arr8), (D.int .i64 (codeSk p l [ls]))]
theorem codeSk_one {p : Int} {l : List Int} {ls : List (List Int)} (h : ¬ SkOk p l ls) : codeSk p l [ls] = 1 := by
  rcases codeSk_01 p l [ls] with c | c
  · exact absurd (codes_so.1 c) h
  · exact c
def K_KernelOfSkew (O : Oracle) (F : Nat) : Prop := ∀ (p : Int) (l : List Int) (ls : List (List Int)), Bytes l → l.length = 64 → Sk8 ls → ask O F [(D.int .i64 p), (D.arr 64 .leaf (ints .u8 l)), skwD ls] = some (kerD p l ls)
theorem k_KernelOfSkew (hT : T F_impl_KernelOfSkew = some ir_impl_KernelOfSkew) (hsc : C_skewsCode (den T A) F_impl_skewsCode) (hfo : K_fieldOf (den T A)) (hsk : K_skewOf (den T A)) (hdg : C_degree (den T A)) (hno : C_norm (den T A)) (hnu : K_numbered (den T A)) (hva : K_value (den T A)) (hre : K_redList (den T A)) (hpo : K_polys (den T A)) : K_KernelOfSkew (den T A) F_impl_KernelOfSkew := by
  intro p l ls bl gl h8
  have e1 := hsc p l [ls] bl gl (by simpa using h8) (by simp)
  rw [show List.map skwD [ls] = [skwD ls] from rfl] at e1
  have hskd : skwD ls = .arr 8 (.arr 64 .leaf) (ls.map arr8) := rfl
  unfold kerD
  rw [hskd] at e1 ⊢
  by_cases h : SkOk p l ls
  · rw [codes_so.2 h] at e1 ⊢
    have h' := h
    obtain ⟨ip, m, rfl, hm, hs⟩ := h
    obtain ⟨S, rfl, hS⟩ := sk_of hs
    have h5 := hm.five
    have h2 := hm.two
    have hS8 : S.length = 8 := by have := h8.2; rwa [List.length_map] at this
    have hS64 : ∀ a ∈ S, a.len ≤ 64 := fun a ha => by have := hS a ha; omega
    obtain ⟨N, hN, hN1, hb⟩ := res_count hm
    have e3 := hfo p m (by omega)
    have e4 := hsk p S hS8 hS64
    have e5 := hdg (row m) (by rw [row_length]; omega)
    rw [row_length, show (m.len : Int) - 1 = ((m.len - 1 : Nat) : Int) by omega] at e5
    have e6 := hno p (m.len - 1) 1099511627776 (by omega) (by omega)
    rw [normL_eq (m.len - 1) 1 (by omega) (by omega), Int.one_mul, ← hN] at e6
    obtain ⟨cp, e7⟩ := l_ker (O := den T A) hnu hva hm hS8 hS hb N 0 (some 0) (Nat.zero_add _)
    have e00 : ((0 : Nat) : Int) = 0 := rfl
    rw [e00, show zsS m S 0 = [] from rfl, List.map_nil, List.length_nil] at e7
    have hzl := zsS_len (m := m) (S := S) N
    have e8 := hre p (zsS m S N) (fun x hx => by
      obtain ⟨k, hk, rfl, -⟩ := (zsS_mem N x).1 hx
      have := num_len h2 hN hb hk
      omega) (by omega)
    rw [zsS_ker hm hN hb] at e8
    obtain ⟨hk1, hk2⟩ := kerS_facts hm S
    have e9 := hpo p (kerS m S) (by omega) (fun x hx => by have := (hk2 x hx).1; omega)
    rw [show kL p (pad (row m)) (S.map fun a => pad (row a)) = skP (kerS m S) from kL_good h' (by omega) hS64, map_padD (kerS m S)]
    rw [show skwD (skP S) = .arr 8 (.arr 64 .leaf) ((S.map fun a => pad (row a)).map arr8) from rfl] at e4
    have hZ : ((zsS m S N).map rowD).length = (zsS m S N).length := List.length_map ..
    have hZt : ((zsS m S N).map rowD).take (zsS m S N).length = (zsS m S N).map rowD := List.take_of_length_le (by omega)
    have hts : skD (trimS S) = .sl .leaf ((trimS S).map fun c => (D.sl .leaf (ints .i64 (row c)))) := rfl
    have hfd : fldD m = .st [.leaf, .leaf] [(D.int .i64 p), (D.sl .leaf (ints .i64 (row m)))] := rfl
    rw [hfd] at e3 e7
    rw [hts] at e4 e7
    refine ask_of hT rfl ?_
    generalize (kerS m S).map padD = KP at *
    generalize (kerS m S).map rowD = KR at *
    generalize (zsS m S N).map rowD = ZD at *
    generalize (zsS m S N).length = zl at *
    generalize ((trimS S).map fun c => (D.sl .leaf (ints .i64 (row c)))) = TS at *
    generalize (S.map fun a => pad (row a)).map arr8 = LS at *
    generalize pad (row m) = Pm at *
    generalize row m = Rm at *
    generalize m.len - 1 = d at *
    simp -implicitDefEqProofs [ir_impl_KernelOfSkew, ir_impl_KernelOfSkew_B, dn_cond, e1, e3, e4, e5, e6, e7, e8, e9, hZ, hZt, List.replicate]
  · rw [codeSk_one h] at e1 ⊢
    rw [kL_bad h, List.map_nil]
    refine ask_of hT rfl ?_
    generalize ls.map arr8 = LD at *
    simp -implicitDefEqProofs [ir_impl_KernelOfSkew, ir_impl_KernelOfSkew_B, dn_cond, e1, List.replicate]
theorem k_sKernelOfSkew (hT : T F_spec_KernelOfSkew = some ir_spec_KernelOfSkew) (hsc : C_skewsCode (den T A) F_spec_l03Code) (hke : K_sKernel (den T A)) : K_KernelOfSkew (den T A) F_spec_KernelOfSkew := by
  intro p l ls bl gl h8
  have e1 := hsc p l [ls] bl gl (by simpa using h8) (by simp)
  rw [show List.map skwD [ls] = [skwD ls] from rfl] at e1
  have hskd : skwD ls = .arr 8 (.arr 64 .leaf) (ls.map arr8) := rfl
  unfold kerD
  rw [hskd] at e1 ⊢
  by_cases h : SkOk p l ls
  · rw [codes_so.2 h] at e1 ⊢
    have h' := h
    obtain ⟨ip, m, rfl, hm, hs⟩ := h
    obtain ⟨S, rfl, hS⟩ := sk_of hs
    have h5 := hm.five
    have hS8 : S.length = 8 := by have := h8.2; rwa [List.length_map] at this
    have hS64 : ∀ a ∈ S, a.len ≤ 64 := fun a ha => by have := hS a ha; omega
    have e2 := hke p m S hm hS8 hS
    rw [show kL p (pad (row m)) (S.map fun a => pad (row a)) = skP (kerS m S) from kL_good h' (by omega) hS64, map_padD (kerS m S)]
    rw [show skwD (skP S) = .arr 8 (.arr 64 .leaf) ((S.map fun a => pad (row a)).map arr8) from rfl] at e2
    refine ask_of hT rfl ?_
    generalize (kerS m S).map padD = KP at *
    generalize (S.map fun a => pad (row a)).map arr8 = LS at *
    generalize pad (row m) = Pm at *
    simp -implicitDefEqProofs [ir_spec_KernelOfSkew, ir_spec_KernelOfSkew_B, dn_cond, e1, e2, List.replicate]
  · rw [codeSk_one h] at e1 ⊢
    rw [kL_bad h, List.map_nil]
    refine ask_of hT rfl ?_
    generalize ls.map arr8 = LD at *
    simp -implicitDefEqProofs [ir_spec_KernelOfSkew, ir_spec_KernelOfSkew_B, dn_cond, e1, List.replicate]
def H_KernelOfSkew (O : Oracle) : Prop := ∀ (p : Int) (l : List Int) (ls : List (List Int)), Bytes l → l.length = 64 → Sk8 ls → ∃ cp : Option Nat,
  O F_impl_KernelOfSkew_h [(.d (.int .i64 p)), .d (D.arr 64 .leaf (ints .u8 l)), .d (skwD ls)] [] = some (.tup [.sl 0 [] 0 (kL p l ls).length cp, (.d (.int .i64 (codeSk p l [ls])))], [], [.sl false (.arr 64 .leaf) ((kL p l ls).map arr8)])
theorem h_KernelOfSkew (hT : T F_impl_KernelOfSkew_h = some ir_impl_KernelOfSkew_h) (hsc : C_skewsCode (den T A) F_impl_skewsCode) (hfo : K_fieldOf (den T A)) (hsk : K_skewOf (den T A)) (hdg : C_degree (den T A)) (hno : C_norm (den T A)) (hnu : K_numbered (den T A)) (hva : K_value (den T A)) (hre : K_redList (den T A)) (hpo : H_polys (den T A)) : H_KernelOfSkew (den T A) := by
  intro p l ls bl gl h8
  have e1 := hsc p l [ls] bl gl (by simpa using h8) (by simp)
  rw [show List.map skwD [ls] = [skwD ls] from rfl] at e1
  have hskd : skwD ls = .arr 8 (.arr 64 .leaf) (ls.map arr8) := rfl
  rw [hskd] at e1 ⊢
  by_cases h : SkOk p l ls
  · rw [codes_so.2 h] at e1 ⊢
    have h' := h
    obtain ⟨ip, m, rfl, hm, hs⟩ := h
    obtain ⟨S, rfl, hS⟩ := sk_of hs
    have h5 := hm.five
    have h2 := hm.two
    have hS8 : S.length = 8 := by have := h8.2; rwa [List.length_map] at this
    have hS64 : ∀ a ∈ S, a.len ≤ 64 := fun a ha => by have := hS a ha; omega
    obtain ⟨N, hN, hN1, hb⟩ := res_count hm
    have e3 := hfo p m (by omega)
    have e4 := hsk p S hS8 hS64
    have e5 := hdg (row m) (by rw [row_length]; omega)
    rw [row_length, show (m.len : Int) - 1 = ((m.len - 1 : Nat) : Int) by omega] at e5
    have e6 := hno p (m.len - 1) 1099511627776 (by omega) (by omega)
    rw [normL_eq (m.len - 1) 1 (by omega) (by omega), Int.one_mul, ← hN] at e6
    obtain ⟨cp, e7⟩ := l_kerH (O := den T A) hnu hva hm hS8 hS hb N 0 (some 0) (Nat.zero_add _)
    have e00 : ((0 : Nat) : Int) = 0 := rfl
    rw [e00, show zsS m S 0 = [] from rfl, List.map_nil, List.length_nil] at e7
    have hzl := zsS_len (m := m) (S := S) N
    have e8 := hre p (zsS m S N) (fun x hx => by
      obtain ⟨k, hk, rfl, -⟩ := (zsS_mem N x).1 hx
      have := num_len h2 hN hb hk
      omega) (by omega)
    rw [zsS_ker hm hN hb] at e8
    obtain ⟨hk1, hk2⟩ := kerS_facts hm S
    obtain ⟨c9, e9⟩ := hpo p (kerS m S) (by omega) (fun x hx => by have := (hk2 x hx).1; omega)
    rw [show kL p (pad (row m)) (S.map fun a => pad (row a)) = skP (kerS m S) from kL_good h' (by omega) hS64, map_padD (kerS m S), show (skP (kerS m S)).length = (kerS m S).length from List.length_map ..]
    rw [show skwD (skP S) = .arr 8 (.arr 64 .leaf) ((S.map fun a => pad (row a)).map arr8) from rfl] at e4
    have hZ : ((zsS m S N).map rowD).length = (zsS m S N).length := List.length_map ..
    have hZt : ((zsS m S N).map rowD).take (zsS m S N).length = (zsS m S N).map rowD := List.take_of_length_le (by omega)
    have hts : skD (trimS S) = .sl .leaf ((trimS S).map fun c => (D.sl .leaf (ints .i64 (row c)))) := rfl
    have hfd : fldD m = .st [.leaf, .leaf] [(D.int .i64 p), (D.sl .leaf (ints .i64 (row m)))] := rfl
    rw [hfd] at e3 e7
    rw [hts] at e4 e7
    refine ⟨c9, den_of hT rfl ?_⟩
    generalize (kerS m S).map padD = KP at *
    generalize (kerS m S).map rowD = KR at *
    generalize (kerS m S).length = kl at *
    generalize (zsS m S N).map rowD = ZD at *
    generalize (zsS m S N).length = zl at *
    generalize ((trimS S).map fun c => (D.sl .leaf (ints .i64 (row c)))) = TS at *
    generalize (S.map fun a => pad (row a)).map arr8 = LS at *
    generalize pad (row m) = Pm at *
    generalize row m = Rm at *
    generalize m.len - 1 = d at *
    simp -implicitDefEqProofs [ir_impl_KernelOfSkew_h, ir_impl_KernelOfSkew_h_B, dn_cond, e1, e3, e4, e5, e6, e7, e8, e9, hZ, hZt, List.replicate, List.idxOf, List.findIdx, List.findIdx.go]
  · rw [codeSk_one h] at e1 ⊢
    rw [kL_bad h, List.map_nil]
    refine ⟨some 0, den_of hT rfl ?_⟩
    generalize ls.map arr8 = LD at *
    simp -implicitDefEqProofs [ir_impl_KernelOfSkew_h, ir_impl_KernelOfSkew_h_B, dn_cond, e1, List.replicate, List.idxOf, List.findIdx, List.findIdx.go]
def L_KernelOfSkew (O : Oracle) : Prop := ∀ (p : Int) (l : List Int), Bytes l → l.length = 64 → ∀ (ls : List (List Int)), Arrs ls → ls.length = 8 → ask O F_laws_FnExactKernelOfSkew [(D.int .i64 p), (D.arr 64 .leaf (ints .u8 l)), skwD ls] = some (D.bool true)
theorem law_KernelOfSkew (hT : T F_laws_FnExactKernelOfSkew = some ir_laws_FnExactKernelOfSkew) (hp : C_toPoly (den T A)) (hk : C_toSk (den T A)) (he : C_eqPs (den T A)) (hmk : H_markPs (den T A)) (hhd : C_heldPs (den T A)) (hi : K_KernelOfSkew (den T A) F_impl_KernelOfSkew) (hih : H_KernelOfSkew (den T A)) (hs : K_KernelOfSkew (den T A) F_spec_KernelOfSkew) : L_KernelOfSkew (den T A) := by
  intro p l bl gl ls ha h8
  have hskd : skwD ls = .arr 8 (.arr 64 .leaf) (ls.map arr8) := rfl
  have e1 := hp l bl gl
  have e2 := hk ls ⟨ha, h8⟩
  have e3 := hi p l ls bl gl ⟨ha, h8⟩
  have e4 := hs p l ls bl gl ⟨ha, h8⟩
  obtain ⟨cp, e5⟩ := hih p l ls bl gl ⟨ha, h8⟩
  unfold kerD at e3 e4
  obtain ⟨s1, s2⟩ := kL_ok p l ls
  have e7 := he (kL p l ls) s1 (by omega)
  have e9 := hmk (kL p l ls) cp 1 (by omega) (by omega) s1
  have e10 := hhd 1 (kL p l ls).length (by omega) (by omega)
  have hRL : ((kL p l ls).map arr8).length = (kL p l ls).length := List.length_map ..
  have htr : ((kL p l ls).map arr8).take (kL p l ls).length = (kL p l ls).map arr8 := List.take_of_length_le (by omega)
  have hNL : ((mrows 1 (kL p l ls).length).map arr8).length = (kL p l ls).length := by rw [List.length_map, mrows_length]
  have htn : ((mrows 1 (kL p l ls).length).map arr8).take (kL p l ls).length = (mrows 1 (kL p l ls).length).map arr8 := List.take_of_length_le (by omega)
  have hn3 : ¬ ((1 + 64 * (kL p l ls).length : Nat) : Int) < 0 := by omega
  have hf := flats_arr8 ls
  have e01 : ((1 : Nat) : Int) = 1 := rfl
  rw [e01] at e9 e10
  rw [hskd] at e2 e3 e4 e5 ⊢
  refine ask_of hT rfl ?_
  generalize ((1 + 64 * (kL p l ls).length : Nat) : Int) = k2 at *
  generalize (mrows 1 (kL p l ls).length).map arr8 = ND at *
  generalize (kL p l ls).map arr8 = SD at *
  generalize (kL p l ls).length = sl at *
  generalize codeSk p l [ls] = cc at *
  generalize ls.map arr8 = LD at *
  simp -implicitDefEqProofs [ir_laws_FnExactKernelOfSkew, ir_laws_FnExactKernelOfSkew_B, dn_cond, hf, e1, e2, e3, e4, e5, e7, e9, e10, hRL, htr, hNL, htn, hn3, List.replicate, List.idxOf, List.findIdx, List.findIdx.go]
end Pe

namespace Pe
open Go
abbrev tyS : Ty := .arr 8 tyP
theorem has_polys : ∀ (xs : List D), (∀ x ∈ xs, tyP.has x) → ∃ ls : List (List Int), xs = ls.map arr8 ∧ Arrs ls
  | [], _ => ⟨[], rfl, fun _ h => by cases h⟩
  | x :: xs, h => by
    obtain ⟨ls, rfl, hb⟩ := has_polys xs fun y hy => h y (List.mem_cons_of_mem _ hy)
    obtain ⟨l, rfl, b, g⟩ := has_P (h x (by simp))
    refine ⟨l :: ls, rfl, fun y hy => ?_⟩
    rcases List.mem_cons.1 hy with rfl | hy
    · exact ⟨g, b⟩
    · exact hb y hy
theorem has_S {d : D} (h : tyS.has d) : ∃ ls : List (List Int), d = skwD ls ∧ Arrs ls ∧ ls.length = 8 := by
  cases d <;> simp only [Ty.has] at h
  obtain ⟨rfl, rfl, h1, h2⟩ := h
  obtain ⟨ls, rfl, hb⟩ := has_polys _ h2
  exact ⟨ls, rfl, hb, by simpa using h1⟩
end Pe
