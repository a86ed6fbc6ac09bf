/-
  A part of the proof: an evaluator for a small form of the code, its soundness, and contracts of functions over it.
-/
import Derived.Test.YtgheoodlbeihkaaGreatW1
import Derived.Test.YtgheoodlbeihkaaGreatW2
import Derived.Test.YtgheoodlbeihkaaGreatW3
import Derived.Test.YtgheoodlbeihkaaGreatW4
import Derived.Test.YtgheoodlbeihkaaGreatW5

namespace Pe
open Go Gq
variable {T : Nat → Option Fn} {A : Oracle}
theorem l_indexS {O : Oracle} {g : Nat} {first caps cs : List D} {P : D → Bool} (hF : FnBool O g first caps cs P) (hs : AllSh (.arr 8 (.arr 64 .leaf)) cs) (hl : cs.length < 2000000) : ∀ (m i : Nat), i + m = cs.length →
    dn O 0 (.loop ir_slices_IndexFunc_impl_Skew_impl_Skew_L0) ⟨[(0, .d (.sl (.arr 8 (.arr 64 .leaf)) cs)), (1, .d (.fn g first caps)), (7, (.d (.int .i64 cs.length))), (8, (.d (.int .i64 i)))], []⟩ =
      if (cs.drop i).any P then some (.ret, ⟨[(4, (.d (.int .i64 (idxF P (cs.drop i) i))))], []⟩) else some (.exit 0, ⟨[(0, .d (.sl (.arr 8 (.arr 64 .leaf)) cs)), (1, .d (.fn g first caps)), (7, (.d (.int .i64 cs.length))), (8, (.d (.int .i64 cs.length))), (9, (.d (.bool false)))], []⟩)
  | 0, i, hi => by
    have : i = cs.length := by omega
    subst this
    rw [List.drop_length]
    exact dn_stop (by simp -implicitDefEqProofs [ir_slices_IndexFunc_impl_Skew_impl_Skew_L0, dn_cond])
  | m + 1, i, hi => by
    have hlt : i < cs.length := by omega
    have h1 : (i : Int) < cs.length := by omega
    have hx : cs[i]? = some cs[i] := List.getElem?_eq_getElem hlt
    have hm : cs[i] ∈ cs := List.getElem_mem hlt
    have hc := call_fn (O := O) (np := 0) (h := []) (news := []) hF.1 hF.2.1 (hF.2.2.1 _ hm) (hF.2.2.2 _ hm) rfl
    have hsh := hs _ hm
    have w4 : IntKind.i64.wrap ((i : Int) + 1) = ((i + 1 : Nat) : Int) := (w64 (x := (i : Int) + 1) (by omega)).trans (by omega)
    rw [List.drop_eq_getElem_cons hlt]
    cases hp : P cs[i]
    · rw [hp] at hc
      refine dn_round (s1 := ⟨[(0, .d (.sl (.arr 8 (.arr 64 .leaf)) cs)), (1, .d (.fn g first caps)), (7, (.d (.int .i64 cs.length))), (8, (.d (.int .i64 ((i + 1 : Nat)))))], []⟩) ?_ ?_
      · simp -implicitDefEqProofs [ir_slices_IndexFunc_impl_Skew_impl_Skew_L0, dn_cond, h1, hx, hsh, hc, w4]
      · rw [l_indexS hF hs hl m (i + 1) (by omega)]
        simp only [List.any_cons, hp, Bool.false_or, idxF, Bool.false_eq_true, if_false]
    · rw [hp] at hc
      have e : idxF P (cs[i] :: cs.drop (i + 1)) i = i := by simp [idxF, hp]
      rw [e]
      simp only [List.any_cons, hp, Bool.true_or, if_true]
      exact dn_back (by simp -implicitDefEqProofs [ir_slices_IndexFunc_impl_Skew_impl_Skew_L0, dn_cond, h1, hx, hsh, hc])
theorem c_indexS (hT : T F_slices_IndexFunc_impl_Skew_impl_Skew = some ir_slices_IndexFunc_impl_Skew_impl_Skew) : C_indexOf (den T A) F_slices_IndexFunc_impl_Skew_impl_Skew (.arr 8 (.arr 64 .leaf)) := by
  intro g first caps cs P hF hs hl
  have h := l_indexS hF hs hl cs.length 0 (Nat.zero_add _)
  rw [List.drop_zero] at h
  have e0 : ((0 : Nat) : Int) = 0 := rfl
  rw [e0] at h
  refine ask_of hT rfl ?_
  by_cases ha : cs.any P = true
  · rw [if_pos ha] at h
    simp -implicitDefEqProofs [ir_slices_IndexFunc_impl_Skew_impl_Skew, ir_slices_IndexFunc_impl_Skew_impl_Skew_B, h]
  · rw [if_neg ha] at h
    have hn : idxF P cs 0 = -1 := by
      have hi : ∀ (ds : List D) (i : Nat), ds.any P = false → idxF P ds i = -1 := by
        intro ds
        induction ds with
        | nil => intro i _; rfl
        | cons d ds ih => intro i hd; simp at hd; rw [idxF, hd.1]; simpa using ih (i + 1) (by simpa using hd.2)
      exact hi cs 0 (by simpa using ha)
    simp -implicitDefEqProofs [ir_slices_IndexFunc_impl_Skew_impl_Skew, ir_slices_IndexFunc_impl_Skew_impl_Skew_B, h, hn]
theorem c_containsS (hT : T F_slices_ContainsFunc_impl_Skew_impl_Skew = some ir_slices_ContainsFunc_impl_Skew_impl_Skew) (hi : C_indexOf (den T A) F_slices_IndexFunc_impl_Skew_impl_Skew (.arr 8 (.arr 64 .leaf))) : C_anyOf (den T A) F_slices_ContainsFunc_impl_Skew_impl_Skew (.arr 8 (.arr 64 .leaf)) := by
  intro g first caps cs P hF hs hl
  have h := hi g first caps cs P hF hs hl
  have e : decide (0 ≤ idxF P cs 0) = cs.any P := by rw [Bool.eq_iff_iff]; simpa using idxF_ge P cs 0
  refine ask_of hT rfl ?_
  simp -implicitDefEqProofs [ir_slices_ContainsFunc_impl_Skew_impl_Skew, ir_slices_ContainsFunc_impl_Skew_impl_Skew_B, h, e]
theorem c_notS {g : Nat} {first caps cs : List D} {P : D → Bool} (hT : T F_impl_areAll_impl_Skew_1 = some ir_impl_areAll_impl_Skew_1) (hs : AllSh (.arr 8 (.arr 64 .leaf)) cs) (hF : FnBool (den T A) g first caps cs P) : FnBool (den T A) F_impl_areAll_impl_Skew_1 [] [.ip (.fn g first caps)] cs fun x => !P x := by
  refine ⟨fun x hx => by simp at hx, fun x hx => by simp at hx; subst hx; rfl, hF.2.2.1, fun x hx => ?_⟩
  have hc := call_fn (O := den T A) (np := 0) (h := [.box false x]) (news := []) hF.1 hF.2.1 (hF.2.2.1 _ hx) (hF.2.2.2 _ hx) rfl
  have h1 := hF.2.2.1 _ hx
  have h2 := hs _ hx
  refine ask_of hT rfl ?_
  simp -implicitDefEqProofs [ir_impl_areAll_impl_Skew_1, ir_impl_areAll_impl_Skew_1_B, hc, h1, h2]
theorem c_areAllS (hT : T F_impl_areAll_impl_Skew = some ir_impl_areAll_impl_Skew) (hT1 : T F_impl_areAll_impl_Skew_1 = some ir_impl_areAll_impl_Skew_1) (hc : C_anyOf (den T A) F_slices_ContainsFunc_impl_Skew_impl_Skew (.arr 8 (.arr 64 .leaf))) : C_allOf (den T A) F_impl_areAll_impl_Skew (.arr 8 (.arr 64 .leaf)) := by
  intro g first caps cs P hF hs hl
  have e := hc _ _ _ _ _ (c_notS hT1 hs hF) hs hl
  have e2 := any_not P cs
  rw [← e2]
  generalize (cs.any fun x => !P x) = r at *
  refine ask_of hT rfl ?_
  simp -implicitDefEqProofs [ir_impl_areAll_impl_Skew, ir_impl_areAll_impl_Skew_B, e]
abbrev skwD (ls : List (List Int)) : D := .arr 8 (.arr 64 .leaf) (ls.map arr8)
/-- Eight polynomials' places. -/
def Sk8 (ls : List (List Int)) : Prop := Arrs ls ∧ ls.length = 8
theorem fn_isRes {p : Int} [IsP p] {m : Fp p} {ls : List (List Int)} (hm : m.len ≤ 64) (h : Arrs ls) (hi : C_isRes (den T A)) : ∃ P : D → Bool, (∀ l ∈ ls, P (arr8 l) = true ↔ IsRes m l) ∧ FnBool (den T A) F_impl_field_isResidue [fldD m] [] (ls.map arr8) P := by
  classical
  refine ⟨fun x => decide (IsRes m x.nums), fun l hl => by show decide (IsRes m (arr8 l).nums) = true ↔ _; rw [nums_arr8]; simp, fun x hx => by simp at hx; subst hx; rfl, fun x hx => by simp at hx, fun x hx => ?_, fun x hx => ?_⟩
  · obtain ⟨n, _, rfl⟩ := List.mem_map.1 hx; rfl
  · obtain ⟨l, hl, rfl⟩ := List.mem_map.1 hx
    have e := hi p m l hm (h l hl).2 (h l hl).1
    show ask (den T A) _ _ = some (.bool (decide (IsRes m (arr8 l).nums)))
    rw [nums_arr8]
    exact e
/-- All coefficients are residues. -/
def IsSk {p : Int} [IsP p] (m : Fp p) (ls : List (List Int)) : Prop := ∀ l ∈ ls, IsRes m l
open Classical in
def C_isSk (O : Oracle) : Prop := ∀ (p : Int) [IsP p] (m : Fp p) (ls : List (List Int)), m.len ≤ 64 → Sk8 ls → ask O F_impl_field_isSkew [fldD m, skwD ls] = some (D.bool (decide (IsSk m ls)))
open Classical in
theorem c_isSk (hT : T F_impl_field_isSkew = some ir_impl_field_isSkew) (ha : C_allOf (den T A) F_impl_areAll_impl_Poly (.arr 64 .leaf)) (hi : C_isRes (den T A)) : C_isSk (den T A) := by
  intro p ip m ls hm ⟨h, h8⟩
  obtain ⟨P, hP, hF⟩ := fn_isRes (m := m) hm h hi
  have e := ha _ _ _ _ _ hF (fun x hx => by obtain ⟨n, _, rfl⟩ := List.mem_map.1 hx; rfl) (by rw [List.length_map]; omega)
  have hb : (ls.map arr8).all P = decide (IsSk m ls) := by
    rw [Bool.eq_iff_iff, List.all_eq_true, decide_eq_true_iff]
    constructor
    · intro h2 l hl; exact (hP l hl).1 (h2 _ (List.mem_map_of_mem hl))
    · intro h2 x hx
      obtain ⟨l, hl, rfl⟩ := List.mem_map.1 hx
      exact (hP l hl).2 (h2 l hl)
  rw [hb] at e
  have hL : (ls.map arr8).length = 8 := by rw [List.length_map]; exact h8
  have htk : (ls.map arr8).take 8 = ls.map arr8 := List.take_of_length_le (by omega)
  have hsk : skwD ls = .arr 8 (.arr 64 .leaf) (ls.map arr8) := rfl
  rw [hsk]
  refine ask_of hT rfl ?_
  generalize ls.map arr8 = LD at *
  generalize decide (IsSk m ls) = b at *
  simp -implicitDefEqProofs [ir_impl_field_isSkew, ir_impl_field_isSkew_B, e, hL, htk, List.replicate]
def D.numss : D → List (List Int)
  | .arr _ _ cs => cs.map D.nums
  | _ => []
theorem numss_skwD (ls : List (List Int)) : (skwD ls).numss = ls := by
  show (ls.map arr8).map D.nums = ls
  rw [List.map_map]
  have : (D.nums ∘ arr8) = id := by funext l; exact nums_arr8 l
  rw [this, List.map_id]
theorem fn_isSk {p : Int} [IsP p] {m : Fp p} {lss : List (List (List Int))} (hm : m.len ≤ 64) (h : ∀ ls ∈ lss, Sk8 ls) (hi : C_isSk (den T A)) : ∃ P : D → Bool, (∀ ls ∈ lss, P (skwD ls) = true ↔ IsSk m ls) ∧ FnBool (den T A) F_impl_field_isSkew [fldD m] [] (lss.map skwD) P := by
  classical
  refine ⟨fun x => decide (IsSk m x.numss), fun l hl => by show decide (IsSk m (skwD l).numss) = true ↔ _; rw [numss_skwD]; simp, fun x hx => by simp at hx; subst hx; rfl, fun x hx => by simp at hx, fun x hx => ?_, fun x hx => ?_⟩
  · obtain ⟨n, _, rfl⟩ := List.mem_map.1 hx; rfl
  · obtain ⟨l, hl, rfl⟩ := List.mem_map.1 hx
    have e := hi p m l hm (h l hl)
    show ask (den T A) _ _ = some (.bool (decide (IsSk m (skwD l).numss)))
    rw [numss_skwD]
    exact e
open Classical in
noncomputable def codeSk (p : Int) (l : List Int) (lss : List (List (List Int))) : Int := if ∃ (_ : IsP p) (m : Fp p), l = pad (row m) ∧ Fld m ∧ ∀ ls ∈ lss, IsSk m ls then 0 else 1
theorem fld_code {p : Int} [IsP p] {m : Fp p} (hm : Fld m) {Q : ∀ (_ : IsP p), Fp p → Prop} : (∃ (ip : IsP p) (m' : Fp p), pad (row m) = pad (row m') ∧ Fld m' ∧ Q ip m') ↔ Q inferInstance m := by
  have h5 := hm.five
  constructor
  · rintro ⟨ip, m', e, h1, h2⟩
    have h6 := h1.five
    obtain rfl := (pad_row_inj (by omega) (by omega)).1 e
    exact h2
  · intro h; exact ⟨_, m, rfl, hm, h⟩
def C_skewsCode (O : Oracle) (F : Nat) : Prop := ∀ (p : Int) (l : List Int) (lss : List (List (List Int))), Bytes l → l.length = 64 → (∀ ls ∈ lss, Sk8 ls) → lss.length < 2000000 → ask O F [(D.int .i64 p), (D.arr 64 .leaf (ints .u8 l)), .sl (.arr 8 (.arr 64 .leaf)) (lss.map skwD)] = some (D.int .i64 (codeSk p l lss))
open Classical in
theorem c_skewsCode (hT : T F_impl_skewsCode = some ir_impl_skewsCode) (hif : C_isField (den T A)) (hfo : K_fieldOf (den T A)) (his : C_isSk (den T A)) (ha : C_allOf (den T A) F_impl_areAll_impl_Skew (.arr 8 (.arr 64 .leaf))) : C_skewsCode (den T A) F_impl_skewsCode := by
  intro p l lss hb hl h hlen
  have e1 := hif p l hb hl
  refine ask_of hT rfl ?_
  unfold codeSk
  by_cases hf : IsFld p l
  · rw [decide_eq_true hf] at e1
    obtain ⟨ip, m, rfl, hm⟩ := hf
    have h5 := hm.five
    have e2 := hfo p m (by omega)
    obtain ⟨P, hP, hF⟩ := fn_isSk (m := m) (by omega) h his
    have e3 := ha _ _ _ _ _ hF (fun x hx => by obtain ⟨n, _, rfl⟩ := List.mem_map.1 hx; rfl) (by rw [List.length_map]; exact hlen)
    have hall : (lss.map skwD).all P = true ↔ ∀ ls ∈ lss, IsSk m ls := by
      rw [List.all_eq_true]
      constructor
      · intro h2 l hl; exact (hP l hl).1 (h2 _ (List.mem_map_of_mem hl))
      · intro h2 x hx
        obtain ⟨l, hl, rfl⟩ := List.mem_map.1 hx
        exact (hP l hl).2 (h2 l hl)
    have hc := (fld_code hm (Q := fun ip m' => ∀ ls ∈ lss, @IsSk p ip m' ls)).trans hall.symm
    cases hb1 : (lss.map skwD).all P
    · rw [hb1] at e3 hc
      rw [if_neg (fun h => by have := hc.1 h; cases this)]
      generalize pad (row m) = Pm at *
      generalize lss.map skwD = LD at *
      simp -implicitDefEqProofs [ir_impl_skewsCode, ir_impl_skewsCode_B, dn_cond, e1, e2, e3]
    · rw [hb1] at e3 hc
      rw [if_pos (hc.2 rfl)]
      generalize pad (row m) = Pm at *
      generalize lss.map skwD = LD at *
      simp -implicitDefEqProofs [ir_impl_skewsCode, ir_impl_skewsCode_B, dn_cond, e1, e2, e3]
  · rw [decide_eq_false hf] at e1
    rw [if_neg (fun ⟨ip, m, e, hm, _⟩ => hf ⟨ip, m, e, hm⟩)]
    generalize lss.map skwD = LD at *
    simp -implicitDefEqProofs [ir_impl_skewsCode, ir_impl_skewsCode_B, dn_cond, e1]
end Pe

namespace Pe
open Go Gq
variable {T : Nat → Option Fn} {A : Oracle}
theorem sk8_get {ls : List (List Int)} (h : Sk8 ls) {i : Nat} (hi : i < 8) : ∃ l, l ∈ ls ∧ (ls.map arr8)[i]? = some (D.arr 64 .leaf (ints .u8 l)) ∧ Bytes l ∧ l.length = 64 ∧ ls[i]? = some l := by
  have hlt : i < ls.length := by rw [h.2]; exact hi
  have hm := List.getElem_mem hlt
  refine ⟨ls[i], hm, by rw [List.getElem?_map, List.getElem?_eq_getElem hlt]; rfl, (h.1 _ hm).2, (h.1 _ hm).1, List.getElem?_eq_getElem hlt⟩
theorem isSk_cons {p : Int} [IsP p] {m : Fp p} {l : List Int} {ls : List (List Int)} : IsSk m (l :: ls) ↔ IsRes m l ∧ IsSk m ls := by simp [IsSk]
theorem isSk_nil {p : Int} [IsP p] (m : Fp p) : IsSk m [] := fun _ h => by cases h
/-- Lists of skew polynomials. -/
def IsSks {p : Int} [IsP p] (m : Fp p) (lss : List (List (List Int))) : Prop := ∀ ls ∈ lss, IsSk m ls
theorem isSks_cons {p : Int} [IsP p] {m : Fp p} {l : List (List Int)} {ls : List (List (List Int))} : IsSks m (l :: ls) ↔ IsSk m l ∧ IsSks m ls := by simp [IsSks]
theorem isSks_nil {p : Int} [IsP p] (m : Fp p) : IsSks m [] := fun _ h => by cases h
open Classical in
theorem l_sIsSk {O : Oracle} (hr : C_sRes O) {p : Int} [IsP p] {m : Fp p} (hm : m.len ≤ 64) {ls : List (List Int)} (h : Sk8 ls) : ∀ (k i : Nat), i + k = 8 →
    dn O 0 (.loop ir_spec_l03Is_L0) ⟨[(0, (.d (.int .i64 p))), (4, .ptr 0 []), (5, .ptr 1 []), (7, (.d (.int .i64 i)))], [.box false (D.arr 64 .leaf (ints .u8 (pad (row m)))), .box false (.arr 8 (.arr 64 .leaf) (ls.map arr8))]⟩ =
      if IsSk m (ls.drop i) then some (.exit 0, ⟨[(0, (.d (.int .i64 p))), (4, .ptr 0 []), (5, .ptr 1 []), (7, (.d (.int .i64 8))), (9, (.d (.bool false)))], [.box false (D.arr 64 .leaf (ints .u8 (pad (row m)))), .box false (.arr 8 (.arr 64 .leaf) (ls.map arr8))]⟩) else some (.ret, ⟨[(6, (.d (.bool false)))], [.hole, .hole]⟩)
  | 0, i, hi => by
    obtain rfl : i = 8 := by omega
    rw [if_pos (by rw [List.drop_eq_nil_of_le (by rw [h.2]; omega)]; exact isSk_nil m)]
    refine dn_stop ?_
    generalize pad (row m) = Pm at *
    generalize ls.map arr8 = LD at *
    simp -implicitDefEqProofs [ir_spec_l03Is_L0, dn_cond]
  | k + 1, i, hi => by
    have hi8 : i < 8 := by omega
    have hi8' : (i : Int) < 8 := by omega
    obtain ⟨l, hl, hx, hb, h64, hli⟩ := sk8_get h hi8
    have e1 := hr p m l hm hb h64
    have hL : (ls.map arr8).length = 8 := by rw [List.length_map]; exact h.2
    have hx2 : ∀ h : i < (ls.map arr8).length, (ls.map arr8)[i]'h = (D.arr 64 .leaf (ints .u8 l)) := fun h => by rw [List.getElem?_eq_getElem h] at hx; exact Option.some.inj hx
    have w4 : IntKind.i64.wrap ((i : Int) + 1) = ((i + 1 : Nat) : Int) := (w64 (x := (i : Int) + 1) (by omega)).trans (by omega)
    have hlt : i < ls.length := by rw [h.2]; exact hi8
    have hd : ls.drop i = l :: ls.drop (i + 1) := by
      rw [List.drop_eq_getElem_cons hlt]
      rw [List.getElem?_eq_getElem hlt] at hli
      rw [Option.some.inj hli]
    have ih := l_sIsSk hr hm h k (i + 1) (by omega)
    rw [hd]
    by_cases hres : IsRes m l
    · rw [decide_eq_true hres] at e1
      have hiff : IsSk m (l :: ls.drop (i + 1)) ↔ IsSk m (ls.drop (i + 1)) := ⟨fun h => (isSk_cons.1 h).2, fun h => isSk_cons.2 ⟨hres, h⟩⟩
      rw [propext hiff]
      refine dn_round ?_ ih
      generalize pad (row m) = Pm at *
      generalize ls.map arr8 = LD at *
      simp -implicitDefEqProofs [ir_spec_l03Is_L0, dn_cond, hi8, hi8', hx2, hL, e1, w4]
    · rw [decide_eq_false hres] at e1
      rw [if_neg (fun h => hres (isSk_cons.1 h).1)]
      refine dn_back ?_
      generalize pad (row m) = Pm at *
      generalize ls.map arr8 = LD at *
      simp -implicitDefEqProofs [ir_spec_l03Is_L0, dn_cond, hi8, hi8', hx2, hL, e1]
open Classical in
def C_sIsSk (O : Oracle) : Prop := ∀ (p : Int) [IsP p] (m : Fp p) (ls : List (List Int)), m.len ≤ 64 → Sk8 ls → ask O F_spec_l03Is [(D.int .i64 p), (D.arr 64 .leaf (ints .u8 (pad (row m)))), skwD ls] = some (D.bool (decide (IsSk m ls)))
open Classical in
theorem c_sIsSk (hT : T F_spec_l03Is = some ir_spec_l03Is) (hr : C_sRes (den T A)) : C_sIsSk (den T A) := by
  intro p ip m ls hm h
  have e := l_sIsSk (O := den T A) hr hm h 8 0 rfl
  have e00 : ((0 : Nat) : Int) = 0 := rfl
  rw [e00, List.drop_zero] at e
  have hsk : skwD ls = .arr 8 (.arr 64 .leaf) (ls.map arr8) := rfl
  rw [hsk]
  refine ask_of hT rfl ?_
  by_cases hs : IsSk m ls
  · rw [if_pos hs] at e
    rw [decide_eq_true hs]
    generalize pad (row m) = Pm at *
    generalize ls.map arr8 = LD at *
    simp -implicitDefEqProofs [ir_spec_l03Is, ir_spec_l03Is_B, e, List.replicate]
  · rw [if_neg hs] at e
    rw [decide_eq_false hs]
    generalize pad (row m) = Pm at *
    generalize ls.map arr8 = LD at *
    simp -implicitDefEqProofs [ir_spec_l03Is, ir_spec_l03Is_B, e, List.replicate]
open Classical in
theorem l_sSkCode {O : Oracle} (hr : C_sIsSk O) {p : Int} [IsP p] {m : Fp p} (hm : m.len ≤ 64) {lss : List (List (List Int))} (h : ∀ ls ∈ lss, Sk8 ls) (hl : lss.length < 2000000) : ∀ (k i : Nat), i + k = lss.length →
    dn O 0 (.loop ir_spec_l03Code_L0) ⟨[(0, (.d (.int .i64 p))), (2, .d (.sl (.arr 8 (.arr 64 .leaf)) (lss.map skwD))), (4, .ptr 0 []), (7, (.d (.int .i64 i)))], [.box false (D.arr 64 .leaf (ints .u8 (pad (row m))))]⟩ =
      if IsSks m (lss.drop i) then some (.exit 0, ⟨[(0, (.d (.int .i64 p))), (2, .d (.sl (.arr 8 (.arr 64 .leaf)) (lss.map skwD))), (4, .ptr 0 []), (7, (.d (.int .i64 lss.length))), (15, (.d (.bool false)))], [.box false (D.arr 64 .leaf (ints .u8 (pad (row m))))]⟩) else some (.ret, ⟨[(6, (.d (.int .i64 1)))], [.hole]⟩)
  | 0, i, hi => by
    obtain rfl : i = lss.length := by omega
    rw [if_pos (by rw [List.drop_length]; exact isSks_nil m)]
    have hL : (lss.map skwD).length = lss.length := List.length_map ..
    refine dn_stop ?_
    generalize pad (row m) = Pm at *
    generalize lss.map skwD = LD at *
    simp -implicitDefEqProofs [ir_spec_l03Code_L0, dn_cond, hL]
  | k + 1, i, hi => by
    have hlt : i < lss.length := by omega
    have hm1 := List.getElem_mem hlt
    have e1 := hr p m lss[i] hm (h _ hm1)
    have hL : (lss.map skwD).length = lss.length := List.length_map ..
    have w4 : IntKind.i64.wrap ((i : Int) + 1) = ((i + 1 : Nat) : Int) := (w64 (x := (i : Int) + 1) (by omega)).trans (by omega)
    have hx2 : ∀ h : i < (lss.map skwD).length, (lss.map skwD)[i]'h = .arr 8 (.arr 64 .leaf) (lss[i].map arr8) := fun h => by rw [List.getElem_map]
    have hd : lss.drop i = lss[i] :: lss.drop (i + 1) := List.drop_eq_getElem_cons hlt
    have ih := l_sSkCode hr hm h hl k (i + 1) (by omega)
    rw [hd]
    have hsk : skwD lss[i] = .arr 8 (.arr 64 .leaf) (lss[i].map arr8) := rfl
    rw [hsk] at e1
    by_cases hres : IsSk m lss[i]
    · rw [decide_eq_true hres] at e1
      have hiff : IsSks m (lss[i] :: lss.drop (i + 1)) ↔ IsSks m (lss.drop (i + 1)) := ⟨fun h => (isSks_cons.1 h).2, fun h => isSks_cons.2 ⟨hres, h⟩⟩
      rw [propext hiff]
      refine dn_round ?_ ih
      generalize pad (row m) = Pm at *
      generalize lss.map skwD = LD at *
      simp -implicitDefEqProofs [ir_spec_l03Code_L0, dn_cond, hlt, hx2, hL, e1, w4]
    · rw [decide_eq_false hres] at e1
      rw [if_neg (fun h => hres (isSks_cons.1 h).1)]
      refine dn_back ?_
      generalize pad (row m) = Pm at *
      generalize lss.map skwD = LD at *
      simp -implicitDefEqProofs [ir_spec_l03Code_L0, dn_cond, hlt, hx2, hL, e1]
open Classical in
theorem c_sSkCode (hT : T F_spec_l03Code = some ir_spec_l03Code) (hf : C_sField (den T A)) (hi : C_sIsSk (den T A)) : C_skewsCode (den T A) F_spec_l03Code := by
  intro p l lss hb hl h hlen
  have e1 := hf p l hb hl
  refine ask_of hT rfl ?_
  unfold codeSk
  by_cases hfl : IsFld p l
  · rw [decide_eq_true hfl] at e1
    obtain ⟨ip, m, rfl, hm⟩ := hfl
    have h5 := hm.five
    have e2 := l_sSkCode (O := den T A) hi (m := m) (by omega) h hlen lss.length 0 (Nat.zero_add _)
    have e00 : ((0 : Nat) : Int) = 0 := rfl
    rw [e00, List.drop_zero] at e2
    have hc := fld_code hm (Q := fun ip m' => ∀ ls ∈ lss, @IsSk p ip m' ls)
    by_cases hs : IsSks m lss
    · rw [if_pos hs] at e2
      rw [if_pos (hc.2 hs)]
      generalize pad (row m) = Pm at *
      generalize lss.map skwD = LD at *
      simp -implicitDefEqProofs [ir_spec_l03Code, ir_spec_l03Code_B, dn_cond, e1, e2]
    · rw [if_neg hs] at e2
      rw [if_neg (fun h => hs (hc.1 h))]
      generalize pad (row m) = Pm at *
      generalize lss.map skwD = LD at *
      simp -implicitDefEqProofs [ir_spec_l03Code, ir_spec_l03Code_B, dn_cond, e1, e2]
  · rw [decide_eq_false hfl] at e1
    rw [if_neg (fun ⟨ip, m, e, hm, _⟩ => hfl ⟨ip, m, e, hm⟩)]
    generalize lss.map skwD = LD at *
    simp -implicitDefEqProofs [ir_spec_l03Code, ir_spec_l03Code_B, dn_cond, e1]
end Pe

namespace Pe
open Go Gq
variable {T : Nat → Option Fn} {A : Oracle}
theorem l_sFrob {O : Oracle} (hpw : K_sPowMod O) {p : Int} [IsP p] {m : Fp p} {z : List Int} (hm : m ≠ 0) (hml : m.len ≤ 64) : ∀ (k : Nat) (a : Fp p), k < 1000000 → a.len ≤ 64 →
    dn O 0 (.loop ir_spec_l03Frobenius_L0) ⟨[(0, (.d (.int .i64 p))), (5, .ptr 0 []), (7, .ptr 1 []), (8, .ptr 2 []), (9, (.d (.int .i64 k)))], [.box false (D.arr 64 .leaf (ints .u8 (pad (row a)))), .box false (D.arr 64 .leaf (ints .u8 (pad (row m)))), .box false (D.arr 64 .leaf (ints .u8 z))]⟩ =
      some (.exit 0, ⟨[(0, (.d (.int .i64 p))), (5, .ptr 0 []), (7, .ptr 1 []), (8, .ptr 2 []), (9, (.d (.int .i64 0))), (15, (.d (.bool false)))], [.box false (D.arr 64 .leaf (ints .u8 (pad (row (frIt m k a))))), .box false (D.arr 64 .leaf (ints .u8 (pad (row m)))), .box false (D.arr 64 .leaf (ints .u8 z))]⟩)
  | 0, a, hk, ha => by
    refine dn_stop ?_
    show _ = some (_, (⟨_, [.box false (D.arr 64 .leaf (ints .u8 (pad (row a)))), _, _]⟩ : St))
    generalize pad (row a) = Pa at *
    generalize pad (row m) = Pm at *
    simp -implicitDefEqProofs [ir_spec_l03Frobenius_L0, dn_cond]
  | k + 1, a, hk, ha => by
    have hp := IsP.pos (p := p)
    have hp7 := IsP.le (p := p)
    have w4 : IntKind.i64.wrap (((k + 1 : Nat) : Int) - 1) = (k : Int) := (w64 (x := ((k + 1 : Nat) : Int) - 1) (by omega)).trans (by omega)
    have hlt : (0 : Int) < ((k + 1 : Nat) : Int) := by omega
    have e1 := hpw p a p m hm ha hml (by omega) (by omega)
    have hl := Pol.len_mod (pw a p.toNat) hm
    refine dn_round ?_ (l_sFrob hpw hm hml k (pw a p.toNat % m) (by omega) (by omega))
    generalize ((k + 1 : Nat) : Int) = k1 at *
    generalize pad (row (pw a p.toNat % m)) = R at *
    generalize pad (row a) = Pa at *
    generalize pad (row m) = Pm at *
    simp -implicitDefEqProofs [ir_spec_l03Frobenius_L0, dn_cond, hlt, e1, w4]
def K_sFrob (O : Oracle) : Prop := ∀ (p : Int) [IsP p] (m a : Fp p) (k : Nat), 2 ≤ m.len → m.len ≤ 64 → a.len ≤ 64 → k < 1000000 → ask O F_spec_l03Frobenius [(D.int .i64 p), (D.arr 64 .leaf (ints .u8 (pad (row a)))), (D.int .i64 k), (D.arr 64 .leaf (ints .u8 (pad (row m))))] = some (D.arr 64 .leaf (ints .u8 (pad (row (frIt m (k % (m.len - 1)) a)))))
theorem k_sFrob (hT : T F_spec_l03Frobenius = some ir_spec_l03Frobenius) (hpw : K_sPowMod (den T A)) (hdg : K_sDeg (den T A)) : K_sFrob (den T A) := by
  intro p ip m a k h2 hml ha hk
  have hm : m ≠ 0 := fun h => by rw [h, Pol.len_zero] at h2; omega
  have e1 := hdg p m hml
  rw [show ((m.len : Int) - 1) = ((m.len - 1 : Nat) : Int) by omega] at e1
  have hlt := Nat.mod_lt k (show 0 < m.len - 1 by omega)
  have e2 := l_sFrob (O := den T A) (z := pad []) hpw hm hml (k % (m.len - 1)) a (by omega) ha
  have w1 : (k : Int).tmod ((m.len - 1 : Nat) : Int) = ((k % (m.len - 1) : Nat) : Int) := by rw [Int.tmod_eq_emod_of_nonneg (by omega)]; rfl
  have h0 : ((m.len - 1 : Nat) : Int) ≠ 0 := by omega
  refine ask_of hT rfl ?_
  generalize pad (row (frIt m (k % (m.len - 1)) a)) = R at *
  generalize ((k % (m.len - 1) : Nat) : Int) = n1 at *
  generalize ((m.len - 1 : Nat) : Int) = m1 at *
  generalize pad (row a) = Pa at *
  generalize pad (row m) = Pm at *
  simp -implicitDefEqProofs [ir_spec_l03Frobenius, ir_spec_l03Frobenius_B, e1, e2, w1, h0, List.replicate]
section
variable {p : Int}
open Classical in
noncomputable def stl (S : List (Fp p)) : Nat → Nat
  | 0 => 0
  | n + 1 => if S[n]? = some 0 then stl S n else n + 1
noncomputable def trimS (S : List (Fp p)) : List (Fp p) := S.take (stl S S.length)
theorem stl_le (S : List (Fp p)) : ∀ n, stl S n ≤ n
  | 0 => Nat.le_refl 0
  | n + 1 => by
    unfold stl
    split
    · have := stl_le S n; omega
    · omega
theorem stl_zero (S : List (Fp p)) : ∀ n j, stl S n ≤ j → j < n → S[j]? = some 0
  | 0, j, _, h => by omega
  | n + 1, j, h1, h2 => by
    unfold stl at h1
    split at h1
    · rename_i h0
      by_cases hj : j = n
      · rw [hj]; exact h0
      · exact stl_zero S n j h1 (by omega)
    · omega
end
section
variable {p : Int} [IsP p]
end
theorem l_sktrim {O : Oracle} {p : Int} [IsP p] {S : List (Fp p)} (hS : S.length < 100000) : ∀ n : Nat, n ≤ S.length →
    dn O 0 (.loop ir_impl_skew_trimmed_L0) ⟨[(0, .d (skD S)), (3, (.d (.int .i64 n)))], []⟩ = some (.exit 0, ⟨[(0, .d (skD S)), (3, (.d (.int .i64 (stl S n)))), (16, (.d (.bool false)))], []⟩)
  | 0, _ => dn_stop (by simp -implicitDefEqProofs [ir_impl_skew_trimmed_L0, dn_cond, stl])
  | n + 1, hn => by
    have hlt : n < S.length := by omega
    have w1 : IntKind.i64.wrap (((n + 1 : Nat) : Int) - 1) = (n : Int) := (w64 (x := ((n + 1 : Nat) : Int) - 1) (by omega)).trans (by omega)
    have h0 : (0 : Int) < ((n + 1 : Nat) : Int) := by omega
    unfold stl
    by_cases hz : S[n]? = some 0
    · rw [if_pos hz]
      rw [List.getElem?_eq_getElem hlt] at hz
      have hz' : S[n] = 0 := Option.some.inj hz
      have hlen : (S[n]).len = 0 := by rw [hz', Pol.len_zero]
      refine dn_round ?_ (l_sktrim hS n (by omega))
      generalize ((n + 1 : Nat) : Int) = n1 at *
      simp -implicitDefEqProofs [ir_impl_skew_trimmed_L0, dn_cond, hlt, w1, h0, hlen]
    · rw [if_neg hz]
      rw [List.getElem?_eq_getElem hlt] at hz
      have hlen : (S[n]).len ≠ 0 := fun h => hz (by rw [Pol.len_zero_iff.1 h])
      refine dn_stop ?_
      generalize ((n + 1 : Nat) : Int) = n1 at *
      simp -implicitDefEqProofs [ir_impl_skew_trimmed_L0, dn_cond, hlt, w1, h0, hlen]
def K_sktrim (O : Oracle) : Prop := ∀ (p : Int) [IsP p] (S : List (Fp p)), S.length < 100000 → ask O F_impl_skew_trimmed [skD S] = some (skD (trimS S))
theorem k_sktrim (hT : T F_impl_skew_trimmed = some ir_impl_skew_trimmed) : K_sktrim (den T A) := by
  intro p ip S hS
  have e := l_sktrim (O := den T A) hS S.length (Nat.le_refl _)
  have hle := stl_le S S.length
  have hL : (S.map fun c => (D.sl .leaf (ints .i64 (row c)))).length = S.length := List.length_map ..
  have e9 : skD (trimS S) = .sl .leaf ((S.map fun c => (D.sl .leaf (ints .i64 (row c)))).take (stl S S.length)) := by unfold trimS; rw [← List.map_take]
  have e8 : skD S = .sl .leaf (S.map fun c => (D.sl .leaf (ints .i64 (row c)))) := rfl
  rw [e9]
  rw [e8] at e ⊢
  refine ask_of hT rfl ?_
  generalize stl S S.length = n at *
  generalize (S.map fun c => (D.sl .leaf (ints .i64 (row c)))) = LD at *
  generalize S.length = sl at *
  subst hL
  simp -implicitDefEqProofs [ir_impl_skew_trimmed, ir_impl_skew_trimmed_B, e, hle]
theorem sk_of {p : Int} [IsP p] {m : Fp p} : ∀ {ls : List (List Int)}, IsSk m ls → ∃ S : List (Fp p), ls = S.map (fun a => pad (row a)) ∧ ∀ a ∈ S, a.len < m.len
  | [], _ => ⟨[], rfl, fun _ h => by cases h⟩
  | l :: ls, h => by
    obtain ⟨h1, h2⟩ := isSk_cons.1 h
    obtain ⟨a, ha, rfl⟩ := h1
    obtain ⟨S, rfl, hS⟩ := sk_of h2
    exact ⟨a :: S, rfl, by simpa using ⟨ha, hS⟩⟩
noncomputable abbrev skP {p : Int} (S : List (Fp p)) : List (List Int) := S.map fun a => pad (row a)
theorem l_skewOf {O : Oracle} (hro : K_rowOf O) {p : Int} [IsP p] {S : List (Fp p)} (h8 : S.length = 8) (hS : ∀ a ∈ S, a.len ≤ 64) : ∀ (k i : Nat) (cp : Option Nat), i + k = 8 → ∃ cp' : Option Nat,
    dn O 0 (.loop ir_impl_skewOf_L0) ⟨[(3, .sl 1 [] 0 i cp), (6, .d (.arr 8 (.arr 64 .leaf) ((skP S).map arr8))), (7, (.d (.int .i64 i)))], [.hole, .sl false .leaf ((S.take i).map fun c => (D.sl .leaf (ints .i64 (row c)))), .hole, .hole, .hole]⟩ =
      some (.exit 0, ⟨[(3, .sl 1 [] 0 8 cp'), (6, .d (.arr 8 (.arr 64 .leaf) ((skP S).map arr8))), (7, (.d (.int .i64 8))), (8, (.d (.bool false)))], [.hole, .sl false .leaf (S.map fun c => (D.sl .leaf (ints .i64 (row c)))), .hole, .hole, .hole]⟩)
  | 0, i, cp, hi => by
    obtain rfl : i = 8 := by omega
    rw [List.take_of_length_le (by omega)]
    refine ⟨cp, dn_stop ?_⟩
    generalize (skP S).map arr8 = LD at *
    generalize (S.map fun c => (D.sl .leaf (ints .i64 (row c)))) = LR at *
    simp -implicitDefEqProofs [ir_impl_skewOf_L0, dn_cond]
  | k + 1, i, cp, hi => by
    have hi8 : i < 8 := by omega
    have hi8' : (i : Int) < 8 := by omega
    have hlt : i < S.length := by omega
    have hm1 := List.getElem_mem hlt
    have e1 := hro p S[i] (hS _ hm1)
    have hL : ((skP S).map arr8).length = 8 := by rw [List.length_map, List.length_map]; exact h8
    have hx2 : ∀ h : i < ((skP S).map arr8).length, ((skP S).map arr8)[i]'h = (D.arr 64 .leaf (ints .u8 (pad (row S[i])))) := fun h => by rw [List.getElem_map, List.getElem_map]
    have w4 : IntKind.i64.wrap ((i : Int) + 1) = ((i + 1 : Nat) : Int) := (w64 (x := (i : Int) + 1) (by omega)).trans (by omega)
    have o1 : ((S.take (i + 1)).map fun c => (D.sl .leaf (ints .i64 (row c)))) = ((S.take i).map fun c => (D.sl .leaf (ints .i64 (row c)))) ++ [(D.sl .leaf (ints .i64 (row S[i])))] := by
      rw [List.take_succ_eq_append_getElem hlt, List.map_append]; rfl
    have hL2 : ((S.take i).map fun c => (D.sl .leaf (ints .i64 (row c)))).length = i := by rw [List.length_map, List.length_take]; omega
    have ht : ((S.take i).map fun c => (D.sl .leaf (ints .i64 (row c)))).take i = ((S.take i).map fun c => (D.sl .leaf (ints .i64 (row c)))) := List.take_of_length_le (by omega)
    have h24 : (i + 1) * 24 ≤ 1099511627776 := by omega
    obtain ⟨cp', ih⟩ := l_skewOf hro h8 hS k (i + 1) none (by omega)
    rw [o1] at ih
    refine ⟨cp', dn_round ?_ ih⟩
    generalize (skP S).map arr8 = LD at *
    generalize ((S.take i).map fun c => (D.sl .leaf (ints .i64 (row c)))) = LR at *
    generalize pad (row S[i]) = Pi at *
    generalize row S[i] = Ri at *
    simp -implicitDefEqProofs [ir_impl_skewOf_L0, dn_cond, hi8, hi8', hL, hx2, e1, w4, hL2, ht, h24, List.replicate]
def K_skewOf (O : Oracle) : Prop := ∀ (p : Int) [IsP p] (S : List (Fp p)), S.length = 8 → (∀ a ∈ S, a.len ≤ 64) → ask O F_impl_skewOf [skwD (skP S)] = some (skD (trimS S))
theorem k_skewOf (hT : T F_impl_skewOf = some ir_impl_skewOf) (hro : K_rowOf (den T A)) (htr : K_sktrim (den T A)) : K_skewOf (den T A) := by
  intro p ip S h8 hS
  obtain ⟨cp', e1⟩ := l_skewOf (O := den T A) hro h8 hS 8 0 (some 0) rfl
  have e00 : ((0 : Nat) : Int) = 0 := rfl
  rw [e00, List.take_zero, List.map_nil] at e1
  have e2 := htr p S (by omega)
  have hsk : skwD (skP S) = .arr 8 (.arr 64 .leaf) ((skP S).map arr8) := rfl
  have hs2 : skD S = .sl .leaf (S.map fun c => (D.sl .leaf (ints .i64 (row c)))) := rfl
  rw [hsk]
  rw [hs2] at e2
  have hL : (S.map fun c => (D.sl .leaf (ints .i64 (row c)))).length = 8 := by rw [List.length_map]; exact h8
  have ht : (S.map fun c => (D.sl .leaf (ints .i64 (row c)))).take 8 = (S.map fun c => (D.sl .leaf (ints .i64 (row c)))) := List.take_of_length_le (by omega)
  refine ask_of hT rfl ?_
  generalize (skP S).map arr8 = LD at *
  generalize (S.map fun c => (D.sl .leaf (ints .i64 (row c)))) = LR at *
  generalize skD (trimS S) = TD at *
  simp -implicitDefEqProofs [ir_impl_skewOf, ir_impl_skewOf_B, e1, e2, hL, ht, List.replicate]
end Pe

namespace Pe
open Go Gq
variable {T : Nat → Option Fn} {A : Oracle}
theorem map_polOf {p : Int} {S : List (Fp p)} (hS : ∀ a ∈ S, a.len ≤ 64) : (skP S).map (polOf p) = S := by
  unfold skP
  rw [List.map_map]
  conv => rhs; rw [← List.map_id S]
  exact List.map_congr_left fun a ha => polOf_pad (hS a ha)
theorem l_toSk {O : Oracle} (hp : C_toPoly O) {ls : List (List Int)} (h : Sk8 ls) {b1 : Blk} : ∀ (k i : Nat) (Q : List D), i + k = 8 → Q.length = 8 → (∀ d ∈ Q, d.sh.beq (.arr 64 .leaf) = true) → Q.take i = (ls.map arr8).take i →
    dn O 0 (.loop ir_laws_toSkew_L0) ⟨[(1, .ptr 0 []), (2, .ptr 1 []), (3, .ptr 2 []), (4, (.d (.int .i64 i)))], [.box false (.arr 8 (.arr 64 .leaf) (ls.map arr8)), b1, .box false (.arr 8 (.arr 64 .leaf) Q)]⟩ =
      some (.exit 0, ⟨[(1, .ptr 0 []), (2, .ptr 1 []), (3, .ptr 2 []), (4, (.d (.int .i64 8))), (6, (.d (.bool false)))], [.box false (.arr 8 (.arr 64 .leaf) (ls.map arr8)), b1, .box false (.arr 8 (.arr 64 .leaf) (ls.map arr8))]⟩)
  | 0, i, Q, hi, hq, hQ, ht => by
    obtain rfl : i = 8 := by omega
    rw [List.take_of_length_le (by omega), List.take_of_length_le (by rw [List.length_map, h.2]; omega)] at ht
    subst ht
    refine dn_stop ?_
    generalize ls.map arr8 = LD at *
    simp -implicitDefEqProofs [ir_laws_toSkew_L0, dn_cond]
  | k + 1, i, Q, hi, hq, hQ, ht => by
    have hi8 : i < 8 := by omega
    have hi8' : (i : Int) < 8 := by omega
    have hsh : ∀ h : i < Q.length, (Q[i]'h).sh.beq (.arr 64 .leaf) = true := fun h => hQ _ (List.getElem_mem h)
    obtain ⟨l, hl, hx, hb, h64, hli⟩ := sk8_get h hi8
    have e1 := hp l hb h64
    have hL : (ls.map arr8).length = 8 := by rw [List.length_map]; exact h.2
    have hx2 : ∀ h : i < (ls.map arr8).length, (ls.map arr8)[i]'h = (D.arr 64 .leaf (ints .u8 l)) := fun h => by rw [List.getElem?_eq_getElem h] at hx; exact Option.some.inj hx
    have w4 : IntKind.i64.wrap ((i : Int) + 1) = ((i + 1 : Nat) : Int) := (w64 (x := (i : Int) + 1) (by omega)).trans (by omega)
    refine dn_round ?_ (l_toSk hp h k (i + 1) (Q.set i (D.arr 64 .leaf (ints .u8 l))) (by omega) (by rw [List.length_set]; exact hq) (fun d hd => by
      rcases List.mem_or_eq_of_mem_set hd with h1 | rfl
      · exact hQ d h1
      · rfl) (by
      rw [List.take_succ_eq_append_getElem (show i < (ls.map arr8).length by omega), List.take_succ_eq_append_getElem (by rw [List.length_set]; omega), List.getElem_set_self, List.take_set, List.set_eq_of_length_le (by rw [List.length_take]; omega), ht, hx2]))
    generalize ls.map arr8 = LD at *
    simp -implicitDefEqProofs [ir_laws_toSkew_L0, dn_cond, hi8, hi8', hL, hx2, hq, hsh, e1, w4]
def C_toSk (O : Oracle) : Prop := ∀ ls : List (List Int), Sk8 ls → ask O F_laws_toSkew [skwD ls] = some (skwD ls)
theorem c_toSk (hT : T F_laws_toSkew = some ir_laws_toSkew) (hp : C_toPoly (den T A)) : C_toSk (den T A) := by
  intro ls h
  have e := l_toSk (O := den T A) hp h (b1 := .box false (.arr 8 (.arr 64 .leaf) z8)) 8 0 z8 rfl rfl (fun d hd => by rw [List.eq_of_mem_replicate hd]; rfl) (by rw [List.take_zero, List.take_zero])
  have e00 : ((0 : Nat) : Int) = 0 := rfl
  rw [e00] at e
  have hskd : skwD ls = .arr 8 (.arr 64 .leaf) (ls.map arr8) := rfl
  rw [hskd]
  refine ask_of hT rfl ?_
  generalize ls.map arr8 = LD at *
  simp -implicitDefEqProofs [ir_laws_toSkew, ir_laws_toSkew_B, e, List.replicate]
theorem flats_arr8 : ∀ ls : List (List Int), D.flats (ls.map arr8) = true
  | [] => rfl
  | l :: ls => by
    show (D.flats (ints .u8 l) && D.flats (ls.map arr8)) = true
    rw [flats_arr8 ls, flats_ints]; rfl
end Pe

namespace Pe
open Go Gq
variable {T : Nat → Option Fn} {A : Oracle}
section
variable {p : Int}
/-- One place of a list gets more. -/
noncomputable def addAt (Q : List (Fp p)) (n : Nat) (v : Fp p) : List (Fp p) := Q.set n ((Q[n]?).getD 0 + v)
theorem addAt_length (Q : List (Fp p)) (n : Nat) (v : Fp p) : (addAt Q n v).length = Q.length := by unfold addAt; rw [List.length_set]
end
section
variable {p : Int} [IsP p]
noncomputable def byIn (m x : Fp p) (i : Nat) : Nat → List (Fp p) → List (Fp p) → List (Fp p)
  | _, [], Q => Q
  | k, y :: ys, Q => byIn m x i (k + 1) ys (addAt Q (i + k) (x * frIt m (i % (m.len - 1)) y % m))
noncomputable def byOut (m : Fp p) (b : List (Fp p)) : Nat → List (Fp p) → List (Fp p) → List (Fp p)
  | _, [], Q => Q
  | i, x :: xs, Q => byOut m b (i + 1) xs (byIn m x i 0 b Q)
theorem byIn_length (m x : Fp p) (i : Nat) : ∀ (k : Nat) (b Q : List (Fp p)), (byIn m x i k b Q).length = Q.length
  | _, [], _ => rfl
  | k, y :: ys, Q => by
    show (byIn m x i (k + 1) ys (addAt Q (i + k) _)).length = _
    rw [byIn_length, addAt_length]
theorem byOut_length (m : Fp p) (b : List (Fp p)) : ∀ (i : Nat) (a Q : List (Fp p)), (byOut m b i a Q).length = Q.length
  | _, [], _ => rfl
  | i, x :: xs, Q => by
    show (byOut m b (i + 1) xs (byIn m x i 0 b Q)).length = _
    rw [byOut_length, byIn_length]
end
theorem l_sSkDeg {O : Oracle} {p : Int} [IsP p] {S : List (Fp p)} (h8 : S.length = 8) (hS : ∀ a ∈ S, a.len ≤ 64) : ∀ n : Nat, n ≤ 8 →
    dn O 0 (.loop ir_spec_l03Deg_L0) ⟨[(1, .ptr 0 []), (3, (.d (.int .i64 ((n : Int) - 1))))], [.box false (.arr 8 (.arr 64 .leaf) ((skP S).map arr8))]⟩ =
      some (.exit 0, ⟨[(1, .ptr 0 []), (3, (.d (.int .i64 (((stl S n : Nat) : Int) - 1)))), (12, (.d (.bool false)))], [.box false (.arr 8 (.arr 64 .leaf) ((skP S).map arr8))]⟩)
  | 0, _ => by
    refine dn_stop ?_
    show _ = some (_, (⟨[_, (3, (.d (.int .i64 (((0 : Nat) : Int) - 1)))), _], _⟩ : St))
    generalize (skP S).map arr8 = LD at *
    simp -implicitDefEqProofs [ir_spec_l03Deg_L0, dn_cond]
  | n + 1, hn => by
    have hlt : n < S.length := by omega
    have hi8 : n < 8 := by omega
    have hm1 := List.getElem_mem hlt
    have hsl := hS _ hm1
    have hL : ((skP S).map arr8).length = 8 := by rw [List.length_map, List.length_map]; exact h8
    have hx2 : ∀ h : n < ((skP S).map arr8).length, ((skP S).map arr8)[n]'h = (D.arr 64 .leaf (ints .u8 (pad (row S[n])))) := fun h => by rw [List.getElem_map, List.getElem_map]
    have t3 : pad (row S[n]) = pad [] ↔ S[n] = 0 := by
      rw [← row_zero (p := p), pad_row_inj hsl (by rw [Pol.len_zero]; omega)]
    have e4 := beq_P (pad_length (row S[n])) (pad_length [])
    have t0 : ((n + 1 : Nat) : Int) - 1 = (n : Int) := by omega
    have w1 : IntKind.i64.wrap ((n : Int) - 1) = (n : Int) - 1 := w64 (by omega)
    rw [t0]
    unfold stl
    by_cases hz : S[n] = 0
    · rw [if_pos (by rw [List.getElem?_eq_getElem hlt, hz])]
      rw [decide_eq_true (t3.2 hz)] at e4
      refine dn_round ?_ (l_sSkDeg h8 hS n (by omega))
      generalize (skP S).map arr8 = LD at *
      generalize pad (row S[n]) = Pn at *
      simp -implicitDefEqProofs [ir_spec_l03Deg_L0, dn_cond, hi8, hL, hx2, e4, w1]
    · rw [if_neg (by rw [List.getElem?_eq_getElem hlt]; simpa using hz)]
      rw [decide_eq_false (fun h => hz (t3.1 h))] at e4
      rw [t0]
      refine dn_stop ?_
      generalize (skP S).map arr8 = LD at *
      generalize pad (row S[n]) = Pn at *
      simp -implicitDefEqProofs [ir_spec_l03Deg_L0, dn_cond, hi8, hL, hx2, e4]
def K_sSkDeg (O : Oracle) : Prop := ∀ (p : Int) [IsP p] (S : List (Fp p)), S.length = 8 → (∀ a ∈ S, a.len ≤ 64) → ask O F_spec_l03Deg [skwD (skP S)] = some (D.int .i64 (((stl S 8 : Nat) : Int) - 1))
theorem k_sSkDeg (hT : T F_spec_l03Deg = some ir_spec_l03Deg) : K_sSkDeg (den T A) := by
  intro p ip S h8 hS
  have e := l_sSkDeg (O := den T A) h8 hS 8 (Nat.le_refl _)
  have e0 : ((8 : Nat) : Int) - 1 = 7 := rfl
  rw [e0] at e
  have hsk : skwD (skP S) = .arr 8 (.arr 64 .leaf) ((skP S).map arr8) := rfl
  rw [hsk]
  refine ask_of hT rfl ?_
  generalize (skP S).map arr8 = LD at *
  simp -implicitDefEqProofs [ir_spec_l03Deg, ir_spec_l03Deg_B, e]
def K_skDeg (O : Oracle) : Prop := ∀ (p : Int) [IsP p] (S : List (Fp p)), S.length < 100000 → ask O F_impl_skew_degree [skD S] = some (D.int .i64 ((S.length : Int) - 1))
theorem k_skDeg (hT : T F_impl_skew_degree = some ir_impl_skew_degree) : K_skDeg (den T A) := by
  intro p ip S hS
  have w1 : IntKind.i64.wrap ((S.length : Int) - 1) = (S.length : Int) - 1 := w64 (by omega)
  refine ask_of hT rfl ?_
  simp -implicitDefEqProofs [ir_impl_skew_degree, ir_impl_skew_degree_B, w1]
/-- Filled up with zeros to eight. -/
noncomputable def pd8 {p : Int} (S : List (Fp p)) : List (Fp p) := S ++ List.replicate (8 - S.length) 0
theorem l_toldSk {O : Oracle} (hpo : K_poly O) {p : Int} [IsP p] {S : List (Fp p)} (h8 : S.length ≤ 8) (hS : ∀ a ∈ S, a.len ≤ 64) {b0 : Blk} : ∀ (k i : Nat), i + k = S.length →
    dn O 0 (.loop ir_impl_toldSkew_L0) ⟨[(2, .ptr 0 []), (4, .ptr 1 []), (11, .d (skD S)), (12, (.d (.int .i64 S.length))), (13, (.d (.int .i64 i)))], [b0, .box false (.arr 8 (.arr 64 .leaf) ((skP (pd8 (S.take i))).map arr8))]⟩ =
      some (.exit 0, ⟨[(2, .ptr 0 []), (4, .ptr 1 []), (11, .d (skD S)), (12, (.d (.int .i64 S.length))), (13, (.d (.int .i64 S.length))), (14, (.d (.bool false)))], [b0, .box false (.arr 8 (.arr 64 .leaf) ((skP (pd8 S)).map arr8))]⟩)
  | 0, i, hi => by
    obtain rfl : i = S.length := by omega
    rw [List.take_length]
    refine dn_stop ?_
    generalize (skP (pd8 S)).map arr8 = LD at *
    simp -implicitDefEqProofs [ir_impl_toldSkew_L0, dn_cond]
  | k + 1, i, hi => by
    have hlt : i < S.length := by omega
    have hi8 : i < 8 := by omega
    have hm1 := List.getElem_mem hlt
    have e1 := hpo p S[i] (hS _ hm1)
    have w4 : IntKind.i64.wrap ((i : Int) + 1) = ((i + 1 : Nat) : Int) := (w64 (x := (i : Int) + 1) (by omega)).trans (by omega)
    have hnew : (skP (pd8 (S.take (i + 1)))).map arr8 = ((skP (pd8 (S.take i))).map arr8).set i (D.arr 64 .leaf (ints .u8 (pad (row S[i])))) := by
      have hp : pd8 (S.take (i + 1)) = (pd8 (S.take i)).set i S[i] := by
        unfold pd8
        have l1 : (S.take i).length = i := by rw [List.length_take]; omega
        have l2 : (S.take (i + 1)).length = i + 1 := by rw [List.length_take]; omega
        rw [l1, l2, List.set_append_right _ _ (by omega), l1, Nat.sub_self, show 8 - i = (8 - (i + 1)) + 1 by omega, List.replicate_succ, List.set_cons_zero, List.take_succ_eq_append_getElem hlt, List.append_assoc]
        rfl
      rw [hp]
      unfold skP
      rw [List.map_set, List.map_set]
    have hL : ((skP (pd8 (S.take i))).map arr8).length = 8 := by
      rw [List.length_map, List.length_map]
      unfold pd8
      rw [List.length_append, List.length_replicate, List.length_take]; omega
    have hsh : ∀ h : i < ((skP (pd8 (S.take i))).map arr8).length, (((skP (pd8 (S.take i))).map arr8)[i]'h).sh.beq (.arr 64 .leaf) = true := fun h => by rw [List.getElem_map]; rfl
    have ih := l_toldSk hpo h8 hS (b0 := b0) k (i + 1) (by omega)
    rw [hnew] at ih
    refine dn_round ?_ ih
    generalize (skP (pd8 (S.take i))).map arr8 = LD at *
    generalize pad (row S[i]) = Pi at *
    simp -implicitDefEqProofs [ir_impl_toldSkew_L0, dn_cond, hlt, hi8, hL, hsh, e1, w4]
noncomputable def toldSkD {p : Int} (S : List (Fp p)) : D := if S.length ≤ 8 then .tup [skwD (skP (pd8 S)), (D.int .i64 0)] else .tup [skwD (skP (pd8 ([] : List (Fp p)))), (D.int .i64 3)]
theorem z8_eq {p : Int} : z8 = (skP (pd8 ([] : List (Fp p)))).map arr8 := by
  unfold pd8 skP
  rw [List.nil_append, List.map_replicate, List.map_replicate, row_zero]
  rfl
def K_toldSk (O : Oracle) : Prop := ∀ (p : Int) [IsP p] (S : List (Fp p)), S.length < 100000 → (∀ a ∈ S, a.len ≤ 64) → ask O F_impl_toldSkew [skD S] = some (toldSkD S)
theorem k_toldSk (hT : T F_impl_toldSkew = some ir_impl_toldSkew) (hdg : K_skDeg (den T A)) (hpo : K_poly (den T A)) : K_toldSk (den T A) := by
  intro p ip S hl hS
  have e1 := hdg p S hl
  unfold toldSkD
  refine ask_of hT rfl ?_
  by_cases h8 : S.length ≤ 8
  · rw [if_pos h8]
    have e2 := l_toldSk (O := den T A) hpo h8 hS (b0 := .box false (.arr 8 (.arr 64 .leaf) z8)) S.length 0 (Nat.zero_add _)
    have e00 : ((0 : Nat) : Int) = 0 := rfl
    rw [e00, List.take_zero, ← z8_eq] at e2
    have hlt : ¬ ((7 : Int) < (S.length : Int) - 1) := by omega
    have hsk : skwD (skP (pd8 S)) = .arr 8 (.arr 64 .leaf) ((skP (pd8 S)).map arr8) := rfl
    rw [hsk]
    have hsd : skD S = .sl .leaf (S.map fun c => (D.sl .leaf (ints .i64 (row c)))) := rfl
    have hL : (S.map fun c => (D.sl .leaf (ints .i64 (row c)))).length = S.length := List.length_map ..
    rw [hsd] at e1 e2 ⊢
    generalize (skP (pd8 S)).map arr8 = LD at *
    generalize (S.map fun c => (D.sl .leaf (ints .i64 (row c)))) = LR at *
    generalize (S.length : Int) - 1 = m1 at *
    simp -implicitDefEqProofs [ir_impl_toldSkew, ir_impl_toldSkew_B, dn_cond, e1, e2, hlt, hL, List.replicate]
  · rw [if_neg h8]
    have hlt : (7 : Int) < (S.length : Int) - 1 := by omega
    have hsk : skwD (skP (pd8 ([] : List (Fp p)))) = .arr 8 (.arr 64 .leaf) z8 := by rw [z8_eq (p := p)]
    rw [hsk]
    have hsd : skD S = .sl .leaf (S.map fun c => (D.sl .leaf (ints .i64 (row c)))) := rfl
    rw [hsd] at e1 ⊢
    generalize (S.map fun c => (D.sl .leaf (ints .i64 (row c)))) = LR at *
    generalize (S.length : Int) - 1 = m1 at *
    simp -implicitDefEqProofs [ir_impl_toldSkew, ir_impl_toldSkew_B, dn_cond, e1, hlt, List.replicate]
end Pe

namespace Pe
open Go Gq
variable {T : Nat → Option Fn} {A : Oracle}
theorem frIt_1000 {p : Int} [IsP p] {m y : Fp p} (hm : m ≠ 0) (hml : m.len ≤ 64) (hy : y.len ≤ 64) (k : Nat) : (frIt m k y).len ≤ 64 := by
  cases k with
  | zero => exact hy
  | succ k =>
    have := frIt_len hm k (pw y p.toNat % m) (Pol.len_mod _ hm)
    show (frIt m k (pw y p.toNat % m)).len ≤ 64
    omega
theorem l_by0 {O : Oracle} (hfr : K_frob O) (hpr : K_product O) (hco : K_combine2 O) {p : Int} [IsP p] {m x : Fp p} {a b : List (Fp p)} (h2 : 2 ≤ m.len) (hml : m.len ≤ 64) (hx : x.len ≤ 64) (hb : ∀ c ∈ b, c.len ≤ 64) {N i : Nat} (hN : N < 100000) (hi : i + b.length ≤ N) {cp : Option Nat} : ∀ (r k : Nat) (Q : List (Fp p)), k + r = b.length → Q.length = N → (∀ c ∈ Q, c.len ≤ 64) →
    (∀ c ∈ byIn m x i k (b.drop k) Q, c.len ≤ 64) ∧
    dn O 0 (.loop ir_impl_field_by_L0) ⟨[(2, .d (skD b)), (3, .ptr 0 []), (7, .sl 1 [] 0 N cp), (8, (.d (.int .i64 i))), (9, (.d (.sl .leaf (ints .i64 (row x))))), (27, .d (skD a)), (28, (.d (.int .i64 a.length))), (29, (.d (.int .i64 i))), (34, .d (skD b)), (35, (.d (.int .i64 b.length))), (36, (.d (.int .i64 k)))], [.box false (fldD m), .sl false .leaf (Q.map fun c => (D.sl .leaf (ints .i64 (row c))))]⟩ =
      some (.exit 2, ⟨[(2, .d (skD b)), (3, .ptr 0 []), (7, .sl 1 [] 0 N cp), (8, (.d (.int .i64 i))), (9, (.d (.sl .leaf (ints .i64 (row x))))), (27, .d (skD a)), (28, (.d (.int .i64 a.length))), (29, (.d (.int .i64 i))), (34, .d (skD b)), (35, (.d (.int .i64 b.length))), (36, (.d (.int .i64 b.length))), (37, (.d (.bool false)))], [.box false (fldD m), .sl false .leaf ((byIn m x i k (b.drop k) Q).map fun c => (D.sl .leaf (ints .i64 (row c))))]⟩)
  | 0, k, Q, hk, hq, hQ => by
    obtain rfl : k = b.length := by omega
    rw [List.drop_length]
    refine ⟨hQ, dn_stop ?_⟩
    show _ = some (_, (⟨_, [_, .sl false .leaf (Q.map fun c => (D.sl .leaf (ints .i64 (row c))))]⟩ : St))
    generalize (Q.map fun c => (D.sl .leaf (ints .i64 (row c)))) = LQ at *
    simp -implicitDefEqProofs [ir_impl_field_by_L0, dn_cond]
  | r + 1, k, Q, hk, hq, hQ => by
    have hm : m ≠ 0 := fun h => by rw [h, Pol.len_zero] at h2; omega
    have hlt : k < b.length := by omega
    have hm1 := List.getElem_mem hlt
    have hbk := hb _ hm1
    have hik : i + k < N := by omega
    have hikQ : i + k < Q.length := by omega
    have hq1 := hQ _ (List.getElem_mem hikQ)
    have w0 : IntKind.i64.wrap ((i : Int) + k) = ((i + k : Nat) : Int) := (w64 (x := (i : Int) + k) (by omega)).trans (by omega)
    have hs0 : (0 : Int) ≤ (i : Int) + k := by omega
    have hs1 : ((i : Int) + k).toNat = i + k := by omega
    have w4 : IntKind.i64.wrap ((k : Int) + 1) = ((k + 1 : Nat) : Int) := (w64 (x := (k : Int) + 1) (by omega)).trans (by omega)
    have e1 := hfr p m b[k] i h2 hml (by omega) (by omega)
    have hfl := frIt_1000 hm hml hbk (i % (m.len - 1))
    have e2 := hpr p m x (frIt m (i % (m.len - 1)) b[k]) hm hml (by omega) (by omega)
    have hl := Pol.len_mod (x * frIt m (i % (m.len - 1)) b[k]) hm
    have e3 := hco p Q[i + k] (x * frIt m (i % (m.len - 1)) b[k] % m) (by omega) (by omega)
    have hl2 := Pol.len_add_le (a := Q[i + k]) (b := x * frIt m (i % (m.len - 1)) b[k] % m) (n := 64) hq1 (by omega)
    have hadd : addAt Q (i + k) (x * frIt m (i % (m.len - 1)) b[k] % m) = Q.set (i + k) (Q[i + k] + x * frIt m (i % (m.len - 1)) b[k] % m) := by
      unfold addAt; rw [List.getElem?_eq_getElem hikQ]; rfl
    have hQ' : ∀ c ∈ addAt Q (i + k) (x * frIt m (i % (m.len - 1)) b[k] % m), c.len ≤ 64 := fun c hc => by
      rw [hadd] at hc
      rcases List.mem_or_eq_of_mem_set hc with h | rfl
      · exact hQ c h
      · exact hl2
    obtain ⟨g1, ih⟩ := l_by0 hfr hpr hco (a := a) h2 hml hx hb hN hi (cp := cp) r (k + 1) (addAt Q (i + k) (x * frIt m (i % (m.len - 1)) b[k] % m)) (by omega) (by rw [addAt_length]; exact hq) hQ'
    have hby : byIn m x i k (b.drop k) Q = byIn m x i (k + 1) (b.drop (k + 1)) (addAt Q (i + k) (x * frIt m (i % (m.len - 1)) b[k] % m)) := by
      rw [List.drop_eq_getElem_cons hlt]; rfl
    rw [hby]
    refine ⟨g1, dn_round ?_ ih⟩
    have hset : ((addAt Q (i + k) (x * frIt m (i % (m.len - 1)) b[k] % m)).map fun c => (D.sl .leaf (ints .i64 (row c)))) = (Q.map fun c => (D.sl .leaf (ints .i64 (row c)))).set (i + k) (D.sl .leaf (ints .i64 (row (Q[i + k] + x * frIt m (i % (m.len - 1)) b[k] % m)))) := by
      rw [hadd, List.map_set]
    rw [hset]
    have hLQ : (Q.map fun c => (D.sl .leaf (ints .i64 (row c)))).length = N := by rw [List.length_map]; exact hq
    have hx2 : ∀ h : i + k < (Q.map fun c => (D.sl .leaf (ints .i64 (row c)))).length, (Q.map fun c => (D.sl .leaf (ints .i64 (row c))))[i + k]'h = (D.sl .leaf (ints .i64 (row Q[i + k]))) := fun h => by rw [List.getElem_map]
    generalize row (Q[i + k] + x * frIt m (i % (m.len - 1)) b[k] % m) = R1 at *
    generalize row (x * frIt m (i % (m.len - 1)) b[k] % m) = R2 at *
    generalize row (frIt m (i % (m.len - 1)) b[k]) = R3 at *
    generalize row Q[i + k] = R4 at *
    generalize (Q.map fun c => (D.sl .leaf (ints .i64 (row c)))) = LQ at *
    simp -implicitDefEqProofs [ir_impl_field_by_L0, dn_cond, hlt, hik, hs0, hs1, hLQ, hx2, e1, e2, e3, w0, w4]
theorem l_by1 {O : Oracle} (hfr : K_frob O) (hpr : K_product O) (hco : K_combine2 O) {p : Int} [IsP p] {m : Fp p} {a b : List (Fp p)} (h2 : 2 ≤ m.len) (hml : m.len ≤ 64) (ha : ∀ c ∈ a, c.len ≤ 64) (hb : ∀ c ∈ b, c.len ≤ 64) {N : Nat} (hN : N < 100000) (hab : a.length + b.length ≤ N + 1) (hb1 : 1 ≤ b.length) {cp : Option Nat} : ∀ (r i : Nat) (Q : List (Fp p)), i + r = a.length → Q.length = N → (∀ c ∈ Q, c.len ≤ 64) →
    (∀ c ∈ byOut m b i (a.drop i) Q, c.len ≤ 64) ∧
    dn O 0 (.loop ir_impl_field_by_L1) ⟨[(2, .d (skD b)), (3, .ptr 0 []), (7, .sl 1 [] 0 N cp), (27, .d (skD a)), (28, (.d (.int .i64 a.length))), (29, (.d (.int .i64 i)))], [.box false (fldD m), .sl false .leaf (Q.map fun c => (D.sl .leaf (ints .i64 (row c))))]⟩ =
      some (.exit 0, ⟨[(2, .d (skD b)), (3, .ptr 0 []), (7, .sl 1 [] 0 N cp), (27, .d (skD a)), (28, (.d (.int .i64 a.length))), (29, (.d (.int .i64 a.length))), (30, (.d (.bool false)))], [.box false (fldD m), .sl false .leaf ((byOut m b i (a.drop i) Q).map fun c => (D.sl .leaf (ints .i64 (row c))))]⟩)
  | 0, i, Q, hi, hq, hQ => by
    obtain rfl : i = a.length := by omega
    rw [List.drop_length]
    refine ⟨hQ, dn_stop ?_⟩
    show _ = some (_, (⟨_, [_, .sl false .leaf (Q.map fun c => (D.sl .leaf (ints .i64 (row c))))]⟩ : St))
    generalize (Q.map fun c => (D.sl .leaf (ints .i64 (row c)))) = LQ at *
    simp -implicitDefEqProofs [ir_impl_field_by_L1, dn_cond]
  | r + 1, i, Q, hi, hq, hQ => by
    have hlt : i < a.length := by omega
    have hm1 := List.getElem_mem hlt
    have w4 : IntKind.i64.wrap ((i : Int) + 1) = ((i + 1 : Nat) : Int) := (w64 (x := (i : Int) + 1) (by omega)).trans (by omega)
    obtain ⟨g1, e1⟩ := l_by0 hfr hpr hco (a := a) h2 hml (ha _ hm1) hb hN (i := i) (by omega) (cp := cp) b.length 0 Q (Nat.zero_add _) hq hQ
    have e00 : ((0 : Nat) : Int) = 0 := rfl
    rw [e00, List.drop_zero] at e1
    rw [List.drop_zero] at g1
    obtain ⟨g2, ih⟩ := l_by1 hfr hpr hco h2 hml ha hb hN hab hb1 (cp := cp) r (i + 1) (byIn m a[i] i 0 b Q) (by omega) (by rw [byIn_length]; exact hq) g1
    have hby : byOut m b i (a.drop i) Q = byOut m b (i + 1) (a.drop (i + 1)) (byIn m a[i] i 0 b Q) := by
      rw [List.drop_eq_getElem_cons hlt]; rfl
    rw [hby]
    refine ⟨g2, dn_round ?_ ih⟩
    generalize ((byIn m a[i] i 0 b Q).map fun c => (D.sl .leaf (ints .i64 (row c)))) = LQ2 at *
    generalize (Q.map fun c => (D.sl .leaf (ints .i64 (row c)))) = LQ at *
    simp -implicitDefEqProofs [ir_impl_field_by_L1, dn_cond, hlt, e1, w4]
/-- The product, not trimmed. -/
noncomputable def mulS {p : Int} [IsP p] (m : Fp p) (a b : List (Fp p)) : List (Fp p) := byOut m b 0 a (List.replicate (a.length + b.length - 1) 0)
def K_by (O : Oracle) : Prop := ∀ (p : Int) [IsP p] (m : Fp p) (a b : List (Fp p)), 2 ≤ m.len → m.len ≤ 64 → (∀ c ∈ a, c.len ≤ 64) → (∀ c ∈ b, c.len ≤ 64) → a.length < 10000 → b.length < 10000 →
  ask O F_impl_field_by [fldD m, skD a, skD b] = some (if a.length = 0 ∨ b.length = 0 then skD ([] : List (Fp p)) else skD (trimS (mulS m a b)))
theorem k_by (hT : T F_impl_field_by = some ir_impl_field_by) (hfr : K_frob (den T A)) (hpr : K_product (den T A)) (hco : K_combine2 (den T A)) (htr : K_sktrim (den T A)) : K_by (den T A) := by
  intro p ip m a b h2 hml ha hb hal hbl
  have hsa : skD a = .sl .leaf (a.map fun c => (D.sl .leaf (ints .i64 (row c)))) := rfl
  have hsb : skD b = .sl .leaf (b.map fun c => (D.sl .leaf (ints .i64 (row c)))) := rfl
  have hLa : (a.map fun c => (D.sl .leaf (ints .i64 (row c)))).length = a.length := List.length_map ..
  have hLb : (b.map fun c => (D.sl .leaf (ints .i64 (row c)))).length = b.length := List.length_map ..
  by_cases h0 : a.length = 0 ∨ b.length = 0
  · rw [if_pos h0, hsa, hsb]
    refine ask_of hT rfl ?_
    generalize (a.map fun c => (D.sl .leaf (ints .i64 (row c)))) = LA at *
    generalize (b.map fun c => (D.sl .leaf (ints .i64 (row c)))) = LB at *
    rcases h0 with h0 | h0
    · rw [h0] at hLa
      simp -implicitDefEqProofs [ir_impl_field_by, ir_impl_field_by_B, dn_cond, hLa, hLb, List.replicate]
    · rw [h0] at hLb
      by_cases h1 : LA.length = 0
      · simp -implicitDefEqProofs [ir_impl_field_by, ir_impl_field_by_B, dn_cond, h1, hLb, List.replicate]
      · simp -implicitDefEqProofs [ir_impl_field_by, ir_impl_field_by_B, dn_cond, h1, hLb, List.replicate]
  · rw [if_neg h0]
    have ha1 : 1 ≤ a.length := by omega
    have hb1 : 1 ≤ b.length := by omega
    have hz : ((List.replicate (a.length + b.length - 1) (0 : Fp p)).map fun c => (D.sl .leaf (ints .i64 (row c)))) = List.replicate (a.length + b.length - 1) (.sl .leaf []) := by rw [List.map_replicate, row_zero, ints_nil]
    have hl0 : ∀ c ∈ List.replicate (a.length + b.length - 1) (0 : Fp p), c.len ≤ 64 := fun c hc => by rw [List.eq_of_mem_replicate hc, Pol.len_zero]; omega
    obtain ⟨g1, e1⟩ := l_by1 (O := den T A) hfr hpr hco h2 hml ha hb (N := a.length + b.length - 1) (by omega) (by omega) hb1 (cp := some (a.length + b.length - 1)) a.length 0 (List.replicate (a.length + b.length - 1) 0) (Nat.zero_add _) (List.length_replicate ..) hl0
    have e00 : ((0 : Nat) : Int) = 0 := rfl
    have em : byOut m b 0 (a.drop 0) (List.replicate (a.length + b.length - 1) 0) = mulS m a b := by rw [List.drop_zero]; rfl
    rw [e00, em, hz] at e1
    have hml2 : (mulS m a b).length = a.length + b.length - 1 := by unfold mulS; rw [byOut_length, List.length_replicate]
    have e2 := htr p (mulS m a b) (by omega)
    have hsm : skD (mulS m a b) = .sl .leaf ((mulS m a b).map fun c => (D.sl .leaf (ints .i64 (row c)))) := rfl
    have hLm : ((mulS m a b).map fun c => (D.sl .leaf (ints .i64 (row c)))).length = a.length + b.length - 1 := by rw [List.length_map]; exact hml2
    have ht : ((mulS m a b).map fun c => (D.sl .leaf (ints .i64 (row c)))).take (a.length + b.length - 1) = ((mulS m a b).map fun c => (D.sl .leaf (ints .i64 (row c)))) := List.take_of_length_le (by omega)
    rw [hsm] at e2
    have n1 : ¬ ((a.length : Int) = 0) := by omega
    have n2 : ¬ ((b.length : Int) = 0) := by omega
    have n1' : a.length ≠ 0 := by omega
    have n2' : b.length ≠ 0 := by omega
    have w1 : IntKind.i64.wrap ((a.length : Int) + b.length) = (a.length : Int) + b.length := w64 (by omega)
    have w2 : IntKind.i64.wrap ((a.length : Int) + b.length - 1) = ((a.length + b.length - 1 : Nat) : Int) := (w64 (by omega)).trans (by omega)
    have h24 : (a.length + b.length - 1) * 24 ≤ 1099511627776 := by omega
    generalize skD (trimS (mulS m a b)) = TD at *
    rw [hsa, hsb] at e1 ⊢
    refine ask_of hT rfl ?_
    generalize ((mulS m a b).map fun c => (D.sl .leaf (ints .i64 (row c)))) = LM at *
    generalize (a.map fun c => (D.sl .leaf (ints .i64 (row c)))) = LA at *
    generalize (b.map fun c => (D.sl .leaf (ints .i64 (row c)))) = LB at *
    generalize a.length + b.length - 1 = N at *
    simp -implicitDefEqProofs [ir_impl_field_by, ir_impl_field_by_B, dn_cond, hLa, hLb, n1, n2, n1', n2', w1, w2, h24, e1, e2, hLm, ht, List.replicate, ints_nil]
end Pe

namespace Pe
open Go Gq
variable {T : Nat → Option Fn} {A : Oracle}
theorem skP_get {p : Int} {S : List (Fp p)} {i : Nat} (hi : i < S.length) : ∀ h : i < ((skP S).map arr8).length, ((skP S).map arr8)[i]'h = (D.arr 64 .leaf (ints .u8 (pad (row S[i])))) := fun h => by rw [List.getElem_map, List.getElem_map]
theorem skP_len {p : Int} (S : List (Fp p)) : ((skP S).map arr8).length = S.length := by rw [List.length_map, List.length_map]
theorem l_sBy0 {O : Oracle} (hfr : K_sFrob O) (hmm : K_sMulMod O) (had : K_sAdd O) {p : Int} [IsP p] {m : Fp p} {S R : List (Fp p)} {z : List D} {vn : V} (hvn : vn.refs = []) (h2 : 2 ≤ m.len) (hml : m.len ≤ 64) (hS8 : S.length = 8) (hR8 : R.length = 8) (hS : ∀ c ∈ S, c.len < m.len) (hR : ∀ c ∈ R, c.len < m.len) {i nb : Nat} (hi : i < 8) (hnb : i + nb ≤ 8) (hnb1 : 1 ≤ nb) {x : Fp p} (hx : S[i]? = some x) : ∀ (r j : Nat) (Q : List (Fp p)), j + r = nb → Q.length = 8 → (∀ c ∈ Q, c.len < m.len) →
    (∀ c ∈ byIn m x i j ((R.take nb).drop j) Q, c.len < m.len) ∧
    dn O 0 (.loop ir_spec_l03Times_L0) ⟨[(0, (.d (.int .i64 p))), (5, .ptr 0 []), (6, .ptr 1 []), (7, .ptr 2 []), (8, .ptr 3 []), (10, vn), (11, (.d (.int .i64 (((nb - 1 : Nat) : Int))))), (12, .ptr 4 []), (13, (.d (.int .i64 i))), (14, (.d (.int .i64 j)))], [.box false (D.arr 64 .leaf (ints .u8 (pad (row m)))), .box false (.arr 8 (.arr 64 .leaf) ((skP S).map arr8)), .box false (.arr 8 (.arr 64 .leaf) ((skP R).map arr8)), .box false (.arr 8 (.arr 64 .leaf) z), .box false (.arr 8 (.arr 64 .leaf) ((skP Q).map arr8)), .hole]⟩ =
      some (.exit 2, ⟨[(0, (.d (.int .i64 p))), (5, .ptr 0 []), (6, .ptr 1 []), (7, .ptr 2 []), (8, .ptr 3 []), (10, vn), (11, (.d (.int .i64 (((nb - 1 : Nat) : Int))))), (12, .ptr 4 []), (13, (.d (.int .i64 i))), (14, (.d (.int .i64 nb))), (40, (.d (.bool false)))], [.box false (D.arr 64 .leaf (ints .u8 (pad (row m)))), .box false (.arr 8 (.arr 64 .leaf) ((skP S).map arr8)), .box false (.arr 8 (.arr 64 .leaf) ((skP R).map arr8)), .box false (.arr 8 (.arr 64 .leaf) z), .box false (.arr 8 (.arr 64 .leaf) ((skP (byIn m x i j ((R.take nb).drop j) Q)).map arr8)), .hole]⟩)
  | 0, j, Q, hj, hq, hQ => by
    obtain rfl : j = nb := by omega
    rw [List.drop_eq_nil_of_le (by rw [List.length_take]; omega)]
    have hlt : ¬ (j : Int) ≤ ((j - 1 : Nat) : Int) := by omega
    refine ⟨hQ, dn_stop ?_⟩
    show _ = some (_, (⟨_, [_, _, _, _, .box false (.arr 8 (.arr 64 .leaf) ((skP Q).map arr8)), _]⟩ : St))
    generalize ((j - 1 : Nat) : Int) = k1 at *
    generalize (skP S).map arr8 = LS at *
    generalize (skP R).map arr8 = LR at *
    generalize (skP Q).map arr8 = LQ at *
    generalize pad (row m) = Pm at *
    simp -implicitDefEqProofs [ir_spec_l03Times_L0, dn_cond, hlt, hvn]
  | r + 1, j, Q, hj, hq, hQ => by
    have hm : m ≠ 0 := fun h => by rw [h, Pol.len_zero] at h2; omega
    have hj8 : j < 8 := by omega
    have hij : i + j < 8 := by omega
    have hjR : j < R.length := by omega
    have hiS : i < S.length := by omega
    have hikQ : i + j < Q.length := by omega
    have hRj := hR _ (List.getElem_mem hjR)
    have hxe : S[i] = x := by rw [List.getElem?_eq_getElem hiS] at hx; exact Option.some.inj hx
    have hxl : x.len < m.len := by rw [← hxe]; exact hS _ (List.getElem_mem hiS)
    have hq1 := hQ _ (List.getElem_mem hikQ)
    have hle : (j : Int) ≤ ((nb - 1 : Nat) : Int) := by omega
    have w0 : IntKind.i64.wrap ((i : Int) + j) = ((i + j : Nat) : Int) := (w64 (x := (i : Int) + j) (by omega)).trans (by omega)
    have hs0 : (0 : Int) ≤ (i : Int) + j := by omega
    have hs1 : ((i : Int) + j).toNat = i + j := by omega
    have w4 : IntKind.i64.wrap ((j : Int) + 1) = ((j + 1 : Nat) : Int) := (w64 (x := (j : Int) + 1) (by omega)).trans (by omega)
    have e1 := hfr p m R[j] i h2 hml (by omega) (by omega)
    have hfl := frIt_len hm (i % (m.len - 1)) R[j] hRj
    have e2 := hmm p x (frIt m (i % (m.len - 1)) R[j]) m hm hml (by omega) (by omega)
    have hl := Pol.len_mod (x * frIt m (i % (m.len - 1)) R[j]) hm
    have e3 := had p 1 Q[i + j] (x * frIt m (i % (m.len - 1)) R[j] % m) (by omega) (by omega) (by omega) (by omega)
    rw [zp_one, Pol.C_one, Gq.one_mul] at e3
    have hl2 := Pol.len_add_le (a := Q[i + j]) (b := x * frIt m (i % (m.len - 1)) R[j] % m) (n := m.len - 1) (by omega) (by omega)
    have hadd : addAt Q (i + j) (x * frIt m (i % (m.len - 1)) R[j] % m) = Q.set (i + j) (Q[i + j] + x * frIt m (i % (m.len - 1)) R[j] % m) := by
      unfold addAt; rw [List.getElem?_eq_getElem hikQ]; rfl
    have hQ' : ∀ c ∈ addAt Q (i + j) (x * frIt m (i % (m.len - 1)) R[j] % m), c.len < m.len := fun c hc => by
      rw [hadd] at hc
      rcases List.mem_or_eq_of_mem_set hc with h | rfl
      · exact hQ c h
      · omega
    obtain ⟨g1, ih⟩ := l_sBy0 hfr hmm had (z := z) hvn h2 hml hS8 hR8 hS hR hi hnb hnb1 hx r (j + 1) (addAt Q (i + j) (x * frIt m (i % (m.len - 1)) R[j] % m)) (by omega) (by rw [addAt_length]; exact hq) hQ'
    have hby : byIn m x i j ((R.take nb).drop j) Q = byIn m x i (j + 1) ((R.take nb).drop (j + 1)) (addAt Q (i + j) (x * frIt m (i % (m.len - 1)) R[j] % m)) := by
      rw [List.drop_eq_getElem_cons (by rw [List.length_take]; omega), List.getElem_take]; rfl
    rw [hby]
    refine ⟨g1, dn_round ?_ ih⟩
    have hset : (skP (addAt Q (i + j) (x * frIt m (i % (m.len - 1)) R[j] % m))).map arr8 = ((skP Q).map arr8).set (i + j) (D.arr 64 .leaf (ints .u8 (pad (row (Q[i + j] + x * frIt m (i % (m.len - 1)) R[j] % m))))) := by
      rw [hadd]; unfold skP; rw [List.map_set, List.map_set]
    rw [hset]
    have hLS := skP_len S
    have hLR := skP_len R
    have hLQ := skP_len Q
    rw [hS8] at hLS
    rw [hR8] at hLR
    rw [hq] at hLQ
    have hxS := skP_get hiS
    rw [hxe] at hxS
    have hxR := skP_get hjR
    have hxQ := skP_get hikQ
    generalize pad (row (Q[i + j] + x * frIt m (i % (m.len - 1)) R[j] % m)) = P1 at *
    generalize pad (row (x * frIt m (i % (m.len - 1)) R[j] % m)) = P2 at *
    generalize pad (row (frIt m (i % (m.len - 1)) R[j])) = P3 at *
    generalize pad (row Q[i + j]) = P4 at *
    generalize pad (row R[j]) = P5 at *
    generalize pad (row x) = P6 at *
    generalize (skP S).map arr8 = LS at *
    generalize (skP R).map arr8 = LR at *
    generalize (skP Q).map arr8 = LQ at *
    generalize pad (row m) = Pm at *
    generalize ((nb - 1 : Nat) : Int) = k1 at *
    simp -implicitDefEqProofs [ir_spec_l03Times_L0, dn_cond, hle, hi, hj8, hij, hs0, hs1, hLS, hLR, hLQ, hxS, hxR, hxQ, e1, e2, e3, w0, w4, hvn]
end Pe

namespace Pe
open Go Gq
variable {T : Nat → Option Fn} {A : Oracle}
theorem l_sBy1 {O : Oracle} (hfr : K_sFrob O) (hmm : K_sMulMod O) (had : K_sAdd O) {p : Int} [IsP p] {m : Fp p} {S R : List (Fp p)} {z : List D} (h2 : 2 ≤ m.len) (hml : m.len ≤ 64) (hS8 : S.length = 8) (hR8 : R.length = 8) (hS : ∀ c ∈ S, c.len < m.len) (hR : ∀ c ∈ R, c.len < m.len) {na nb : Nat} (hna : 1 ≤ na) (hnb : 1 ≤ nb) (hab : na + nb ≤ 9) : ∀ (r i : Nat) (Q : List (Fp p)), i + r = na → Q.length = 8 → (∀ c ∈ Q, c.len < m.len) →
    (∀ c ∈ byOut m (R.take nb) i ((S.take na).drop i) Q, c.len < m.len) ∧
    dn O 0 (.loop ir_spec_l03Times_L1) ⟨[(0, (.d (.int .i64 p))), (5, .ptr 0 []), (6, .ptr 1 []), (7, .ptr 2 []), (8, .ptr 3 []), (10, (.d (.int .i64 (((na - 1 : Nat) : Int))))), (11, (.d (.int .i64 (((nb - 1 : Nat) : Int))))), (12, .ptr 4 []), (13, (.d (.int .i64 i)))], [.box false (D.arr 64 .leaf (ints .u8 (pad (row m)))), .box false (.arr 8 (.arr 64 .leaf) ((skP S).map arr8)), .box false (.arr 8 (.arr 64 .leaf) ((skP R).map arr8)), .box false (.arr 8 (.arr 64 .leaf) z), .box false (.arr 8 (.arr 64 .leaf) ((skP Q).map arr8)), .hole]⟩ =
      some (.exit 0, ⟨[(0, (.d (.int .i64 p))), (5, .ptr 0 []), (6, .ptr 1 []), (7, .ptr 2 []), (8, .ptr 3 []), (10, (.d (.int .i64 (((na - 1 : Nat) : Int))))), (11, (.d (.int .i64 (((nb - 1 : Nat) : Int))))), (12, .ptr 4 []), (13, (.d (.int .i64 na))), (35, (.d (.bool false)))], [.box false (D.arr 64 .leaf (ints .u8 (pad (row m)))), .box false (.arr 8 (.arr 64 .leaf) ((skP S).map arr8)), .box false (.arr 8 (.arr 64 .leaf) ((skP R).map arr8)), .box false (.arr 8 (.arr 64 .leaf) z), .box false (.arr 8 (.arr 64 .leaf) ((skP (byOut m (R.take nb) i ((S.take na).drop i) Q)).map arr8)), .hole]⟩)
  | 0, i, Q, hi, hq, hQ => by
    obtain rfl : i = na := by omega
    rw [List.drop_eq_nil_of_le (by rw [List.length_take]; omega)]
    have hlt : ¬ (i : Int) ≤ ((i - 1 : Nat) : Int) := by omega
    refine ⟨hQ, dn_stop ?_⟩
    show _ = some (_, (⟨_, [_, _, _, _, .box false (.arr 8 (.arr 64 .leaf) ((skP Q).map arr8)), _]⟩ : St))
    generalize ((i - 1 : Nat) : Int) = k1 at *
    generalize ((nb - 1 : Nat) : Int) = k2 at *
    generalize (skP S).map arr8 = LS at *
    generalize (skP R).map arr8 = LR at *
    generalize (skP Q).map arr8 = LQ at *
    generalize pad (row m) = Pm at *
    simp -implicitDefEqProofs [ir_spec_l03Times_L1, dn_cond, hlt]
  | r + 1, i, Q, hi, hq, hQ => by
    have hin : i < (S.take na).length := by rw [List.length_take]; omega
    have hiS : i < S.length := by omega
    have hle : (i : Int) ≤ ((na - 1 : Nat) : Int) := by omega
    have w4 : IntKind.i64.wrap ((i : Int) + 1) = ((i + 1 : Nat) : Int) := (w64 (x := (i : Int) + 1) (by omega)).trans (by omega)
    obtain ⟨g1, e1⟩ := l_sBy0 (O := O) hfr hmm had (z := z) (vn := (.d (.int .i64 (((na - 1 : Nat) : Int))))) rfl h2 hml hS8 hR8 hS hR (i := i) (nb := nb) (by omega) (by omega) hnb (x := S[i]) (List.getElem?_eq_getElem hiS) nb 0 Q (Nat.zero_add _) hq hQ
    have e00 : ((0 : Nat) : Int) = 0 := rfl
    rw [e00, List.drop_zero] at e1
    rw [List.drop_zero] at g1
    obtain ⟨g2, ih⟩ := l_sBy1 hfr hmm had (z := z) h2 hml hS8 hR8 hS hR hna hnb hab r (i + 1) (byIn m S[i] i 0 (R.take nb) Q) (by omega) (by rw [byIn_length]; exact hq) g1
    have hby : byOut m (R.take nb) i ((S.take na).drop i) Q = byOut m (R.take nb) (i + 1) ((S.take na).drop (i + 1)) (byIn m S[i] i 0 (R.take nb) Q) := by
      rw [List.drop_eq_getElem_cons hin, List.getElem_take]; rfl
    rw [hby]
    refine ⟨g2, dn_round ?_ ih⟩
    generalize (skP (byIn m S[i] i 0 (R.take nb) Q)).map arr8 = LQ2 at *
    generalize (skP S).map arr8 = LS at *
    generalize (skP R).map arr8 = LR at *
    generalize (skP Q).map arr8 = LQ at *
    generalize pad (row m) = Pm at *
    generalize ((nb - 1 : Nat) : Int) = k1 at *
    generalize ((na - 1 : Nat) : Int) = k2 at *
    simp -implicitDefEqProofs [ir_spec_l03Times_L1, dn_cond, hle, e1, w4]
noncomputable def zs8 {p : Int} : List (Fp p) := List.replicate 8 0
/-- What the reference's product answers. -/
noncomputable def timesD {p : Int} [IsP p] (m : Fp p) (S R : List (Fp p)) : D :=
  if (trimS S).length = 0 ∨ (trimS R).length = 0 then .tup [skwD (skP (zs8 (p := p))), (D.bool true)]
  else if 9 < (trimS S).length + (trimS R).length then .tup [skwD (skP (zs8 (p := p))), (D.bool false)]
  else .tup [skwD (skP (byOut m (trimS R) 0 (trimS S) zs8)), (D.bool true)]
theorem trimS_8 {p : Int} {S : List (Fp p)} (h : S.length = 8) : trimS S = S.take (stl S 8) := by unfold trimS; rw [h]
theorem trimS_len8 {p : Int} {S : List (Fp p)} (h : S.length = 8) : (trimS S).length = stl S 8 := by
  rw [trimS_8 h, List.length_take]; have := stl_le S 8; omega
def K_sTimes3 (O : Oracle) : Prop := ∀ (p : Int) [IsP p] (m : Fp p) (S R : List (Fp p)), 2 ≤ m.len → m.len ≤ 64 → S.length = 8 → R.length = 8 → (∀ c ∈ S, c.len < m.len) → (∀ c ∈ R, c.len < m.len) → ask O F_spec_l03Times [(D.int .i64 p), (D.arr 64 .leaf (ints .u8 (pad (row m)))), skwD (skP S), skwD (skP R)] = some (timesD m S R)
theorem z8_zs {p : Int} : (skP (zs8 (p := p))).map arr8 = z8 := by
  unfold skP zs8
  rw [List.map_replicate, List.map_replicate, row_zero]
  rfl
theorem k_sTimes3 (hT : T F_spec_l03Times = some ir_spec_l03Times) (hdg : K_sSkDeg (den T A)) (hfr : K_sFrob (den T A)) (hmm : K_sMulMod (den T A)) (had : K_sAdd (den T A)) : K_sTimes3 (den T A) := by
  intro p ip m S R h2 hml hS8 hR8 hS hR
  have e1 := hdg p S hS8 (fun a ha => by have := hS a ha; omega)
  have e2 := hdg p R hR8 (fun a ha => by have := hR a ha; omega)
  unfold timesD
  rw [trimS_len8 hS8, trimS_len8 hR8, trimS_8 hS8, trimS_8 hR8]
  have l1 := stl_le S 8
  have l2 := stl_le R 8
  generalize stl S 8 = na at *
  generalize stl R 8 = nb at *
  have hskS : skwD (skP S) = .arr 8 (.arr 64 .leaf) ((skP S).map arr8) := rfl
  have hskR : skwD (skP R) = .arr 8 (.arr 64 .leaf) ((skP R).map arr8) := rfl
  have hskZ : skwD (skP (zs8 (p := p))) = .arr 8 (.arr 64 .leaf) z8 := by rw [← z8_zs (p := p)]
  have w1 : IntKind.i64.wrap ((na : Int) - 1 + (nb - 1)) = (na : Int) - 1 + (nb - 1) := w64 (by omega)
  rw [hskS] at e1 ⊢
  rw [hskR] at e2 ⊢
  by_cases h0 : na = 0 ∨ nb = 0
  · rw [if_pos h0, hskZ]
    refine ask_of hT rfl ?_
    rcases h0 with rfl | rfl
    · generalize (skP S).map arr8 = LS at *
      generalize (skP R).map arr8 = LR at *
      generalize pad (row m) = Pm at *
      simp -implicitDefEqProofs [ir_spec_l03Times, ir_spec_l03Times_B, dn_cond, e1, e2, List.replicate]
    · generalize (skP S).map arr8 = LS at *
      generalize (skP R).map arr8 = LR at *
      generalize pad (row m) = Pm at *
      by_cases hn : na = 0
      · subst hn
        simp -implicitDefEqProofs [ir_spec_l03Times, ir_spec_l03Times_B, dn_cond, e1, e2, List.replicate]
      · have hlt : ¬ ((na : Int) - 1 < 0) := by omega
        have hlt2 : na ≠ 0 := hn
        have hlt3 : (1 : Int) ≤ na := by omega
        have hlt4 : ¬ ((na : Int) < 1) := by omega
        simp -implicitDefEqProofs [ir_spec_l03Times, ir_spec_l03Times_B, dn_cond, e1, e2, hlt, List.replicate]
  · rw [if_neg h0]
    have a1 : ((na : Int) - 1) = ((na - 1 : Nat) : Int) := by omega
    have a2 : ((nb : Int) - 1) = ((nb - 1 : Nat) : Int) := by omega
    rw [a1, a2] at w1
    rw [a1] at e1
    rw [a2] at e2
    have hn1 : ¬ ((na - 1 : Nat) : Int) < 0 := by omega
    have hn2 : ¬ ((nb - 1 : Nat) : Int) < 0 := by omega
    by_cases h9 : 9 < na + nb
    · rw [if_pos h9, hskZ]
      have hgt : (7 : Int) < ((na - 1 : Nat) : Int) + ((nb - 1 : Nat) : Int) := by omega
      refine ask_of hT rfl ?_
      generalize (skP S).map arr8 = LS at *
      generalize (skP R).map arr8 = LR at *
      generalize pad (row m) = Pm at *
      generalize na - 1 = k1 at *
      generalize nb - 1 = k2 at *
      simp -implicitDefEqProofs [ir_spec_l03Times, ir_spec_l03Times_B, dn_cond, e1, e2, w1, hgt, hn1, hn2, List.replicate]
    · rw [if_neg h9]
      have hgt : ¬ (7 : Int) < ((na - 1 : Nat) : Int) + ((nb - 1 : Nat) : Int) := by omega
      obtain ⟨_, e3⟩ := l_sBy1 (O := den T A) hfr hmm had (z := z8) h2 hml hS8 hR8 hS hR (na := na) (nb := nb) (by omega) (by omega) (by omega) na 0 zs8 (Nat.zero_add _) rfl (fun c hc => by rw [List.eq_of_mem_replicate hc, Pol.len_zero]; omega)
      have e00 : ((0 : Nat) : Int) = 0 := rfl
      rw [e00, List.drop_zero, z8_zs] at e3
      have hskQ : skwD (skP (byOut m (R.take nb) 0 (S.take na) zs8)) = .arr 8 (.arr 64 .leaf) ((skP (byOut m (R.take nb) 0 (S.take na) zs8)).map arr8) := rfl
      rw [hskQ]
      refine ask_of hT rfl ?_
      generalize (skP (byOut m (R.take nb) 0 (S.take na) zs8)).map arr8 = LQ at *
      generalize (skP S).map arr8 = LS at *
      generalize (skP R).map arr8 = LR at *
      generalize pad (row m) = Pm at *
      generalize na - 1 = k1 at *
      generalize nb - 1 = k2 at *
      simp -implicitDefEqProofs [ir_spec_l03Times, ir_spec_l03Times_B, dn_cond, e1, e2, e3, w1, hgt, hn1, hn2, List.replicate]
section
variable {p : Int}
theorem addAt_get_ne {Q : List (Fp p)} {n j : Nat} {v : Fp p} (h : n ≠ j) : (addAt Q n v)[j]? = Q[j]? := by
  unfold addAt; rw [List.getElem?_set_ne h]
theorem addAt_app {Q Z : List (Fp p)} {n : Nat} {v : Fp p} (h : n < Q.length) : addAt (Q ++ Z) n v = addAt Q n v ++ Z := by
  unfold addAt
  rw [List.getElem?_append_left h, List.set_append_left _ _ h]
theorem pd8_nil : pd8 ([] : List (Fp p)) = zs8 := rfl
end
section
variable {p : Int} [IsP p]
theorem byIn_get_ge {m x : Fp p} {i n : Nat} : ∀ (k : Nat) (b Q : List (Fp p)), i + k + b.length ≤ n → (byIn m x i k b Q)[n]? = Q[n]?
  | _, [], _, _ => rfl
  | k, y :: ys, Q, h => by
    rw [List.length_cons] at h
    show (byIn m x i (k + 1) ys (addAt Q (i + k) _))[n]? = _
    rw [byIn_get_ge (k + 1) ys _ (by omega), addAt_get_ne (by omega)]
theorem byOut_get_ge {m : Fp p} {b : List (Fp p)} {n : Nat} : ∀ (i : Nat) (a Q : List (Fp p)), i + a.length + b.length ≤ n + 1 → (byOut m b i a Q)[n]? = Q[n]?
  | _, [], _, _ => rfl
  | i, x :: xs, Q, h => by
    rw [List.length_cons] at h
    show (byOut m b (i + 1) xs (byIn m x i 0 b Q))[n]? = _
    rw [byOut_get_ge (i + 1) xs _ (by omega), byIn_get_ge 0 b Q (by omega)]
theorem byIn_snoc {m x y : Fp p} {i : Nat} : ∀ (k : Nat) (b Q : List (Fp p)), byIn m x i k (b ++ [y]) Q = addAt (byIn m x i k b Q) (i + (k + b.length)) (x * frIt m (i % (m.len - 1)) y % m)
  | _, [], _ => rfl
  | k, z :: zs, Q => by
    show byIn m x i (k + 1) (zs ++ [y]) (addAt Q (i + k) _) = addAt (byIn m x i (k + 1) zs (addAt Q (i + k) _)) _ _
    rw [byIn_snoc (k + 1) zs, List.length_cons, show i + (k + 1 + zs.length) = i + (k + (zs.length + 1)) by omega]
theorem byOut_snoc {m x : Fp p} {b : List (Fp p)} : ∀ (i : Nat) (a Q : List (Fp p)), byOut m b i (a ++ [x]) Q = byIn m x (i + a.length) 0 b (byOut m b i a Q)
  | _, [], _ => rfl
  | i, z :: zs, Q => by
    show byOut m b (i + 1) (zs ++ [x]) (byIn m z i 0 b Q) = byIn m x _ 0 b (byOut m b (i + 1) zs (byIn m z i 0 b Q))
    rw [byOut_snoc (i + 1) zs, List.length_cons, show i + 1 + zs.length = i + (zs.length + 1) by omega]
theorem byIn_app {m x : Fp p} {i : Nat} {Z : List (Fp p)} : ∀ (k : Nat) (b Q : List (Fp p)), i + k + b.length ≤ Q.length → byIn m x i k b (Q ++ Z) = byIn m x i k b Q ++ Z
  | _, [], _, _ => rfl
  | k, y :: ys, Q, h => by
    rw [List.length_cons] at h
    show byIn m x i (k + 1) ys (addAt (Q ++ Z) (i + k) _) = byIn m x i (k + 1) ys (addAt Q (i + k) _) ++ Z
    rw [addAt_app (by omega), byIn_app (k + 1) ys _ (by rw [addAt_length]; omega)]
theorem byOut_app {m : Fp p} {b Z : List (Fp p)} : ∀ (i : Nat) (a Q : List (Fp p)), i + a.length + b.length ≤ Q.length + 1 → byOut m b i a (Q ++ Z) = byOut m b i a Q ++ Z
  | _, [], _, _ => rfl
  | i, x :: xs, Q, h => by
    rw [List.length_cons] at h
    show byOut m b (i + 1) xs (byIn m x i 0 b (Q ++ Z)) = byOut m b (i + 1) xs (byIn m x i 0 b Q) ++ Z
    rw [byIn_app 0 b Q (by omega), byOut_app (i + 1) xs _ (by rw [byIn_length]; omega)]
theorem mul_mod_ne {m x y : Fp p} (hi : Irr m) (hx : x ≠ 0) (hxl : x.len < m.len) (hy : y ≠ 0) (hyl : y.len < m.len) : x * y % m ≠ 0 := fun h => by
  rcases hi.prime ((dv_iff_mod hi.ne).2 h) with h | h
  · have := Dv.len h hx; omega
  · have := Dv.len h hy; omega
theorem frIt_ne {m : Fp p} (hm : Fld m) : ∀ (k : Nat) (y : Fp p), y ≠ 0 → y.len < m.len → frIt m k y ≠ 0
  | 0, _, h, _ => h
  | k + 1, y, h, hl => by
    obtain ⟨h1, h2⟩ := pw_res hm h hl p.toNat
    exact frIt_ne hm k _ h1 h2
end
section
variable {p : Int}
theorem stl_last {S : List (Fp p)} : ∀ (n k : Nat), stl S n = k + 1 → S[k]? ≠ some 0
  | 0, k, h => by cases h
  | n + 1, k, h => by
    unfold stl at h
    split at h
    · exact stl_last n k h
    · rename_i h0
      obtain rfl : n = k := by omega
      exact h0
theorem stl_top {S : List (Fp p)} {n : Nat} (h : S[n]? ≠ some 0) : stl S (n + 1) = n + 1 := by
  unfold stl; rw [if_neg h]
theorem trimS_form {S : List (Fp p)} (h : (trimS S).length ≠ 0) : ∃ a x, trimS S = a ++ [x] ∧ x ≠ 0 := by
  have hle := stl_le S S.length
  have hl : (trimS S).length = stl S S.length := by unfold trimS; rw [List.length_take]; omega
  obtain ⟨k, hk⟩ : ∃ k, stl S S.length = k + 1 := ⟨stl S S.length - 1, by omega⟩
  have h1 := stl_last _ _ hk
  have hlt : k < S.length := by omega
  rw [List.getElem?_eq_getElem hlt] at h1
  refine ⟨S.take k, S[k], ?_, fun h => h1 (by rw [h])⟩
  unfold trimS
  rw [hk, List.take_succ_eq_append_getElem hlt]
theorem trimS_top {S : List (Fp p)} {n : Nat} (hl : S.length = n + 1) (h : S[n]? ≠ some 0) : trimS S = S := by
  unfold trimS
  rw [hl, stl_top h, ← hl, List.take_length]
end
section
variable {p : Int} [IsP p]
theorem mulS_top {m x y : Fp p} (hm : Fld m) {a b : List (Fp p)} (hx : x ≠ 0) (hxl : x.len < m.len) (hy : y ≠ 0) (hyl : y.len < m.len) : trimS (mulS m (a ++ [x]) (b ++ [y])) = mulS m (a ++ [x]) (b ++ [y]) := by
  have hl : (mulS m (a ++ [x]) (b ++ [y])).length = a.length + b.length + 1 := by
    unfold mulS
    rw [byOut_length, List.length_replicate, List.length_append, List.length_append]
    simp only [List.length_cons, List.length_nil]; omega
  refine trimS_top hl ?_
  have hfy : frIt m (a.length % (m.len - 1)) y ≠ 0 := frIt_ne hm _ y hy hyl
  have hfl := frIt_len hm.mon.2 (a.length % (m.len - 1)) y hyl
  have hne := mul_mod_ne hm.irr hx hxl hfy hfl
  unfold mulS
  rw [byOut_snoc, byIn_snoc]
  unfold addAt
  rw [byIn_get_ge _ _ _ (by omega), byOut_get_ge _ _ _ (by rw [List.length_append, List.length_cons, List.length_nil]; omega)]
  have hN : 0 + a.length + (0 + b.length) = a.length + b.length := by omega
  rw [hN, List.getElem?_set_self (by rw [byIn_length, byOut_length, List.length_replicate, List.length_append, List.length_append]; simp only [List.length_cons, List.length_nil]; omega)]
  rw [List.getElem?_replicate, if_pos (by rw [List.length_append, List.length_append]; simp only [List.length_cons, List.length_nil]; omega)]
  show some ((0 : Fp p) + _) ≠ some 0
  rw [Gq.zero_add, show 0 + a.length = a.length by omega]
  exact fun h => hne (Option.some.inj h)
/-- The product, trimmed. -/
noncomputable def prodS (m : Fp p) (a b : List (Fp p)) : List (Fp p) := if a.length = 0 ∨ b.length = 0 then [] else trimS (mulS m a b)
theorem pd8_mulS {m : Fp p} {a b : List (Fp p)} (ha : 1 ≤ a.length) (hb : 1 ≤ b.length) (h : a.length + b.length ≤ 9) : pd8 (mulS m a b) = byOut m b 0 a zs8 := by
  unfold pd8 mulS zs8
  rw [byOut_length, List.length_replicate, ← byOut_app _ _ _ (by rw [List.length_replicate]; omega), List.replicate_append_replicate, show a.length + b.length - 1 + (8 - (a.length + b.length - 1)) = 8 by omega]
end
end Pe

namespace Pe
open Go Gq
variable {T : Nat → Option Fn} {A : Oracle}
section
variable {p : Int} [IsP p]
theorem addAt_lens {N n : Nat} {Q : List (Fp p)} {v : Fp p} (hQ : ∀ c ∈ Q, c.len ≤ N) (hv : v.len ≤ N) : ∀ c ∈ addAt Q n v, c.len ≤ N := fun c hc => by
  unfold addAt at hc
  rcases List.mem_or_eq_of_mem_set hc with h | rfl
  · exact hQ c h
  · refine Pol.len_add_le ?_ hv
    cases he : Q[n]? with
    | none => show (0 : Fp p).len ≤ N; rw [Pol.len_zero]; omega
    | some w => exact hQ w (List.mem_of_getElem? he)
end
/-- What is asked of two skew polynomials. -/
def MsOk (p : Int) (l : List Int) (ls ks : List (List Int)) : Prop := ∃ (_ : IsP p) (m : Fp p), l = pad (row m) ∧ Fld m ∧ IsSk m ls ∧ IsSk m ks
theorem z8_pad : skwD (List.replicate 8 (pad [])) = .arr 8 (.arr 64 .leaf) z8 := rfl
theorem codes_ms {p : Int} {l : List Int} {ls ks : List (List Int)} : codeSk p l [ls, ks] = 0 ↔ MsOk p l ls ks := by
  unfold codeSk
  constructor
  · intro h1
    split at h1
    · rename_i g1
      obtain ⟨ip, m, e1, f1, s1⟩ := g1
      exact ⟨ip, m, e1, f1, s1 _ (by simp), s1 _ (by simp)⟩
    · cases h1
  · rintro ⟨ip, m, e, f, s, r⟩
    refine if_pos ⟨ip, m, e, f, fun x hx => ?_⟩
    simp at hx
    rcases hx with rfl | rfl
    · exact s
    · exact r
/-- Eight lists of 64 places. -/
def Sh8 (ls : List (List Int)) : Prop := ls.length = 8 ∧ ∀ l ∈ ls, l.length = 64
theorem sh8_skP {p : Int} {S : List (Fp p)} (h : S.length = 8) : Sh8 (skP S) := ⟨by unfold skP; rw [List.length_map]; exact h, fun l hl => by
  obtain ⟨a, _, rfl⟩ := List.mem_map.1 hl
  exact pad_length _⟩
theorem l_eqSk {O : Oracle} (he : C_eqPoly O) {ls : List (List Int)} (h : Sh8 ls) : ∀ (k i : Nat), i + k = 8 →
    dn O 0 (.loop ir_laws_eqSkew_L0) ⟨[(2, .ptr 0 []), (3, .ptr 1 []), (5, (.d (.int .i64 i)))], [.box false (.arr 8 (.arr 64 .leaf) (ls.map arr8)), .box false (.arr 8 (.arr 64 .leaf) (ls.map arr8))]⟩ =
      some (.exit 0, ⟨[(2, .ptr 0 []), (3, .ptr 1 []), (5, (.d (.int .i64 8))), (7, (.d (.bool false)))], [.box false (.arr 8 (.arr 64 .leaf) (ls.map arr8)), .box false (.arr 8 (.arr 64 .leaf) (ls.map arr8))]⟩)
  | 0, i, hi => by
    obtain rfl : i = 8 := by omega
    refine dn_stop ?_
    generalize ls.map arr8 = LD at *
    simp -implicitDefEqProofs [ir_laws_eqSkew_L0, dn_cond]
  | k + 1, i, hi => by
    have hi8 : i < 8 := by omega
    have hi8' : (i : Int) < 8 := by omega
    have hlt : i < ls.length := by rw [h.1]; exact hi8
    have e1 := he ls[i] (h.2 _ (List.getElem_mem hlt))
    have hL : (ls.map arr8).length = 8 := by rw [List.length_map]; exact h.1
    have hx2 : ∀ h : i < (ls.map arr8).length, (ls.map arr8)[i]'h = (D.arr 64 .leaf (ints .u8 (ls[i]))) := fun h => by rw [List.getElem_map]
    have w4 : IntKind.i64.wrap ((i : Int) + 1) = ((i + 1 : Nat) : Int) := (w64 (x := (i : Int) + 1) (by omega)).trans (by omega)
    refine dn_round ?_ (l_eqSk he h k (i + 1) (by omega))
    generalize ls[i] = li at *
    generalize ls.map arr8 = LD at *
    simp -implicitDefEqProofs [ir_laws_eqSkew_L0, dn_cond, hi8, hi8', hL, hx2, e1, w4]
def C_eqSk (O : Oracle) : Prop := ∀ ls : List (List Int), Sh8 ls → ask O F_laws_eqSkew [skwD ls, skwD ls] = some (D.bool true)
theorem c_eqSk (hT : T F_laws_eqSkew = some ir_laws_eqSkew) (he : C_eqPoly (den T A)) : C_eqSk (den T A) := by
  intro ls h
  have e := l_eqSk (O := den T A) he h 8 0 rfl
  have e00 : ((0 : Nat) : Int) = 0 := rfl
  rw [e00] at e
  have hskd : skwD ls = .arr 8 (.arr 64 .leaf) (ls.map arr8) := rfl
  rw [hskd]
  refine ask_of hT rfl ?_
  generalize ls.map arr8 = LD at *
  simp -implicitDefEqProofs [ir_laws_eqSkew, ir_laws_eqSkew_B, e]
theorem sh8_zero : Sh8 (List.replicate 8 (pad [])) := ⟨rfl, fun l hl => by rw [List.eq_of_mem_replicate hl]; rfl⟩
end Pe

namespace Pe
open Go Gq
section
variable {p : Int}
/-- A coefficient. -/
noncomputable def cS (A : List (Fp p)) (i : Nat) : Fp p := (A[i]?).getD 0
theorem cS_ge {A : List (Fp p)} {i : Nat} (h : A.length ≤ i) : cS A i = 0 := by unfold cS; rw [List.getElem?_eq_none h]; rfl
theorem cS_lt {A : List (Fp p)} {i : Nat} (h : i < A.length) : A[i] = cS A i := by unfold cS; rw [List.getElem?_eq_getElem h]; rfl
def IsTrim (A : List (Fp p)) : Prop := ∀ n, A.length = n + 1 → cS A n ≠ 0
theorem cS_trim (S : List (Fp p)) (i : Nat) : cS (trimS S) i = cS S i := by
  unfold cS trimS
  have hle := stl_le S S.length
  by_cases h : i < stl S S.length
  · rw [List.getElem?_take, if_pos h]
  · rw [List.getElem?_take, if_neg h]
    by_cases h2 : i < S.length
    · rw [stl_zero S S.length i (by omega) h2]; rfl
    · rw [List.getElem?_eq_none (by omega)]
theorem isTrim_trim (S : List (Fp p)) : IsTrim (trimS S) := fun n hn => by
  obtain ⟨a, x, e, hx⟩ := trimS_form (S := S) (by omega)
  rw [e] at hn ⊢
  rw [List.length_append, List.length_singleton] at hn
  unfold cS
  rw [List.getElem?_append_right (by omega), show n - a.length = 0 by omega]
  exact hx
theorem trim_ext {A B : List (Fp p)} (hA : IsTrim A) (hB : IsTrim B) (h : ∀ i, cS A i = cS B i) : A = B := by
  have hl : A.length = B.length := by
    rcases Nat.lt_trichotomy A.length B.length with g | g | g
    · exact absurd (by rw [← h]; exact cS_ge (by omega)) (hB (B.length - 1) (by omega))
    · exact g
    · exact absurd (by rw [h]; exact cS_ge (by omega)) (hA (A.length - 1) (by omega))
  refine List.ext_getElem hl fun i h1 h2 => ?_
  rw [cS_lt h1, cS_lt h2, h]
theorem trimS_congr {X Y : List (Fp p)} (h : ∀ i, cS X i = cS Y i) : trimS X = trimS Y :=
  trim_ext (isTrim_trim X) (isTrim_trim Y) fun i => by rw [cS_trim, cS_trim, h]
theorem trimS_of {A : List (Fp p)} (hA : IsTrim A) : trimS A = A := trim_ext (isTrim_trim A) hA (cS_trim A)
theorem trim_len_le {X : List (Fp p)} {n : Nat} (h : ∀ i, n ≤ i → cS X i = 0) : (trimS X).length ≤ n := by
  rcases Nat.lt_or_ge n (trimS X).length with g | g
  · have := isTrim_trim X ((trimS X).length - 1) (by omega)
    rw [cS_trim] at this
    exact absurd (h _ (by omega)) this
  · exact g
theorem isTrim_nil : IsTrim ([] : List (Fp p)) := fun n h => by cases h
theorem cS_nil (i : Nat) : cS ([] : List (Fp p)) i = 0 := rfl
theorem cS_mem {A : List (Fp p)} {N : Nat} (h : ∀ i, (cS A i).len ≤ N) : ∀ c ∈ A, c.len ≤ N := fun c hc => by
  obtain ⟨i, hi, rfl⟩ := List.getElem_of_mem hc
  rw [cS_lt hi]; exact h i
theorem mem_cS {A : List (Fp p)} {N : Nat} (h : ∀ c ∈ A, c.len ≤ N) (i : Nat) : (cS A i).len ≤ N := by
  by_cases hi : i < A.length
  · rw [← cS_lt hi]; exact h _ (List.getElem_mem hi)
  · rw [cS_ge (by omega), Pol.len_zero]; omega
theorem cS_map {n : Nat} {f : Nat → Fp p} (i : Nat) : cS ((List.range n).map f) i = if i < n then f i else 0 := by
  unfold cS
  rw [List.getElem?_map]
  by_cases h : i < n
  · rw [List.getElem?_range h, if_pos h]; rfl
  · rw [List.getElem?_eq_none (by simpa using h), if_neg h]; rfl
noncomputable def plusS (k : Int) (A B : List (Fp p)) : List (Fp p) := trimS ((List.range (max A.length B.length)).map fun i => cS A i + Pol.C (zp p k) * cS B i)
theorem cS_plus (k : Int) (A B : List (Fp p)) (i : Nat) : cS (plusS k A B) i = cS A i + Pol.C (zp p k) * cS B i := by
  unfold plusS
  rw [cS_trim, cS_map]
  split
  · rfl
  · rw [cS_ge (A := A) (by omega), cS_ge (A := B) (by omega), Gq.mul_zero, Gq.add_zero]
theorem isTrim_plus (k : Int) (A B : List (Fp p)) : IsTrim (plusS k A B) := isTrim_trim _
theorem plus_len (k : Int) (A B : List (Fp p)) : (plusS k A B).length ≤ max A.length B.length := trim_len_le fun i hi => by
  rw [cS_map, if_neg (by omega)]
noncomputable def termS (c : Fp p) (k : Nat) : List (Fp p) := List.replicate k 0 ++ [c]
theorem termS_length (c : Fp p) (k : Nat) : (termS c k).length = k + 1 := by unfold termS; rw [List.length_append, List.length_replicate]; rfl
theorem cS_term (c : Fp p) (k i : Nat) : cS (termS c k) i = if i = k then c else 0 := by
  unfold cS termS
  rcases Nat.lt_trichotomy i k with h | h | h
  · rw [List.getElem?_append_left (by rw [List.length_replicate]; exact h), List.getElem?_replicate, if_pos h, if_neg (by omega)]; rfl
  · rw [List.getElem?_append_right (by rw [List.length_replicate]; omega), List.length_replicate, h, Nat.sub_self, if_pos rfl]; rfl
  · rw [List.getElem?_eq_none (by rw [List.length_append, List.length_replicate, List.length_singleton]; omega), if_neg (by omega)]; rfl
theorem isTrim_term {c : Fp p} (h : c ≠ 0) (k : Nat) : IsTrim (termS c k) := fun n hn => by
  rw [termS_length] at hn
  rw [cS_term, if_pos (by omega)]; exact h
theorem cS_pd8 {A : List (Fp p)} (i : Nat) : cS (pd8 A) i = cS A i := by
  unfold pd8 cS
  by_cases h : i < A.length
  · rw [List.getElem?_append_left h]
  · rw [List.getElem?_append_right (by omega), List.getElem?_replicate, List.getElem?_eq_none (l := A) (by omega)]
    split <;> rfl
theorem pd8_length {A : List (Fp p)} (h : A.length ≤ 8) : (pd8 A).length = 8 := by unfold pd8; rw [List.length_append, List.length_replicate]; omega
theorem trim_pd8 {A : List (Fp p)} (h : IsTrim A) : trimS (pd8 A) = A := (trimS_congr fun i => cS_pd8 i).trans (trimS_of h)
theorem eight_ext {X Y : List (Fp p)} (hX : X.length = 8) (hY : Y.length = 8) (h : ∀ i, i < 8 → cS X i = cS Y i) : X = Y := by
  refine List.ext_getElem (by omega) fun i h1 h2 => ?_
  rw [cS_lt h1, cS_lt h2, h i (by omega)]
theorem trimS_len_le (S : List (Fp p)) : (trimS S).length ≤ S.length := by
  unfold trimS; rw [List.length_take]; omega
theorem pd8_trim {F : List (Fp p)} (h : F.length = 8) : pd8 (trimS F) = F := eight_ext (pd8_length (by have := trimS_len_le F; omega)) h fun i _ => by rw [cS_pd8, cS_trim]
theorem cS_set {X : List (Fp p)} {n i : Nat} {c : Fp p} (h : n < X.length) : cS (X.set n c) i = if i = n then c else cS X i := by
  unfold cS
  by_cases hi : i = n
  · subst hi; rw [List.getElem?_set_self h, if_pos rfl]; rfl
  · rw [List.getElem?_set_ne (by omega), if_neg hi]
theorem pd8_set {Q : List (Fp p)} {k : Nat} {c : Fp p} (hQ : Q.length ≤ 8) (hk : k < 8) (h0 : cS Q k = 0) : (pd8 Q).set k c = pd8 (plusS 1 Q (termS c k)) := by
  have hl := pd8_length hQ
  have hpl := plus_len 1 Q (termS c k)
  rw [termS_length] at hpl
  refine eight_ext (by rw [List.length_set]; exact hl) (pd8_length (by omega)) fun i _ => ?_
  rw [cS_set (by omega), cS_pd8, cS_pd8, cS_plus, cS_term, zp_one, Pol.C_one, Gq.one_mul]
  by_cases hi : i = k
  · subst hi; rw [if_pos rfl, if_pos rfl, h0, Gq.zero_add]
  · rw [if_neg hi, if_neg hi, Gq.add_zero]
theorem snoc_of {B : List (Fp p)} (h : 1 ≤ B.length) : ∃ b, B = b ++ [cS B (B.length - 1)] ∧ b.length = B.length - 1 := by
  have hlt : B.length - 1 < B.length := by omega
  refine ⟨B.take (B.length - 1), ?_, by rw [List.length_take]; omega⟩
  rw [← cS_lt hlt, ← List.take_succ_eq_append_getElem hlt, show B.length - 1 + 1 = B.length by omega, List.take_length]
end
section
variable {p : Int} [IsP p]
theorem byIn_lens' {m x : Fp p} {i N : Nat} (hm : m ≠ 0) (hN : m.len ≤ N + 1) : ∀ (k : Nat) (b Q : List (Fp p)), (∀ c ∈ Q, c.len ≤ N) → ∀ c ∈ byIn m x i k b Q, c.len ≤ N
  | _, [], _, h => h
  | k, y :: ys, Q, h => byIn_lens' hm hN (k + 1) ys _ (addAt_lens h (by have := Pol.len_mod (x * frIt m (i % (m.len - 1)) y) hm; omega))
theorem byOut_lens' {m : Fp p} {b : List (Fp p)} {N : Nat} (hm : m ≠ 0) (hN : m.len ≤ N + 1) : ∀ (i : Nat) (a Q : List (Fp p)), (∀ c ∈ Q, c.len ≤ N) → ∀ c ∈ byOut m b i a Q, c.len ≤ N
  | _, [], _, h => h
  | i, _x :: xs, Q, h => byOut_lens' hm hN (i + 1) xs _ (byIn_lens' hm hN 0 b Q h)
theorem prodS_lens' {m : Fp p} {a b : List (Fp p)} {N : Nat} (hm : m ≠ 0) (hN : m.len ≤ N + 1) : ∀ c ∈ prodS m a b, c.len ≤ N := fun c hc => by
  unfold prodS at hc
  split at hc
  · cases hc
  · have h1 : c ∈ mulS m a b := List.mem_of_mem_take hc
    exact byOut_lens' hm hN 0 a _ (fun c hc => by rw [List.eq_of_mem_replicate hc, Pol.len_zero]; omega) c h1
theorem isTrim_prod (m : Fp p) (a b : List (Fp p)) : IsTrim (prodS m a b) := by
  unfold prodS
  split
  · exact isTrim_nil
  · exact isTrim_trim _
theorem prod_len_le {m : Fp p} {a b : List (Fp p)} : (prodS m a b).length ≤ a.length + b.length - 1 := by
  unfold prodS
  split
  · exact Nat.zero_le _
  · have := trimS_len_le (mulS m a b)
    have hl : (mulS m a b).length = a.length + b.length - 1 := by unfold mulS; rw [byOut_length, List.length_replicate]
    omega
theorem mulS_val {m x y : Fp p} {a b : List (Fp p)} : cS (mulS m (a ++ [x]) (b ++ [y])) (a.length + b.length) = x * frIt m (a.length % (m.len - 1)) y % m := by
  unfold mulS
  rw [byOut_snoc, byIn_snoc]
  unfold addAt
  rw [byIn_get_ge _ _ _ (by omega), byOut_get_ge _ _ _ (by rw [List.length_append, List.length_cons, List.length_nil]; omega)]
  have hN : 0 + a.length + (0 + b.length) = a.length + b.length := by omega
  rw [hN]
  unfold cS
  rw [List.getElem?_set_self (by rw [byIn_length, byOut_length, List.length_replicate, List.length_append, List.length_append]; simp only [List.length_cons, List.length_nil]; omega)]
  rw [List.getElem?_replicate, if_pos (by rw [List.length_append, List.length_append]; simp only [List.length_cons, List.length_nil]; omega)]
  show (0 : Fp p) + _ = _
  rw [Gq.zero_add, show 0 + a.length = a.length by omega]
theorem prod_top {m : Fp p} {A B : List (Fp p)} (ha : 1 ≤ A.length) (hb : 1 ≤ B.length) : cS (prodS m A B) (A.length - 1 + (B.length - 1)) = cS A (A.length - 1) * frIt m ((A.length - 1) % (m.len - 1)) (cS B (B.length - 1)) % m := by
  obtain ⟨a, ea, la⟩ := snoc_of ha
  obtain ⟨b, eb, lb⟩ := snoc_of hb
  have h := mulS_val (m := m) (x := cS A (A.length - 1)) (y := cS B (B.length - 1)) (a := a) (b := b)
  rw [← ea, ← eb, la, lb] at h
  unfold prodS
  rw [if_neg (by omega), cS_trim]
  exact h
theorem times_pd8 {m : Fp p} {X Y : List (Fp p)} (hX : IsTrim X) (hY : IsTrim Y) (h9 : X.length + Y.length ≤ 9) (hXl : ∀ c ∈ X, c.len < m.len) (hYl : ∀ c ∈ Y, c.len < m.len) (hm : Fld m) : timesD m (pd8 X) (pd8 Y) = .tup [skwD (skP (pd8 (prodS m X Y))), (D.bool true)] := by
  unfold timesD prodS
  rw [trim_pd8 hX, trim_pd8 hY]
  by_cases h0 : X.length = 0 ∨ Y.length = 0
  · rw [if_pos h0, if_pos h0, pd8_nil]
  · rw [if_neg h0, if_neg (by omega), if_neg h0]
    obtain ⟨a, ea, la⟩ := snoc_of (B := X) (by omega)
    obtain ⟨b, eb, lb⟩ := snoc_of (B := Y) (by omega)
    have hx := hX (X.length - 1) (by omega)
    have hy := hY (Y.length - 1) (by omega)
    have ht := mulS_top hm (a := a) (b := b) hx (hXl _ (by rw [← cS_lt (show X.length - 1 < X.length by omega)]; exact List.getElem_mem _)) hy (hYl _ (by rw [← cS_lt (show Y.length - 1 < Y.length by omega)]; exact List.getElem_mem _))
    rw [← ea, ← eb] at ht
    rw [ht, pd8_mulS (by omega) (by omega) (by omega)]
theorem inv_back {m x y : Fp p} (hm : Fld m) (hx : x.len < m.len) (hy : y ≠ 0) (hyl : y.len < m.len) : (x * invm m y % m) * y % m = x ∧ y * (x * invm m y % m) % m = x := by
  have h0 : m ≠ 0 := hm.mon.2
  have e := invm_ok hm hy hyl
  have key : Quo.mk m ((x * invm m y % m) * y) = Quo.mk m x := by
    rw [Quo.mk_mul, Pol.mk_mod, Quo.mk_mul, Gq.mul_assoc, e, Gq.mul_one]
  have h1 := (Pol.mod_eq_iff h0).2 key
  rw [Pol.mod_small hx] at h1
  exact ⟨h1, by rw [Gq.mul_comm]; exact h1⟩
theorem frIt_add {m : Fp p} : ∀ (b a : Nat) (x : Fp p), frIt m (a + b) x = frIt m a (frIt m b x)
  | 0, _, _ => rfl
  | b + 1, a, x => by
    show frIt m (a + b) (pw x p.toNat % m) = frIt m a (frIt m b (pw x p.toNat % m))
    exact frIt_add b a _
theorem frIt_round {m : Fp p} (hm : Fld m) (j : Nat) {z : Fp p} (hz : z.len < m.len) : frIt m (j % (m.len - 1)) (frIt m ((m.len - 1 - j % (m.len - 1)) % (m.len - 1)) z) = z := by
  have h2 := hm.two
  have hlt := Nat.mod_lt j (show 0 < m.len - 1 by omega)
  rw [frIt_mod hm _ hz, ← frIt_add, show j % (m.len - 1) + (m.len - 1 - j % (m.len - 1)) = m.len - 1 by omega, ← frIt_mod hm _ hz, Nat.mod_self]
  rfl
/-- The new coefficient of the quotient. -/
noncomputable def qc (left : Bool) (m : Fp p) (A B : List (Fp p)) : Fp p :=
  if left then frIt m ((m.len - 1 - (B.length - 1) % (m.len - 1)) % (m.len - 1)) (cS A (A.length - 1) * invm m (cS B (B.length - 1)) % m)
  else cS A (A.length - 1) * invm m (frIt m ((A.length - B.length) % (m.len - 1)) (cS B (B.length - 1))) % m
noncomputable def qT (left : Bool) (m : Fp p) (A B : List (Fp p)) : List (Fp p) := termS (qc left m A B) (A.length - B.length)
noncomputable def qP (left : Bool) (m : Fp p) (A B : List (Fp p)) : List (Fp p) := if left then prodS m B (qT left m A B) else prodS m (qT left m A B) B
noncomputable def divG (left : Bool) (m : Fp p) (B : List (Fp p)) : Nat → List (Fp p) → List (Fp p) → List (Fp p) × List (Fp p)
  | 0, Q, A => (Q, A)
  | n + 1, Q, A => if A.length < B.length then (Q, A) else divG left m B n (plusS 1 Q (qT left m A B)) (plusS (-1) A (qP left m A B))
end
section
variable {p : Int}
/-- Trimmed, of at most eight residues. -/
structure Sk (m : Fp p) (A : List (Fp p)) : Prop where
  trim : IsTrim A
  eight : A.length ≤ 8
  res : ∀ c ∈ A, c.len < m.len
theorem Sk.cs {m : Fp p} {A : List (Fp p)} (h : Sk m A) (hm : m ≠ 0) (i : Nat) : (cS A i).len < m.len := by
  have := mem_cS (N := m.len - 1) (fun c hc => by have := h.res c hc; omega) i
  have := Pol.len_pos hm
  omega
theorem Sk.top {m : Fp p} {A : List (Fp p)} (h : Sk m A) (h1 : 1 ≤ A.length) : cS A (A.length - 1) ≠ 0 := h.trim _ (by omega)
theorem Sk.nil (m : Fp p) : Sk m [] := ⟨isTrim_nil, by simp, fun c h => by cases h⟩
theorem Sk.of8 {m : Fp p} {F : List (Fp p)} (h8 : F.length = 8) (h : ∀ c ∈ F, c.len < m.len) : Sk m (trimS F) :=
  ⟨isTrim_trim F, by have := trimS_len_le F; omega, fun c hc => h c (List.mem_of_mem_take hc)⟩
end
section
variable {p : Int} [IsP p]
theorem c_ge' {p : Int} {a : Fp p} {n : Nat} (h : a.len ≤ n) : a.c n = 0 := a.lt_len n h
theorem Sk.plus {m : Fp p} {A B : List (Fp p)} (hm : m ≠ 0) (hA : Sk m A) (hB : Sk m B) (k : Int) : Sk m (plusS k A B) := by
  have h1 := Pol.len_pos hm
  refine ⟨isTrim_plus k A B, by have := plus_len k A B; have := hA.eight; have := hB.eight; omega, fun c hc => ?_⟩
  have := cS_mem (A := plusS k A B) (N := m.len - 1) (fun i => by
    rw [cS_plus]
    have a1 := hA.cs hm i
    have a2 := hB.cs hm i
    exact Pol.len_add_le (by omega) (Pol.len_le fun j hj => by rw [Pol.c_Cmul, c_ge' (by omega), Gq.mul_zero])) c hc
  omega
theorem step_ok (left : Bool) {m : Fp p} (hm : Fld m) {A B : List (Fp p)} (hA : Sk m A) (hB : Sk m B) (h1 : 1 ≤ B.length) (hle : B.length ≤ A.length) :
    qc left m A B ≠ 0 ∧ (qc left m A B).len < m.len ∧ Sk m (qT left m A B) ∧ Sk m (qP left m A B) ∧ (plusS (-1) A (qP left m A B)).length < A.length ∧ Sk m (plusS (-1) A (qP left m A B)) := by
  have h0 : m ≠ 0 := hm.mon.2
  have hx := hA.top (by omega)
  have hxl := hA.cs h0 (A.length - 1)
  have hy := hB.top h1
  have hyl := hB.cs h0 (B.length - 1)
  have hfy : frIt m ((A.length - B.length) % (m.len - 1)) (cS B (B.length - 1)) ≠ 0 := frIt_ne hm _ _ hy hyl
  have hfl := frIt_len h0 ((A.length - B.length) % (m.len - 1)) (cS B (B.length - 1)) hyl
  have hb1 := inv_back hm hxl hfy hfl
  have hb2 := inv_back hm hxl hy hyl
  have hzl : (cS A (A.length - 1) * invm m (cS B (B.length - 1)) % m).len < m.len := Pol.len_mod _ h0
  have hz0 : cS A (A.length - 1) * invm m (cS B (B.length - 1)) % m ≠ 0 := fun h => by
    have := hb2.1
    rw [h, Gq.zero_mul, Pol.zero_mod h0] at this
    exact hx this.symm
  have hc0 : qc left m A B ≠ 0 := by
    unfold qc
    cases left with
    | true => simp only [if_true]; exact frIt_ne hm _ _ hz0 hzl
    | false =>
      simp only [Bool.false_eq_true, if_false]
      intro h
      have := hb1.1
      rw [h, Gq.zero_mul, Pol.zero_mod h0] at this
      exact hx this.symm
  have hcl : (qc left m A B).len < m.len := by
    unfold qc
    cases left with
    | true => simp only [if_true]; exact frIt_len h0 _ _ hzl
    | false => simp only [Bool.false_eq_true, if_false]; exact Pol.len_mod _ h0
  have hTl : (qT left m A B).length = A.length - B.length + 1 := termS_length _ _
  have h8 := hA.eight
  have hT : Sk m (qT left m A B) := ⟨isTrim_term hc0 _, by omega, fun c hc => by
    unfold qT termS at hc
    rcases List.mem_append.1 hc with h | h
    · rw [List.eq_of_mem_replicate h, Pol.len_zero]; exact Pol.len_pos h0
    · rw [List.mem_singleton.1 h]; exact hcl⟩
  have hPl : (qP left m A B).length ≤ A.length := by
    unfold qP
    cases left with
    | true => have := prod_len_le (m := m) (a := B) (b := qT true m A B); simp only [if_true]; omega
    | false => have := prod_len_le (m := m) (a := qT false m A B) (b := B); simp only [Bool.false_eq_true, if_false]; omega
  have hP : Sk m (qP left m A B) := by
    have hm1 := Pol.len_pos h0
    refine ⟨?_, by omega, ?_⟩
    · unfold qP
      cases left with
      | true => exact isTrim_prod _ _ _
      | false => exact isTrim_prod _ _ _
    · intro c hc
      have : c.len ≤ m.len - 1 := by
        unfold qP at hc
        cases left with
        | true => exact prodS_lens' h0 (by omega) c hc
        | false => exact prodS_lens' h0 (by omega) c hc
      omega
  have htop : cS (qP left m A B) (A.length - 1) = cS A (A.length - 1) := by
    unfold qP
    cases left with
    | true =>
      simp only [if_true]
      have h := prod_top (m := m) (A := B) (B := qT true m A B) h1 (by omega)
      rw [hTl, show B.length - 1 + (A.length - B.length + 1 - 1) = A.length - 1 by omega, show A.length - B.length + 1 - 1 = A.length - B.length by omega] at h
      rw [h]
      unfold qT
      rw [cS_term, if_pos rfl]
      unfold qc
      simp only [if_true]
      rw [frIt_round hm (B.length - 1) hzl]
      exact hb2.2
    | false =>
      simp only [Bool.false_eq_true, if_false]
      have h := prod_top (m := m) (A := qT false m A B) (B := B) (by omega) h1
      rw [hTl, show A.length - B.length + 1 - 1 + (B.length - 1) = A.length - 1 by omega, show A.length - B.length + 1 - 1 = A.length - B.length by omega] at h
      rw [h]
      unfold qT
      rw [cS_term, if_pos rfl]
      unfold qc
      simp only [Bool.false_eq_true, if_false]
      exact hb1.1
  have hneg : ∀ x : Fp p, x + Pol.C (zp p (-1)) * x = 0 := fun x => by
    rw [zp_neg, zp_one, Pol.C_neg, Pol.C_one]
    exact ring_of [x] rfl
  refine ⟨hc0, hcl, hT, hP, ?_, hA.plus h0 hP (-1)⟩
  have hlt : (plusS (-1) A (qP left m A B)).length ≤ A.length - 1 := trim_len_le fun i hi => by
    rw [cS_map]
    split
    · rcases Nat.lt_or_ge i A.length with g | g
      · rw [show i = A.length - 1 by omega, htop, hneg]
      · rw [cS_ge g, cS_ge (A := qP left m A B) (by omega), Gq.mul_zero, Gq.add_zero]
    · rfl
  omega
/-- The quotient has no part where it gets the next one. -/
def Zto (Q A B : List (Fp p)) : Prop := ∀ j, j + B.length ≤ A.length → cS Q j = 0
theorem Zto.step {left : Bool} {m : Fp p} (hm : Fld m) {Q A B : List (Fp p)} (hA : Sk m A) (hB : Sk m B) (h1 : 1 ≤ B.length) (hle : B.length ≤ A.length) (hz : Zto Q A B) : Zto (plusS 1 Q (qT left m A B)) (plusS (-1) A (qP left m A B)) B := fun j hj => by
  obtain ⟨_, _, _, _, h, _⟩ := step_ok left hm hA hB h1 hle
  unfold qT
  rw [cS_plus, hz j (by omega), cS_term, if_neg (by omega), Gq.mul_zero, Gq.add_zero]
theorem divG_ok (left : Bool) {m : Fp p} (hm : Fld m) {B : List (Fp p)} (hB : Sk m B) (h1 : 1 ≤ B.length) : ∀ (n : Nat) (Q A : List (Fp p)), A.length ≤ n → Sk m Q → Sk m A → Sk m (divG left m B n Q A).1 ∧ Sk m (divG left m B n Q A).2 ∧ (divG left m B n Q A).2.length < B.length
  | 0, Q, A, h, hQ, hA => ⟨hQ, hA, by show A.length < B.length; omega⟩
  | n + 1, Q, A, h, hQ, hA => by
    unfold divG
    split
    · exact ⟨hQ, hA, by assumption⟩
    · obtain ⟨_, _, hT, hP, hl, hA'⟩ := step_ok left hm hA hB h1 (by omega)
      exact divG_ok left hm hB h1 n _ _ (by omega) (hQ.plus hm.mon.2 hT 1) hA'
end
end Pe



namespace Pe
open Go Gq
variable {T : Nat → Option Fn} {A : Oracle}
abbrev z6 : List Int := List.replicate 6 0
section
variable {p : Int} [IsP p]
noncomputable def mono (p : Int) (i : Nat) : Fp p := numP p (p ^ i)
end
end Pe

namespace Pe
open Go Gq
variable {T : Nat → Option Fn} {A : Oracle}
section
variable {O : Oracle} {g : Nat} {first caps : List D}
/-- A comparison of a list's elements. -/
structure CmpRow (O : Oracle) (g : Nat) (first caps : List D) (f : D → Int) (s : Sh) (cs : List D) : Prop where
  nf : noTup first
  nc : noTup caps
  nx : noTup cs
  sh : AllSh s cs
  ask : ∀ x ∈ cs, ∀ y ∈ cs, ∃ v : Int, ask O g (first ++ [x, y] ++ caps) = some (D.int .i64 v) ∧ (v < 0 ↔ f x < f y)
theorem CmpRow.perm {f : D → Int} {s : Sh} {cs ds : List D} (h : CmpRow O g first caps f s cs) (p : ds.Perm cs) : CmpRow O g first caps f s ds :=
  ⟨h.nf, h.nc, fun x hx => h.nx x (p.subset hx), fun x hx => h.sh x (p.subset hx), fun x hx y hy => h.ask x (p.subset hx) y (p.subset hy)⟩
theorem CmpRow.call {f : D → Int} {s : Sh} {cs : List D} (h : CmpRow O g first caps f s cs) {hp : Heap} {np : Nat} {news : List Nat} {x y : D} (hx : x ∈ cs) (hy : y ∈ cs) :
    ∃ v : Int, kCall O np hp .flat news (g, first.map .d, caps.map .d) [.d x, .d y] = some (.d (D.int .i64 v), hp) ∧ (v < 0 ↔ f x < f y) := by
  have e : toDs hp (first.map .d ++ [.d x, .d y] ++ caps.map .d) = some (first ++ [x, y] ++ caps) :=
    toDs_app hp (toDs_app hp (toDs_map hp h.nf) (toDs_map hp (ds := [x, y]) (by intro z hz; simp at hz; rcases hz with rfl | rfl; exact h.nx _ hx; exact h.nx _ hy))) (toDs_map hp h.nc)
  obtain ⟨v, e1, e2⟩ := h.ask x hx y hy
  refine ⟨v, ?_, e2⟩
  rw [kCall_flat, e, Option.bind_some, kAsk_ask, e1, Option.bind_some, kAns_flat, show (D.int IntKind.i64 v).flat = true from rfl, if_pos rfl]
end
end Pe

namespace Pe
open Go Gq
variable {T : Nat → Option Fn} {A : Oracle}
section
variable {p : Int}
/-- b without its part at the degree of a. -/
noncomputable def elim (a b : Fp p) : Fp p := b + Pol.C (-(b.c (a.len - 1))) * a
noncomputable abbrev rowD (a : Fp p) : D := (D.sl .leaf (ints .i64 (row a)))
end
section
variable {p : Int} [IsP p]
/-- Strictly descending degrees, all monic. -/
structure Desc (N : Nat) (L : List (Fp p)) : Prop where
  pw : L.Pairwise fun x y => y.len < x.len
  mon : ∀ b ∈ L, Monic b
  le : ∀ b ∈ L, b.len ≤ N
theorem Desc.nil (N : Nat) : Desc N ([] : List (Fp p)) := ⟨List.Pairwise.nil, (fun _ h => by cases h), (fun _ h => by cases h)⟩
theorem Desc.tail {N : Nat} {b : Fp p} {L : List (Fp p)} (h : Desc N (b :: L)) : Desc N L ∧ ∀ c ∈ L, c.len < b.len :=
  ⟨⟨h.pw.tail, fun c hc => h.mon c (by simp [hc]), fun c hc => h.le c (by simp [hc])⟩, (List.pairwise_cons.1 h.pw).1⟩
theorem Desc.length : ∀ {N : Nat} {L : List (Fp p)}, Desc N L → L.length ≤ N
  | N, [], _ => Nat.zero_le _
  | N, b :: L, h => by
    obtain ⟨h1, h2⟩ := h.tail
    have hb := Pol.len_pos (h.mon b (by simp)).2
    have hle := h.le b (by simp)
    have := Desc.length (N := b.len - 1) ⟨h1.pw, h1.mon, fun c hc => by have := h2 c hc; omega⟩
    rw [List.length_cons]; omega
end
section
variable {p : Int}
end
end Pe

namespace Pe
open Go Gq
variable {T : Nat → Option Fn} {A : Oracle}
def K_single (O : Oracle) : Prop := ∀ (p : Int) [IsP p] (c : Fp p) (k : Nat), k < 10000 → ask O F_impl_single [(D.sl .leaf (ints .i64 (row c))), (D.int .i64 k)] = some (skD (termS c k))
theorem termS_map {p : Int} (c : Fp p) (k : Nat) : (List.replicate (k + 1) (D.sl .leaf [])).set k (D.sl .leaf (ints .i64 (row c))) = (termS c k).map rowD := by
  unfold termS
  rw [List.map_append, List.map_replicate, show rowD (0 : Fp p) = .sl .leaf [] by show (D.sl .leaf (ints .i64 (row (0 : Fp p)))) = _; rw [row_zero, ints_nil], List.replicate_succ', List.set_append_right _ _ (by rw [List.length_replicate]; omega), List.length_replicate, Nat.sub_self]
  rfl
theorem k_single (hT : T F_impl_single = some ir_impl_single) : K_single (den T A) := by
  intro p ip c k hk
  have w1 : IntKind.i64.wrap ((k : Int) + 1) = ((k + 1 : Nat) : Int) := (w64 (x := (k : Int) + 1) (by omega)).trans (by omega)
  have h24 : (k + 1) * 24 ≤ 1099511627776 := by omega
  have hn : (0 : Int) ≤ ((k + 1 : Nat) : Int) := by omega
  have hlt : k < k + 1 := by omega
  have hsk : skD (termS c k) = .sl .leaf ((termS c k).map rowD) := rfl
  have htm := termS_map c k
  have hTL : ((termS c k).map rowD).length = k + 1 := by rw [List.length_map, termS_length]
  have htk : ((termS c k).map rowD).take (k + 1) = (termS c k).map rowD := List.take_of_length_le (by omega)
  rw [hsk]
  refine ask_of hT rfl ?_
  have hRL : (List.replicate (k + 1) (D.sl .leaf [])).length = k + 1 := List.length_replicate ..
  have hRg : ∀ h : k < (List.replicate (k + 1) (D.sl .leaf [])).length, (List.replicate (k + 1) (D.sl .leaf []))[k]'h = D.sl .leaf [] := fun h => List.getElem_replicate h
  generalize (termS c k).map rowD = TD at *
  generalize row c = Rc at *
  generalize hRR : List.replicate (k + 1) (D.sl .leaf []) = RR at *
  generalize k + 1 = k1 at *
  simp -implicitDefEqProofs [ir_impl_single, ir_impl_single_B, w1, h24, hlt, hRR, hRL, hRg, htm, hTL, htk]
def K_skAt (O : Oracle) : Prop := ∀ (p : Int) [IsP p] (A : List (Fp p)) (i : Nat), ask O F_impl_skew_at [skD A, (D.int .i64 i)] = some (D.sl .leaf (ints .i64 (row (cS A i))))
theorem k_skAt (hT : T F_impl_skew_at = some ir_impl_skew_at) : K_skAt (den T A) := by
  intro p ip S i
  have hsk : skD S = .sl .leaf (S.map rowD) := rfl
  have hL : (S.map rowD).length = S.length := List.length_map ..
  rw [hsk]
  refine ask_of hT rfl ?_
  by_cases h : i < S.length
  · have hx : ∀ h : i < (S.map rowD).length, (S.map rowD)[i]'h = (D.sl .leaf (ints .i64 (row (cS S i)))) := fun h' => by rw [List.getElem_map, cS_lt h]
    generalize row (cS S i) = Rc at *
    generalize S.map rowD = SD at *
    simp -implicitDefEqProofs [ir_impl_skew_at, ir_impl_skew_at_B, dn_cond, h, hL, hx]
  · rw [cS_ge (by omega), row_zero]
    generalize S.map rowD = SD at *
    simp -implicitDefEqProofs [ir_impl_skew_at, ir_impl_skew_at_B, dn_cond, h, hL, ints_nil]
theorem l_plus {O : Oracle} (hat : K_skAt O) (hco : K_combine O) {p : Int} [IsP p] {m : Fp p} {X Y : List (Fp p)} {k : Int} (hk : -1000 ≤ k ∧ k ≤ 1000) (hX : ∀ c ∈ X, c.len ≤ 64) (hY : ∀ c ∈ Y, c.len ≤ 64) {n : Nat} (hn : n < 100000) {cp cq : Option Nat} : ∀ (r i : Nat) (Q : List D), i + r = n → Q.length = n → (∀ d ∈ Q, d.sh.beq .leaf = true) → Q.take i = ((List.range n).map fun i => rowD (cS X i + Pol.C (zp p k) * cS Y i)).take i →
    dn O 0 (.loop ir_impl_field_plus_L0) ⟨[(1, .d (skD X)), (2, .d (skD Y)), (3, (.d (.int .i64 k))), (4, .ptr 0 []), (9, .sl 1 [] 0 n cp), (18, (.d (.int .i64 n))), (19, (.d (.int .i64 i)))], [.box false (fldD m), .sl false .leaf Q]⟩ =
      some (.exit 0, ⟨[(1, .d (skD X)), (2, .d (skD Y)), (3, (.d (.int .i64 k))), (4, .ptr 0 []), (9, .sl 1 [] 0 n cp), (18, (.d (.int .i64 n))), (19, (.d (.int .i64 n))), (20, (.d (.bool false)))], [.box false (fldD m), .sl false .leaf ((List.range n).map fun i => rowD (cS X i + Pol.C (zp p k) * cS Y i))]⟩)
  | 0, i, Q, hi, hq, hQ, ht => by
    obtain rfl : i = n := by omega
    rw [List.take_of_length_le (by omega), List.take_of_length_le (by rw [List.length_map, List.length_range]; omega)] at ht
    subst ht
    refine dn_stop ?_
    generalize (List.range i).map (fun i => rowD (cS X i + Pol.C (zp p k) * cS Y i)) = LQ at *
    simp -implicitDefEqProofs [ir_impl_field_plus_L0, dn_cond]
  | r + 1, i, Q, hi, hq, hQ, ht => by
    have hlt : i < n := by omega
    have hltq : i < Q.length := by omega
    have hsh : ∀ h : i < Q.length, (Q[i]'h).sh.beq .leaf = true := fun h => hQ _ (List.getElem_mem h)
    have e1 := hat p X i
    have e2 := hat p Y i
    have a1 := mem_cS hX i
    have a2 := mem_cS hY i
    have e3 := hco p k (cS X i) (cS Y i) (by omega) (by omega) (by omega) (by omega)
    have w4 : IntKind.i64.wrap ((i : Int) + 1) = ((i + 1 : Nat) : Int) := (w64 (x := (i : Int) + 1) (by omega)).trans (by omega)
    have hLn : ((List.range n).map fun i => rowD (cS X i + Pol.C (zp p k) * cS Y i)).length = n := by rw [List.length_map, List.length_range]
    refine dn_round ?_ (l_plus hat hco (m := m) hk hX hY hn (cp := cp) (cq := cq) r (i + 1) (Q.set i (D.sl .leaf (ints .i64 (row (cS X i + Pol.C (zp p k) * cS Y i))))) (by omega) (by rw [List.length_set]; exact hq) (fun d hd => by
      rcases List.mem_or_eq_of_mem_set hd with h1 | rfl
      · exact hQ d h1
      · rfl) (by
      rw [List.take_succ_eq_append_getElem (by rw [List.length_set]; exact hltq), List.getElem_set_self, List.take_set, List.set_eq_of_length_le (by rw [List.length_take]; omega), ht, List.take_succ_eq_append_getElem (by omega), List.getElem_map, List.getElem_range]))
    have hfd : fldD m = .st [.leaf, .leaf] [(D.int .i64 p), (D.sl .leaf (ints .i64 (row m)))] := rfl
    have hsX : skD X = .sl .leaf (X.map rowD) := rfl
    have hsY : skD Y = .sl .leaf (Y.map rowD) := rfl
    rw [hfd]
    rw [hsX] at e1 ⊢
    rw [hsY] at e2 ⊢
    generalize row (cS X i + Pol.C (zp p k) * cS Y i) = R3 at *
    generalize row (cS X i) = R1 at *
    generalize row (cS Y i) = R2 at *
    generalize X.map rowD = XD at *
    generalize Y.map rowD = YD at *
    generalize row m = Rm at *
    simp -implicitDefEqProofs [ir_impl_field_plus_L0, dn_cond, hlt, hq, hsh, e1, e2, e3, w4]
def K_plus (O : Oracle) : Prop := ∀ (p : Int) [IsP p] (m : Fp p) (X Y : List (Fp p)) (k : Int), -1000 ≤ k → k ≤ 1000 → X.length < 10000 → Y.length < 10000 → (∀ c ∈ X, c.len ≤ 64) → (∀ c ∈ Y, c.len ≤ 64) → ask O F_impl_field_plus [fldD m, skD X, skD Y, (D.int .i64 k)] = some (skD (plusS k X Y))
theorem k_plus (hT : T F_impl_field_plus = some ir_impl_field_plus) (hat : K_skAt (den T A)) (hco : K_combine (den T A)) (htr : K_sktrim (den T A)) : K_plus (den T A) := by
  intro p ip m X Y k hk1 hk2 hXl hYl hX hY
  have e1 := l_plus (O := den T A) hat hco (m := m) ⟨hk1, hk2⟩ hX hY (n := max X.length Y.length) (by omega) (cp := some (max X.length Y.length)) (cq := none) (max X.length Y.length) 0 (List.replicate (max X.length Y.length) (.sl .leaf [])) (Nat.zero_add _) (List.length_replicate ..) (fun d hd => by rw [List.eq_of_mem_replicate hd]; rfl) (by rw [List.take_zero, List.take_zero])
  have e00 : ((0 : Nat) : Int) = 0 := rfl
  have e2 := htr p ((List.range (max X.length Y.length)).map fun i => cS X i + Pol.C (zp p k) * cS Y i) (by rw [List.length_map, List.length_range]; omega)
  have hsum : skD ((List.range (max X.length Y.length)).map fun i => cS X i + Pol.C (zp p k) * cS Y i) = .sl .leaf ((List.range (max X.length Y.length)).map fun i => rowD (cS X i + Pol.C (zp p k) * cS Y i)) := by
    show D.sl .leaf (List.map _ (List.map _ _)) = _
    rw [List.map_map]; rfl
  rw [hsum, show trimS ((List.range (max X.length Y.length)).map fun i => cS X i + Pol.C (zp p k) * cS Y i) = plusS k X Y from rfl] at e2
  rw [e00] at e1
  have hsX : skD X = .sl .leaf (X.map rowD) := rfl
  have hsY : skD Y = .sl .leaf (Y.map rowD) := rfl
  have hsP : skD (plusS k X Y) = .sl .leaf ((plusS k X Y).map rowD) := rfl
  have hX1 : (X.map rowD).length = X.length := List.length_map ..
  have hY1 : (Y.map rowD).length = Y.length := List.length_map ..
  have hmx : (if X.length < Y.length then ((Y.length : Nat) : Int) else ((X.length : Nat) : Int)) = ((max X.length Y.length : Nat) : Int) := by split <;> omega
  have h24 : max X.length Y.length * 24 ≤ 1099511627776 := by omega
  have hLn : ((List.range (max X.length Y.length)).map fun i => rowD (cS X i + Pol.C (zp p k) * cS Y i)).length = max X.length Y.length := by rw [List.length_map, List.length_range]
  have htk : ((List.range (max X.length Y.length)).map fun i => rowD (cS X i + Pol.C (zp p k) * cS Y i)).take (max X.length Y.length) = ((List.range (max X.length Y.length)).map fun i => rowD (cS X i + Pol.C (zp p k) * cS Y i)) := List.take_of_length_le (by omega)
  rw [hsP] at e2 ⊢
  rw [hsX, hsY] at e1 ⊢
  refine ask_of hT rfl ?_
  generalize ((List.range (max X.length Y.length)).map fun i => rowD (cS X i + Pol.C (zp p k) * cS Y i)) = LQ at *
  generalize X.map rowD = XD at *
  generalize Y.map rowD = YD at *
  generalize (plusS k X Y).map rowD = PD at *
  generalize hmm : max X.length Y.length = n at *
  simp -implicitDefEqProofs [ir_impl_field_plus, ir_impl_field_plus_B, hX1, hY1, hmx, h24, e1, e2, hLn, htk]
def K_by2 (O : Oracle) : Prop := ∀ (p : Int) [IsP p] (m : Fp p) (a b : List (Fp p)), 2 ≤ m.len → m.len ≤ 64 → (∀ c ∈ a, c.len ≤ 64) → (∀ c ∈ b, c.len ≤ 64) → a.length < 10000 → b.length < 10000 → ask O F_impl_field_by [fldD m, skD a, skD b] = some (skD (prodS m a b))
theorem k_by2 {O : Oracle} (h : K_by O) : K_by2 O := by
  intro p ip m a b h2 hml ha hb hal hbl
  rw [h p m a b h2 hml ha hb hal hbl]
  unfold prodS
  split <;> rfl
theorem l_divR {O : Oracle} (hfr : K_frob O) (hin : K_inverted O) (hpr : K_product O) (hsi : K_single O) (hpl : K_plus O) (hby : K_by2 O) {p : Int} [IsP p] {m : Fp p} (hm : Fld m) {B : List (Fp p)} (hB : Sk m B) (h1 : 1 ≤ B.length) : ∀ (r : Nat) (Q X : List (Fp p)), X.length ≤ r → Sk m Q → Sk m X →
    dn O 0 (.loop ir_impl_field_divideRight_L0) ⟨[(1, .d (skD X)), (2, .d (skD B)), (3, .ptr 0 []), (8, .d (skD Q))], [.box false (fldD m)]⟩ =
      some (.exit 0, ⟨[(1, .d (skD (divG false m B r Q X).2)), (2, .d (skD B)), (3, .ptr 0 []), (8, .d (skD (divG false m B r Q X).1)), (16, (.d (.bool false)))], [.box false (fldD m)]⟩)
  | 0, Q, X, hr, hQ, hX => by
    have hlt : ¬ B.length ≤ X.length := by omega
    have hsX : skD X = .sl .leaf (X.map rowD) := rfl
    have hsB : skD B = .sl .leaf (B.map rowD) := rfl
    have hX1 : (X.map rowD).length = X.length := List.length_map ..
    have hB1 : (B.map rowD).length = B.length := List.length_map ..
    refine dn_stop ?_
    show _ = some (_, (⟨[(1, .d (skD X)), _, _, (8, .d (skD Q)), _], _⟩ : St))
    rw [hsX, hsB]
    generalize X.map rowD = XD at *
    generalize B.map rowD = BD at *
    simp -implicitDefEqProofs [ir_impl_field_divideRight_L0, dn_cond, hX1, hB1, hlt]
  | r + 1, Q, X, hr, hQ, hX => by
    have hsX : skD X = .sl .leaf (X.map rowD) := rfl
    have hsB : skD B = .sl .leaf (B.map rowD) := rfl
    have hsQ : skD Q = .sl .leaf (Q.map rowD) := rfl
    have hX1 : (X.map rowD).length = X.length := List.length_map ..
    have hB1 : (B.map rowD).length = B.length := List.length_map ..
    by_cases hlt : X.length < B.length
    · have hg : divG false m B (r + 1) Q X = (Q, X) := by unfold divG; rw [if_pos hlt]
      have hlt' : ¬ B.length ≤ X.length := by omega
      rw [hg]
      refine dn_stop ?_
      rw [hsX, hsB]
      generalize X.map rowD = XD at *
      generalize B.map rowD = BD at *
      simp -implicitDefEqProofs [ir_impl_field_divideRight_L0, dn_cond, hX1, hB1, hlt']
    · have hg : divG false m B (r + 1) Q X = divG false m B r (plusS 1 Q (qT false m X B)) (plusS (-1) X (qP false m X B)) := by
        conv => lhs; unfold divG
        rw [if_neg hlt]
      have hle : B.length ≤ X.length := by omega
      obtain ⟨s1, s2, s3, s4, s5, s6⟩ := step_ok false hm hX hB h1 hle
      have h2 := hm.two
      have h5 := hm.five
      have h8 := hX.eight
      have hB8 := hB.eight
      have hm0 := hm.mon.2
      have ih := l_divR hfr hin hpr hsi hpl hby hm hB h1 r (plusS 1 Q (qT false m X B)) (plusS (-1) X (qP false m X B)) (by omega) (hQ.plus hm0 s3 1) s6
      rw [← hg] at ih
      have hyl := hB.cs hm0 (B.length - 1)
      have hxl := hX.cs hm0 (X.length - 1)
      have e1 := hfr p m (cS B (B.length - 1)) (X.length - B.length) h2 (by omega) (by omega) (by omega)
      have hfl := frIt_len hm0 ((X.length - B.length) % (m.len - 1)) (cS B (B.length - 1)) hyl
      have e2 := hin p m (frIt m ((X.length - B.length) % (m.len - 1)) (cS B (B.length - 1))) hm0 (by omega) (by omega)
      have hil := invm_len hm0 (frIt m ((X.length - B.length) % (m.len - 1)) (cS B (B.length - 1)))
      have e3 := hpr p m (cS X (X.length - 1)) (invm m (frIt m ((X.length - B.length) % (m.len - 1)) (cS B (B.length - 1)))) hm0 (by omega) (by omega) (by omega)
      rw [show cS X (X.length - 1) * invm m (frIt m ((X.length - B.length) % (m.len - 1)) (cS B (B.length - 1))) % m = qc false m X B from rfl] at e3
      have e4 := hsi p (qc false m X B) (X.length - B.length) (by omega)
      rw [show termS (qc false m X B) (X.length - B.length) = qT false m X B from rfl] at e4
      have e5 := hpl p m Q (qT false m X B) 1 (by omega) (by omega) (by have := hQ.eight; omega) (by have := s3.eight; omega) (fun c hc => by have := hQ.res c hc; omega) (fun c hc => by have := s3.res c hc; omega)
      have e6 := hby p m (qT false m X B) B h2 (by omega) (fun c hc => by have := s3.res c hc; omega) (fun c hc => by have := hB.res c hc; omega) (by have := s3.eight; omega) (by omega)
      rw [show prodS m (qT false m X B) B = qP false m X B from rfl] at e6
      have e7 := hpl p m X (qP false m X B) (-1) (by omega) (by omega) (by omega) (by have := s4.eight; omega) (fun c hc => by have := hX.res c hc; omega) (fun c hc => by have := s4.res c hc; omega)
      have w1 : IntKind.i64.wrap ((X.length : Int) - B.length) = ((X.length - B.length : Nat) : Int) := (w64 (by omega)).trans (by omega)
      have w2 : IntKind.i64.wrap ((X.length : Int) - 1) = ((X.length - 1 : Nat) : Int) := (w64 (by omega)).trans (by omega)
      have w3 : IntKind.i64.wrap ((B.length : Int) - 1) = ((B.length - 1 : Nat) : Int) := (w64 (by omega)).trans (by omega)
      have hx1 : ∀ h : X.length - 1 < (X.map rowD).length, (X.map rowD)[X.length - 1]'h = (D.sl .leaf (ints .i64 (row (cS X (X.length - 1))))) := fun h => by rw [List.getElem_map, cS_lt (by omega)]
      have hx2 : ∀ h : B.length - 1 < (B.map rowD).length, (B.map rowD)[B.length - 1]'h = (D.sl .leaf (ints .i64 (row (cS B (B.length - 1))))) := fun h => by rw [List.getElem_map, cS_lt (by omega)]
      have hb1 : X.length - 1 < X.length := by omega
      have hb2 : B.length - 1 < B.length := by omega
      have hfd : fldD m = .st [.leaf, .leaf] [(D.int .i64 p), (D.sl .leaf (ints .i64 (row m)))] := rfl
      refine dn_round ?_ ih
      rw [show skD (plusS 1 Q (qT false m X B)) = .sl .leaf ((plusS 1 Q (qT false m X B)).map rowD) from rfl] at e5 ⊢
      rw [show skD (plusS (-1) X (qP false m X B)) = .sl .leaf ((plusS (-1) X (qP false m X B)).map rowD) from rfl] at e7 ⊢
      rw [show skD (qT false m X B) = .sl .leaf ((qT false m X B).map rowD) from rfl] at e4 e5 e6
      rw [show skD (qP false m X B) = .sl .leaf ((qP false m X B).map rowD) from rfl] at e6 e7
      rw [hsX] at e7 ⊢
      rw [hsB] at e6 ⊢
      rw [hsQ] at e5 ⊢
      rw [hfd] at e1 e2 e3 e5 e6 e7 ⊢
      generalize (plusS 1 Q (qT false m X B)).map rowD = D1 at *
      generalize (plusS (-1) X (qP false m X B)).map rowD = D2 at *
      generalize (qT false m X B).map rowD = D3 at *
      generalize (qP false m X B).map rowD = D4 at *
      generalize row (qc false m X B) = R1 at *
      generalize row (invm m (frIt m ((X.length - B.length) % (m.len - 1)) (cS B (B.length - 1)))) = R2 at *
      generalize row (frIt m ((X.length - B.length) % (m.len - 1)) (cS B (B.length - 1))) = R3 at *
      generalize row (cS X (X.length - 1)) = R4 at *
      generalize row (cS B (B.length - 1)) = R5 at *
      generalize X.map rowD = XD at *
      generalize B.map rowD = BD at *
      generalize Q.map rowD = QD at *
      generalize row m = Rm at *
      generalize X.length - B.length = xb at *
      generalize X.length - 1 = x1 at *
      generalize B.length - 1 = b1 at *
      simp -implicitDefEqProofs [ir_impl_field_divideRight_L0, dn_cond, hX1, hB1, hle, hb1, hb2, hx1, hx2, w1, w2, w3, e1, e2, e3, e4, e5, e6, e7]
/-- What a way to divide answers. -/
def K_div (O : Oracle) (F : Nat) (left : Bool) : Prop := ∀ (p : Int) [IsP p] (m : Fp p) (X B : List (Fp p)), Fld m → Sk m X → Sk m B → 1 ≤ B.length → ask O F [fldD m, skD X, skD B] = some (.tup [skD (divG left m B X.length [] X).1, skD (divG left m B X.length [] X).2])
theorem k_divR (hT : T F_impl_field_divideRight = some ir_impl_field_divideRight) (hfr : K_frob (den T A)) (hin : K_inverted (den T A)) (hpr : K_product (den T A)) (hsi : K_single (den T A)) (hpl : K_plus (den T A)) (hby : K_by2 (den T A)) : K_div (den T A) F_impl_field_divideRight false := by
  intro p ip m X B hm hX hB h1
  have e := l_divR (O := den T A) hfr hin hpr hsi hpl hby hm hB h1 X.length [] X (Nat.le_refl _) (Sk.nil m) hX
  rw [show skD ([] : List (Fp p)) = .sl .leaf [] from rfl] at e
  rw [show skD (divG false m B X.length [] X).1 = .sl .leaf ((divG false m B X.length [] X).1.map rowD) from rfl, show skD (divG false m B X.length [] X).2 = .sl .leaf ((divG false m B X.length [] X).2.map rowD) from rfl] at e ⊢
  rw [show skD X = .sl .leaf (X.map rowD) from rfl, show skD B = .sl .leaf (B.map rowD) from rfl] at e ⊢
  refine ask_of hT rfl ?_
  generalize (divG false m B X.length [] X).1.map rowD = D1 at *
  generalize (divG false m B X.length [] X).2.map rowD = D2 at *
  generalize X.map rowD = XD at *
  generalize B.map rowD = BD at *
  simp -implicitDefEqProofs [ir_impl_field_divideRight, ir_impl_field_divideRight_B, e]
end Pe

namespace Pe
open Go Gq
variable {T : Nat → Option Fn} {A : Oracle}
section
variable {p : Int} [IsP p]
end
end Pe



namespace Pe
open Go Gq
variable {T : Nat → Option Fn} {A : Oracle}
section
variable {p : Int} [IsP p]
end
end Pe


namespace Pe
open Go Gq
variable {T : Nat → Option Fn} {A : Oracle}
section
variable {p : Int}
end
section
variable {p : Int} [IsP p]
end
end Pe


namespace Pe
open Go Gq
variable {T : Nat → Option Fn} {A : Oracle}
end Pe

namespace Pe
open Go Gq
variable {T : Nat → Option Fn} {A : Oracle}
end Pe


namespace Pe
open Go Gq
variable {T : Nat → Option Fn} {A : Oracle}
section
variable {p : Int} [IsP p]
end
end Pe


namespace Pe
open Go Gq
variable {T : Nat → Option Fn} {A : Oracle}
section
variable {p : Int} [IsP p]
end
end Pe

namespace Pe
open Go Gq
variable {T : Nat → Option Fn} {A : Oracle}
section
variable {α : Type}
def updG (f : Nat → α) : Nat → Nat → List α → List α
  | 0, _, l => l
  | m + 1, i, l => updG f m (i + 1) (l.set i (f i))
theorem updG_get (f : Nat → α) : ∀ (m i : Nat) (l : List α) (j : Nat), (updG f m i l)[j]? = if i ≤ j ∧ j < i + m ∧ j < l.length then some (f j) else l[j]?
  | 0, i, l, j => by rw [updG, if_neg (by omega)]
  | m + 1, i, l, j => by
    rw [updG, updG_get f m, List.length_set]
    by_cases h1 : i + 1 ≤ j ∧ j < i + 1 + m ∧ j < l.length
    · rw [if_pos h1, if_pos (by omega)]
    · rw [if_neg h1]
      by_cases h2 : j = i
      · subst h2
        by_cases h3 : j < l.length
        · rw [if_pos (by omega), List.getElem?_set_self h3]
        · rw [if_neg (by omega), List.getElem?_eq_none (by simpa using h3), List.getElem?_eq_none (by omega)]
      · rw [List.getElem?_set_ne (Ne.symm h2), if_neg (by omega)]
theorem updG_all (f : Nat → α) (n : Nat) (l : List α) (hl : l.length = n) : updG f n 0 l = (List.range n).map f := by
  apply List.ext_getElem?
  intro j
  rw [updG_get, List.getElem?_map]
  by_cases hj : j < n
  · rw [if_pos (by omega), List.getElem?_range hj]; rfl
  · rw [if_neg (by omega), List.getElem?_eq_none (by omega), List.getElem?_eq_none (by simpa using hj)]; rfl
end
end Pe

namespace Pe
open Go Gq
variable {T : Nat → Option Fn} {A : Oracle}
def K_sInv3 (O : Oracle) : Prop := ∀ (p : Int) [IsP p] (m a : Fp p), m ≠ 0 → m.len ≤ 63 → a ≠ 0 → a.len < m.len → ask O F_spec_l03Inverse [(D.int .i64 p), (D.arr 64 .leaf (ints .u8 (pad (row a)))), (D.arr 64 .leaf (ints .u8 (pad (row m))))] = some (D.arr 64 .leaf (ints .u8 (pad (row (invm m a)))))
theorem k_sInv3 (hT : T F_spec_l03Inverse = some ir_spec_l03Inverse) (hmo : K_sMod (den T A)) (hb : K_sBezout (den T A)) : K_sInv3 (den T A) := by
  intro p ip m a hm hml ha hal
  have e2 := hb p a m ha (by omega) (by omega)
  have e3 := hmo p (Pol.bezout a m).2.1 m hm (bez_64 ha hml) (by omega)
  have e4 : (Pol.bezout a m).2.1 % m = invm m a := rfl
  rw [e4] at e3
  refine ask_of hT rfl ?_
  generalize pad (row (invm m a)) = R at *
  generalize pad (row (Pol.bezout a m).1) = R1 at *
  generalize pad (row (Pol.bezout a m).2.1) = R2 at *
  generalize pad (row (Pol.bezout a m).2.2) = R3 at *
  generalize pad (row a) = Pa at *
  generalize pad (row m) = Pm at *
  simp -implicitDefEqProofs [ir_spec_l03Inverse, ir_spec_l03Inverse_B, e2, e3, List.replicate]
/-- Eight residues, as data. -/
noncomputable abbrev eS {p : Int} (X : List (Fp p)) : D := skwD (skP (pd8 X))
theorem eS_arr {p : Int} (X : List (Fp p)) : eS X = .arr 8 (.arr 64 .leaf) ((skP (pd8 X)).map arr8) := rfl
theorem eS_get {p : Int} {X : List (Fp p)} {i : Nat} (hX : X.length ≤ 8) (hi : i < 8) : ∀ h : i < ((skP (pd8 X)).map arr8).length, ((skP (pd8 X)).map arr8)[i]'h = (D.arr 64 .leaf (ints .u8 (pad (row (cS X i))))) := fun h => by
  rw [List.getElem_map, List.getElem_map, cS_lt (by rw [pd8_length hX]; exact hi), cS_pd8]
theorem eS_len {p : Int} {X : List (Fp p)} (hX : X.length ≤ 8) : ((skP (pd8 X)).map arr8).length = 8 := by rw [List.length_map, List.length_map, pd8_length hX]
def K_sTerm (O : Oracle) : Prop := ∀ (p : Int) [IsP p] (c : Fp p) (k : Nat), k < 8 → ask O F_spec_l03Term [(D.arr 64 .leaf (ints .u8 (pad (row c)))), (D.int .i64 k)] = some (eS (termS c k))
theorem term_pd8 {p : Int} (c : Fp p) {k : Nat} (hk : k < 8) : pd8 (termS c k) = zs8.set k c := by
  have hz : pd8 ([] : List (Fp p)) = zs8 := rfl
  have h := pd8_set (Q := ([] : List (Fp p))) (k := k) (c := c) (by simp) hk rfl
  rw [hz] at h
  rw [h]
  refine eight_ext (pd8_length (by rw [termS_length]; omega)) (pd8_length (by have := plus_len 1 ([] : List (Fp p)) (termS c k); rw [termS_length] at this; simp at this; omega)) fun i _ => ?_
  rw [cS_pd8, cS_pd8, cS_plus, cS_nil, zp_one, Pol.C_one, Gq.one_mul, Gq.zero_add]
theorem k_sTerm (hT : T F_spec_l03Term = some ir_spec_l03Term) : K_sTerm (den T A) := by
  intro p ip c k hk
  rw [eS_arr, term_pd8 c hk, show (skP ((zs8 (p := p)).set k c)).map arr8 = z8.set k (D.arr 64 .leaf (ints .u8 (pad (row c)))) by unfold skP; rw [List.map_set, List.map_set, show ((zs8 (p := p)).map fun a => pad (row a)).map arr8 = z8 from z8_zs]]
  have hz8 : z8 = List.replicate 8 (D.arr 64 .leaf (ints .u8 (pad []))) := rfl
  have hlz : z8.length = 8 := rfl
  have hsz : ∀ h : k < z8.length, (z8[k]'h).sh.beq (.arr 64 .leaf) = true := fun h => by simp only [hz8, List.getElem_replicate]; rfl
  refine ask_of hT rfl ?_
  generalize pad (row c) = Pc at *
  generalize hzz : z8 = ZZ at *
  simp -implicitDefEqProofs [ir_spec_l03Term, ir_spec_l03Term_B, hk, hzz, hlz, hsz]
theorem l_sAdd8 {O : Oracle} (had : K_sAdd O) {p : Int} [IsP p] {X Y : List (Fp p)} {k : Int} {b : Blk} (hk : -1000 ≤ k ∧ k ≤ 1000) (hX8 : X.length ≤ 8) (hY8 : Y.length ≤ 8) (hX : ∀ c ∈ X, c.len ≤ 64) (hY : ∀ c ∈ Y, c.len ≤ 64) : ∀ (r i : Nat) (Q : List (Fp p)), i + r = 8 → Q.length = 8 → (∀ j, i ≤ j → cS Q j = cS X j) →
    dn O 0 (.loop ir_spec_l03Add_L0) ⟨[(0, (.d (.int .i64 p))), (3, (.d (.int .i64 k))), (5, .ptr 0 []), (6, .ptr 1 []), (8, .ptr 2 []), (9, (.d (.int .i64 i)))], [.box false (.arr 8 (.arr 64 .leaf) ((skP Q).map arr8)), .box false (.arr 8 (.arr 64 .leaf) ((skP (pd8 Y)).map arr8)), b]⟩ =
      some (.exit 0, ⟨[(0, (.d (.int .i64 p))), (3, (.d (.int .i64 k))), (5, .ptr 0 []), (6, .ptr 1 []), (8, .ptr 2 []), (9, (.d (.int .i64 8))), (11, (.d (.bool false)))], [.box false (.arr 8 (.arr 64 .leaf) ((skP (updG (fun i => cS X i + Pol.C (zp p k) * cS Y i) r i Q)).map arr8)), .box false (.arr 8 (.arr 64 .leaf) ((skP (pd8 Y)).map arr8)), b]⟩)
  | 0, i, Q, hi, hq, hQ => by
    obtain rfl : i = 8 := by omega
    refine dn_stop ?_
    show _ = some (_, (⟨_, [.box false (.arr 8 (.arr 64 .leaf) ((skP Q).map arr8)), _, _]⟩ : St))
    generalize (skP Q).map arr8 = QD at *
    generalize (skP (pd8 Y)).map arr8 = YD at *
    simp -implicitDefEqProofs [ir_spec_l03Add_L0, dn_cond]
  | r + 1, i, Q, hi, hq, hQ => by
    have hi8 : i < 8 := by omega
    have hi8' : (i : Int) < 8 := by omega
    have hltq : i < Q.length := by omega
    have a1 := mem_cS hX i
    have a2 := mem_cS hY i
    have e1 := had p k (cS X i) (cS Y i) (by omega) (by omega) a1 a2
    have w4 : IntKind.i64.wrap ((i : Int) + 1) = ((i + 1 : Nat) : Int) := (w64 (x := (i : Int) + 1) (by omega)).trans (by omega)
    have hx1 : ∀ h : i < ((skP Q).map arr8).length, ((skP Q).map arr8)[i]'h = (D.arr 64 .leaf (ints .u8 (pad (row (cS X i))))) := fun h => by
      rw [List.getElem_map, List.getElem_map, cS_lt hltq, hQ i (Nat.le_refl _)]
    have hx2 := eS_get hY8 hi8
    have hQL : ((skP Q).map arr8).length = 8 := by rw [List.length_map, List.length_map]; exact hq
    have hYL := eS_len hY8
    refine dn_round ?_ (l_sAdd8 had (b := b) hk hX8 hY8 hX hY r (i + 1) (Q.set i (cS X i + Pol.C (zp p k) * cS Y i)) (by omega) (by rw [List.length_set]; exact hq) (fun j hj => by rw [cS_set hltq, if_neg (by omega), hQ j (by omega)]))
    rw [show (skP (Q.set i (cS X i + Pol.C (zp p k) * cS Y i))).map arr8 = ((skP Q).map arr8).set i (D.arr 64 .leaf (ints .u8 (pad (row (cS X i + Pol.C (zp p k) * cS Y i))))) by unfold skP; rw [List.map_set, List.map_set]]
    generalize pad (row (cS X i + Pol.C (zp p k) * cS Y i)) = P1 at *
    generalize pad (row (cS X i)) = P2 at *
    generalize pad (row (cS Y i)) = P3 at *
    generalize (skP Q).map arr8 = QD at *
    generalize (skP (pd8 Y)).map arr8 = YD at *
    simp -implicitDefEqProofs [ir_spec_l03Add_L0, dn_cond, hi8, hi8', hQL, hYL, hx1, hx2, e1, w4]
def K_sAdd8 (O : Oracle) : Prop := ∀ (p : Int) [IsP p] (X Y : List (Fp p)) (k : Int), -1000 ≤ k → k ≤ 1000 → X.length ≤ 8 → Y.length ≤ 8 → (∀ c ∈ X, c.len ≤ 64) → (∀ c ∈ Y, c.len ≤ 64) → ask O F_spec_l03Add [(D.int .i64 p), eS X, eS Y, (D.int .i64 k)] = some (eS (plusS k X Y))
theorem k_sAdd8 (hT : T F_spec_l03Add = some ir_spec_l03Add) (had : K_sAdd (den T A)) : K_sAdd8 (den T A) := by
  intro p ip X Y k hk1 hk2 hX8 hY8 hX hY
  have e := l_sAdd8 (O := den T A) had (b := .box false (.arr 8 (.arr 64 .leaf) z8)) ⟨hk1, hk2⟩ hX8 hY8 hX hY 8 0 (pd8 X) rfl (pd8_length hX8) (fun j _ => cS_pd8 j)
  have e00 : ((0 : Nat) : Int) = 0 := rfl
  have hpl := plus_len k X Y
  rw [e00, updG_all _ _ _ (pd8_length hX8), show (List.range 8).map (fun i => cS X i + Pol.C (zp p k) * cS Y i) = pd8 (plusS k X Y) from eight_ext (by rw [List.length_map, List.length_range]) (pd8_length (by omega)) fun i hi => by rw [cS_map, if_pos hi, cS_pd8, cS_plus]] at e
  rw [eS_arr, eS_arr, eS_arr]
  refine ask_of hT rfl ?_
  generalize (skP (pd8 X)).map arr8 = XD at *
  generalize (skP (pd8 Y)).map arr8 = YD at *
  generalize (skP (pd8 (plusS k X Y))).map arr8 = PD at *
  simp -implicitDefEqProofs [ir_spec_l03Add, ir_spec_l03Add_B, e, List.replicate]
def K_sTimes8 (O : Oracle) : Prop := ∀ (p : Int) [IsP p] (m : Fp p) (X Y : List (Fp p)), Fld m → Sk m X → Sk m Y → X.length + Y.length ≤ 9 → ask O F_spec_l03Times [(D.int .i64 p), (D.arr 64 .leaf (ints .u8 (pad (row m)))), eS X, eS Y] = some (.tup [eS (prodS m X Y), (D.bool true)])
theorem pd8_res {p : Int} {m : Fp p} {X : List (Fp p)} (hm : m ≠ 0) (hX : ∀ c ∈ X, c.len < m.len) : ∀ c ∈ pd8 X, c.len < m.len := fun c hc => by
  unfold pd8 at hc
  rcases List.mem_append.1 hc with h | h
  · exact hX c h
  · rw [List.eq_of_mem_replicate h, Pol.len_zero]; exact Pol.len_pos hm
theorem k_sTimes8 {O : Oracle} (h : K_sTimes3 O) : K_sTimes8 O := by
  intro p ip m X Y hm hX hY h9
  have h5 := hm.five
  have e := h p m (pd8 X) (pd8 Y) hm.two (by omega) (pd8_length hX.eight) (pd8_length hY.eight) (pd8_res hm.mon.2 hX.res) (pd8_res hm.mon.2 hY.res)
  rw [times_pd8 hX.trim hY.trim h9 hX.res hY.res hm] at e
  exact e
def K_sDeg8 (O : Oracle) : Prop := ∀ (p : Int) [IsP p] (m : Fp p) (X : List (Fp p)), m ≠ 0 → m.len ≤ 64 → Sk m X → ask O F_spec_l03Deg [eS X] = some (D.int .i64 ((X.length : Int) - 1))
theorem k_sDeg8 {O : Oracle} (h : K_sSkDeg O) : K_sDeg8 O := by
  intro p ip m X hm hml hX
  have e := h p (pd8 X) (pd8_length hX.eight) (fun c hc => by have := pd8_res hm hX.res c hc; omega)
  rw [← trimS_len8 (pd8_length hX.eight), trim_pd8 hX.trim] at e
  exact e
end Pe

namespace Pe
open Go Gq
variable {T : Nat → Option Fn} {A : Oracle}
theorem l_sRight {O : Oracle} (hfr : K_sFrob O) (hin : K_sInv3 O) (hmm : K_sMulMod O) (hte : K_sTerm O) (hti : K_sTimes8 O) (had : K_sAdd8 O) (hdg : K_sDeg8 O) {p : Int} [IsP p] {m : Fp p} {z z2 : List D} (hm : Fld m) {B : List (Fp p)} (hB : Sk m B) (h1 : 1 ≤ B.length) : ∀ (r : Nat) (Q X : List (Fp p)), X.length ≤ r → Sk m Q → Sk m X → Zto Q X B →
    dn O 0 (.loop ir_spec_l03Right_L0) ⟨[(0, (.d (.int .i64 p))), (5, .ptr 0 []), (6, .ptr 1 []), (7, .ptr 2 []), (8, .ptr 3 []), (9, .ptr 4 []), (10, .ptr 5 []), (11, (.d (.int .i64 (((B.length - 1 : Nat) : Int))))), (12, (.d (.int .i64 ((X.length : Int) - 1))))], [.box false (D.arr 64 .leaf (ints .u8 (pad (row m)))), .box false (.arr 8 (.arr 64 .leaf) ((skP (pd8 X)).map arr8)), .box false (.arr 8 (.arr 64 .leaf) ((skP (pd8 B)).map arr8)), .box false (.arr 8 (.arr 64 .leaf) z), .box false (.arr 8 (.arr 64 .leaf) z2), .box false (.arr 8 (.arr 64 .leaf) ((skP (pd8 Q)).map arr8)), .hole, .hole]⟩ =
      some (.exit 0, ⟨[(0, (.d (.int .i64 p))), (5, .ptr 0 []), (6, .ptr 1 []), (7, .ptr 2 []), (8, .ptr 3 []), (9, .ptr 4 []), (10, .ptr 5 []), (11, (.d (.int .i64 (((B.length - 1 : Nat) : Int))))), (12, (.d (.int .i64 (((divG false m B r Q X).2.length : Int) - 1)))), (23, (.d (.bool false)))], [.box false (D.arr 64 .leaf (ints .u8 (pad (row m)))), .box false (.arr 8 (.arr 64 .leaf) ((skP (pd8 (divG false m B r Q X).2)).map arr8)), .box false (.arr 8 (.arr 64 .leaf) ((skP (pd8 B)).map arr8)), .box false (.arr 8 (.arr 64 .leaf) z), .box false (.arr 8 (.arr 64 .leaf) z2), .box false (.arr 8 (.arr 64 .leaf) ((skP (pd8 (divG false m B r Q X).1)).map arr8)), .hole, .hole]⟩)
  | 0, Q, X, hr, hQ, hX, hz => by
    have hlt : ¬ ((B.length - 1 : Nat) : Int) ≤ (X.length : Int) - 1 := by omega
    refine dn_stop ?_
    show _ = some (_, (⟨[_, _, _, _, _, _, _, _, (12, (.d (.int .i64 ((X.length : Int) - 1)))), _], [_, .box false (.arr 8 (.arr 64 .leaf) ((skP (pd8 X)).map arr8)), _, _, _, .box false (.arr 8 (.arr 64 .leaf) ((skP (pd8 Q)).map arr8)), _, _]⟩ : St))
    generalize (X.length : Int) - 1 = x1 at *
    generalize ((B.length - 1 : Nat) : Int) = b1 at *
    generalize (skP (pd8 X)).map arr8 = XD at *
    generalize (skP (pd8 B)).map arr8 = BD at *
    generalize (skP (pd8 Q)).map arr8 = QD at *
    generalize pad (row m) = Pm at *
    simp -implicitDefEqProofs [ir_spec_l03Right_L0, dn_cond, hlt]
  | r + 1, Q, X, hr, hQ, hX, hz => by
    by_cases hlt : X.length < B.length
    · have hg : divG false m B (r + 1) Q X = (Q, X) := by unfold divG; rw [if_pos hlt]
      have hlt' : ¬ ((B.length - 1 : Nat) : Int) ≤ (X.length : Int) - 1 := by omega
      rw [hg]
      refine dn_stop ?_
      generalize (X.length : Int) - 1 = x1 at *
      generalize ((B.length - 1 : Nat) : Int) = b1 at *
      generalize (skP (pd8 X)).map arr8 = XD at *
      generalize (skP (pd8 B)).map arr8 = BD at *
      generalize (skP (pd8 Q)).map arr8 = QD at *
      generalize pad (row m) = Pm at *
      simp -implicitDefEqProofs [ir_spec_l03Right_L0, dn_cond, hlt']
    · have hg : divG false m B (r + 1) Q X = divG false m B r (plusS 1 Q (qT false m X B)) (plusS (-1) X (qP false m X B)) := by
        conv => lhs; unfold divG
        rw [if_neg hlt]
      have hle : B.length ≤ X.length := by omega
      obtain ⟨s1, s2, s3, s4, s5, s6⟩ := step_ok false hm hX hB h1 hle
      have h2 := hm.two
      have h5 := hm.five
      have h8 := hX.eight
      have hB8 := hB.eight
      have hQ8 := hQ.eight
      have hm0 := hm.mon.2
      have hTl : (qT false m X B).length = X.length - B.length + 1 := termS_length _ _
      have hk8 : X.length - B.length < 8 := by omega
      have ih := l_sRight hfr hin hmm hte hti had hdg (z := z) (z2 := z2) hm hB h1 r (plusS 1 Q (qT false m X B)) (plusS (-1) X (qP false m X B)) (by omega) (hQ.plus hm0 s3 1) s6 (hz.step hm hX hB h1 hle)
      rw [← hg] at ih
      have hset := pd8_set (c := qc false m X B) hQ8 hk8 (hz _ (by omega))
      rw [show termS (qc false m X B) (X.length - B.length) = qT false m X B from rfl] at hset
      have hset2 : (skP (pd8 (plusS 1 Q (qT false m X B)))).map arr8 = ((skP (pd8 Q)).map arr8).set (X.length - B.length) (D.arr 64 .leaf (ints .u8 (pad (row (qc false m X B))))) := by
        rw [← hset]; unfold skP; rw [List.map_set, List.map_set]
      rw [hset2] at ih
      have hxl := hX.cs hm0 (X.length - 1)
      have e1 := hfr p m (cS B (B.length - 1)) (X.length - B.length) h2 (by omega) (by have := hB.cs hm0 (B.length - 1); omega) (by omega)
      have hfl := frIt_len hm0 ((X.length - B.length) % (m.len - 1)) (cS B (B.length - 1)) (hB.cs hm0 _)
      have e2 := hin p m (frIt m ((X.length - B.length) % (m.len - 1)) (cS B (B.length - 1))) hm0 (by omega) (frIt_ne hm _ _ (hB.top h1) (hB.cs hm0 _)) hfl
      have hil := invm_len hm0 (frIt m ((X.length - B.length) % (m.len - 1)) (cS B (B.length - 1)))
      have e3 := hmm p (cS X (X.length - 1)) (invm m (frIt m ((X.length - B.length) % (m.len - 1)) (cS B (B.length - 1)))) m hm0 (by omega) (by omega) (by omega)
      rw [show cS X (X.length - 1) * invm m (frIt m ((X.length - B.length) % (m.len - 1)) (cS B (B.length - 1))) % m = qc false m X B from rfl] at e3
      have e4 := hte p (qc false m X B) (X.length - B.length) hk8
      rw [show termS (qc false m X B) (X.length - B.length) = qT false m X B from rfl] at e4
      have e5 := hti p m (qT false m X B) B hm s3 hB (by have := hTl; omega)
      rw [show prodS m (qT false m X B) B = qP false m X B from rfl] at e5
      have e6 := had p X (qP false m X B) (-1) (by omega) (by omega) h8 s4.eight (fun c hc => by have := hX.res c hc; omega) (fun c hc => by have := s4.res c hc; omega)
      have e7 := hdg p m (plusS (-1) X (qP false m X B)) hm0 (by omega) s6
      have hge : ((B.length - 1 : Nat) : Int) ≤ ((X.length - 1 : Nat) : Int) := by omega
      have hgeN : B.length - 1 ≤ X.length - 1 := by omega
      have hx0 : (X.length : Int) - 1 = ((X.length - 1 : Nat) : Int) := by omega
      have w1 : IntKind.i64.wrap (((X.length - 1 : Nat) : Int) - ((B.length - 1 : Nat) : Int)) = ((X.length - B.length : Nat) : Int) := (w64 (by omega)).trans (by omega)
      have hx1 := eS_get (X := X) h8 (i := X.length - 1) (by omega)
      have hx2 := eS_get (X := B) hB8 (i := B.length - 1) (by omega)
      have hb1 : X.length - 1 < 8 := by omega
      have hb2 : B.length - 1 < 8 := by omega
      have hXL := eS_len h8
      have hBL := eS_len hB8
      have hQL := eS_len hQ8
      have hQs : ∀ h : X.length - B.length < ((skP (pd8 Q)).map arr8).length, (((skP (pd8 Q)).map arr8)[X.length - B.length]'h).sh.beq (.arr 64 .leaf) = true := fun h => by rw [List.getElem_map]; rfl
      have hfT := flats_arr8 (skP (pd8 (qT false m X B)))
      have hfP := flats_arr8 (skP (pd8 (qP false m X B)))
      have hfA := flats_arr8 (skP (pd8 (plusS (-1) X (qP false m X B))))
      rw [eS_arr] at e4 e7
      rw [eS_arr, eS_arr, eS_arr] at e5 e6
      rw [hx0]
      refine dn_round ?_ ih
      generalize ((plusS (-1) X (qP false m X B)).length : Int) - 1 = xn at *
      generalize (skP (pd8 (qT false m X B))).map arr8 = D1 at *
      generalize (skP (pd8 (qP false m X B))).map arr8 = D2 at *
      generalize (skP (pd8 (plusS (-1) X (qP false m X B)))).map arr8 = D3 at *
      generalize pad (row (qc false m X B)) = R1 at *
      generalize pad (row (invm m (frIt m ((X.length - B.length) % (m.len - 1)) (cS B (B.length - 1))))) = R2 at *
      generalize pad (row (frIt m ((X.length - B.length) % (m.len - 1)) (cS B (B.length - 1)))) = R3 at *
      generalize pad (row (cS X (X.length - 1))) = R4 at *
      generalize pad (row (cS B (B.length - 1))) = R5 at *
      generalize (skP (pd8 X)).map arr8 = XD at *
      generalize (skP (pd8 B)).map arr8 = BD at *
      generalize (skP (pd8 Q)).map arr8 = QD at *
      generalize pad (row m) = Pm at *
      generalize X.length - B.length = xb at *
      generalize X.length - 1 = x1 at *
      generalize B.length - 1 = b1 at *
      simp -implicitDefEqProofs [ir_spec_l03Right_L0, dn_cond, hge, hb1, hb2, hk8, hXL, hBL, hQL, hQs, hx1, hx2, w1, e1, e2, e3, e4, e5, e6, e7, hfT, hfP, hfA]
/-- What the reference's way to divide answers. -/
def K_sDiv (O : Oracle) (F : Nat) (left : Bool) : Prop := ∀ (p : Int) [IsP p] (m : Fp p) (X B : List (Fp p)), Fld m → Sk m X → Sk m B → 1 ≤ B.length → ask O F [(D.int .i64 p), (D.arr 64 .leaf (ints .u8 (pad (row m)))), eS X, eS B] = some (.tup [eS (divG left m B X.length [] X).1, eS (divG left m B X.length [] X).2])
theorem k_sRight (hT : T F_spec_l03Right = some ir_spec_l03Right) (hfr : K_sFrob (den T A)) (hin : K_sInv3 (den T A)) (hmm : K_sMulMod (den T A)) (hte : K_sTerm (den T A)) (hti : K_sTimes8 (den T A)) (had : K_sAdd8 (den T A)) (hdg : K_sDeg8 (den T A)) : K_sDiv (den T A) F_spec_l03Right false := by
  intro p ip m X B hm hX hB h1
  have h2 := hm.two
  have h5 := hm.five
  have e := l_sRight (O := den T A) hfr hin hmm hte hti had hdg (z := z8) (z2 := z8) hm hB h1 X.length [] X (Nat.le_refl _) (Sk.nil m) hX (fun j _ => rfl)
  have e1 := hdg p m X hm.mon.2 (by omega) hX
  have e2 := hdg p m B hm.mon.2 (by omega) hB
  rw [show (B.length : Int) - 1 = ((B.length - 1 : Nat) : Int) by omega] at e2
  rw [← z8_eq] at e
  rw [eS_arr] at e1 e2
  rw [eS_arr, eS_arr, eS_arr, eS_arr]
  refine ask_of hT rfl ?_
  generalize ((divG false m B X.length [] X).2.length : Int) - 1 = rn at *
  generalize (skP (pd8 (divG false m B X.length [] X).1)).map arr8 = D1 at *
  generalize (skP (pd8 (divG false m B X.length [] X).2)).map arr8 = D2 at *
  generalize (skP (pd8 X)).map arr8 = XD at *
  generalize (skP (pd8 B)).map arr8 = BD at *
  generalize pad (row m) = Pm at *
  generalize (X.length : Int) - 1 = x1 at *
  generalize ((B.length - 1 : Nat) : Int) = b1 at *
  simp -implicitDefEqProofs [ir_spec_l03Right, ir_spec_l03Right_B, e, e1, e2, List.replicate]
end Pe

namespace Pe
open Go Gq
variable {T : Nat → Option Fn} {A : Oracle}
theorem beqs_S : ∀ {ls ks : List (List Int)}, ls.length = ks.length → (∀ l ∈ ls, l.length = 64) → (∀ l ∈ ks, l.length = 64) → D.beqs (.arr 64 .leaf .int) (ls.map arr8) (ks.map arr8) = some (decide (ls = ks))
  | [], [], _, _, _ => rfl
  | l :: ls, k :: ks, h, h1, h2 => by
    have e1 := beq_P (h1 l (by simp)) (h2 k (by simp))
    have ih := beqs_S (ls := ls) (ks := ks) (by simpa using h) (fun x hx => h1 x (by simp [hx])) (fun x hx => h2 x (by simp [hx]))
    show (D.beq (.arr 64 .leaf .int) (D.arr 64 .leaf (ints .u8 l)) (D.arr 64 .leaf (ints .u8 k))).bind (fun b => if b then D.beqs (.arr 64 .leaf .int) (ls.map arr8) (ks.map arr8) else some false) = _
    rw [e1, ih, Option.bind_some]
    by_cases hlk : l = k
    · subst hlk
      rw [if_pos (decide_eq_true rfl)]
      congr 1
      exact decide_eq_decide.2 (by simp)
    · rw [decide_eq_false hlk, if_neg (by simp)]
      congr 1
      exact (decide_eq_false (by simp [hlk])).symm
theorem beq_S {ls ks : List (List Int)} (h : Sh8 ls) (h' : Sh8 ks) : D.beq (.arr 8 (.arr 64 .leaf) (.arr 64 .leaf .int)) (.arr 8 (.arr 64 .leaf) (ls.map arr8)) (.arr 8 (.arr 64 .leaf) (ks.map arr8)) = some (decide (ls = ks)) := by
  have e := beqs_S (h.1.trans h'.1.symm) h.2 h'.2
  have e2 : D.beq (.arr 8 (.arr 64 .leaf) (.arr 64 .leaf .int)) (.arr 8 (.arr 64 .leaf) (ls.map arr8)) (.arr 8 (.arr 64 .leaf) (ks.map arr8)) = if 8 = 8 ∧ 8 = 8 ∧ Sh.beq (.arr 64 .leaf) (.arr 64 .leaf) ∧ Sh.beq (.arr 64 .leaf) (.arr 64 .leaf) then D.beqs (.arr 64 .leaf .int) (ls.map arr8) (ks.map arr8) else none := rfl
  rw [e2, if_pos ⟨rfl, rfl, rfl, rfl⟩, e]
theorem skP_zero {p : Int} [IsP p] {R : List (Fp p)} (h8 : R.length = 8) (hR : ∀ a ∈ R, a.len ≤ 64) : skP R = List.replicate 8 (pad []) ↔ (trimS R).length = 0 := by
  have hz : skP (zs8 (p := p)) = List.replicate 8 (pad []) := by unfold skP zs8; rw [List.map_replicate, row_zero]
  constructor
  · intro h
    have h1 : R = zs8 := by
      have := map_polOf hR
      have h2 := map_polOf (S := zs8 (p := p)) (fun a ha => by rw [List.eq_of_mem_replicate ha, Pol.len_zero]; omega)
      rw [← this, h, ← hz, h2]
    rw [h1, ← pd8_nil, trim_pd8 isTrim_nil]; rfl
  · intro h
    have h1 : trimS R = [] := List.length_eq_zero_iff.1 h
    have h2 := pd8_trim h8
    rw [h1, pd8_nil] at h2
    rw [← h2, hz]
theorem eS_sh {p : Int} {m : Fp p} {X : List (Fp p)} (h : Sk m X) : Sh8 (skP (pd8 X)) := sh8_skP (pd8_length h.eight)
end Pe

namespace Pe
open Go Gq
variable {T : Nat → Option Fn} {A : Oracle}
section
variable {p : Int} [IsP p]
theorem byIn_cS {m x : Fp p} {i n : Nat} : ∀ (k : Nat) (b Q : List (Fp p)), i + k + b.length ≤ Q.length → cS (byIn m x i k b Q) n = if i + k ≤ n ∧ n < i + k + b.length then cS Q n + x * frIt m (i % (m.len - 1)) (cS b (n - (i + k))) % m else cS Q n
  | k, [], Q, _ => by rw [if_neg (by rw [List.length_nil]; omega)]; rfl
  | k, y :: ys, Q, h => by
    rw [List.length_cons] at h
    show cS (byIn m x i (k + 1) ys (addAt Q (i + k) _)) n = _
    rw [byIn_cS (k + 1) ys _ (by rw [addAt_length]; omega)]
    have hadd : ∀ v : Fp p, cS (addAt Q (i + k) v) n = if n = i + k then cS Q n + v else cS Q n := fun v => by
      unfold addAt
      rw [cS_set (by omega)]
      split
      · rename_i h; rw [h]; rfl
      · rfl
    rw [hadd]
    by_cases h1 : n = i + k
    · subst h1
      rw [if_neg (by omega), if_pos rfl, if_pos (by rw [List.length_cons]; omega), Nat.sub_self]
      rfl
    · rw [if_neg h1]
      by_cases h2 : i + k ≤ n ∧ n < i + k + (y :: ys).length
      · rw [List.length_cons] at h2
        rw [if_pos (by omega), if_pos (by rw [List.length_cons]; omega)]
        have : cS (y :: ys) (n - (i + k)) = cS ys (n - (i + (k + 1))) := by
          unfold cS
          rw [show n - (i + k) = (n - (i + (k + 1))) + 1 by omega, List.getElem?_cons_succ]
        rw [this]
      · rw [if_neg h2, if_neg (by rw [List.length_cons] at h2; omega)]
theorem prod_one {m x : Fp p} (hm : m ≠ 0) (X : List (Fp p)) (i : Nat) : cS (prodS m (termS x 0) X) i = x * cS X i % m := by
  unfold prodS
  have hz : x * 0 % m = 0 := by rw [Gq.mul_zero, Pol.zero_mod hm]
  by_cases h0 : X.length = 0
  · rw [if_pos (.inr h0), cS_nil, cS_ge (by omega), hz]
  · rw [if_neg (by rw [termS_length]; omega), cS_trim]
    show cS (byIn m x 0 0 X (List.replicate ((termS x 0).length + X.length - 1) 0)) i = _
    rw [termS_length, byIn_cS 0 X _ (by rw [List.length_replicate]; omega), Nat.zero_mod]
    have hr : cS (List.replicate (0 + 1 + X.length - 1) (0 : Fp p)) i = 0 := by
      unfold cS
      rw [List.getElem?_replicate]
      split <;> rfl
    rw [hr]
    split
    · rw [Gq.zero_add]; rfl
    · rw [cS_ge (A := X) (by omega), hz]
/-- Made monic. -/
noncomputable def monS (m : Fp p) (X : List (Fp p)) : List (Fp p) := prodS m (termS (invm m (cS X (X.length - 1))) 0) X
theorem Sk.mon {m : Fp p} {X : List (Fp p)} (hm : m ≠ 0) (hX : Sk m X) : Sk m (monS m X) := by
  have h1 := Pol.len_pos hm
  have hl := prod_len_le (m := m) (a := termS (invm m (cS X (X.length - 1))) 0) (b := X)
  rw [termS_length] at hl
  have h8 := hX.eight
  exact ⟨isTrim_prod _ _ _, by unfold monS; omega, fun c hc => by have := prodS_lens' (N := m.len - 1) hm (by omega) c hc; omega⟩
/-- The right divisor, not yet monic. -/
noncomputable def gcdS (m : Fp p) : Nat → List (Fp p) → List (Fp p) → List (Fp p)
  | 0, A, _ => A
  | n + 1, A, B => if B.length = 0 then A else gcdS m n B (divG false m B A.length [] A).2
theorem gcdS_ok {m : Fp p} (hm : Fld m) : ∀ (n : Nat) (A B : List (Fp p)), B.length ≤ n → Sk m A → Sk m B → (1 ≤ A.length ∨ 1 ≤ B.length) → Sk m (gcdS m n A B) ∧ 1 ≤ (gcdS m n A B).length
  | 0, A, B, hn, hA, hB, h => ⟨hA, by show 1 ≤ A.length; omega⟩
  | n + 1, A, B, hn, hA, hB, h => by
    unfold gcdS
    split
    · exact ⟨hA, by omega⟩
    · obtain ⟨_, g2, g3⟩ := divG_ok false hm hB (by omega) A.length [] A (Nat.le_refl _) (Sk.nil m) hA
      exact gcdS_ok hm n B _ (by omega) hB g2 (.inl (by omega))
end
def K_monic (O : Oracle) : Prop := ∀ (p : Int) [IsP p] (m : Fp p) (X : List (Fp p)), Fld m → (∀ c ∈ X, c.len < m.len) → X.length ≤ 1000 → 1 ≤ X.length → ask O F_impl_field_monic [fldD m, skD X] = some (skD (monS m X))
theorem k_monic (hT : T F_impl_field_monic = some ir_impl_field_monic) (hin : K_inverted (den T A)) (hsi : K_single (den T A)) (hby : K_by2 (den T A)) : K_monic (den T A) := by
  intro p ip m X hm hX h8 h1
  have h5 := hm.five
  have hm0 := hm.mon.2
  have hxl : (cS X (X.length - 1)).len < m.len := by
    rw [← cS_lt (show X.length - 1 < X.length by omega)]; exact hX _ (List.getElem_mem _)
  have e1 := hin p m (cS X (X.length - 1)) hm0 (by omega) (by omega)
  have hil := invm_len hm0 (cS X (X.length - 1))
  have e2 := hsi p (invm m (cS X (X.length - 1))) 0 (by omega)
  have e3 := hby p m (termS (invm m (cS X (X.length - 1))) 0) X hm.two (by omega) (fun c hc => by
    unfold termS at hc
    rw [List.replicate_zero, List.nil_append] at hc
    rw [List.mem_singleton.1 hc]; omega) (fun c hc => by have := hX c hc; omega) (by rw [termS_length]; omega) (by omega)
  rw [show prodS m (termS (invm m (cS X (X.length - 1))) 0) X = monS m X from rfl] at e3
  have hX1 : (X.map rowD).length = X.length := List.length_map ..
  have w1 : IntKind.i64.wrap ((X.length : Int) - 1) = ((X.length - 1 : Nat) : Int) := (w64 (by omega)).trans (by omega)
  have hx1 : ∀ h : X.length - 1 < (X.map rowD).length, (X.map rowD)[X.length - 1]'h = (D.sl .leaf (ints .i64 (row (cS X (X.length - 1))))) := fun h => by rw [List.getElem_map, cS_lt (by omega)]
  have hb1 : X.length - 1 < X.length := by omega
  have e00 : ((0 : Nat) : Int) = 0 := rfl
  have hfd : fldD m = .st [.leaf, .leaf] [(D.int .i64 p), (D.sl .leaf (ints .i64 (row m)))] := rfl
  rw [e00] at e2
  rw [show skD (monS m X) = .sl .leaf ((monS m X).map rowD) from rfl] at e3 ⊢
  rw [show skD (termS (invm m (cS X (X.length - 1))) 0) = .sl .leaf ((termS (invm m (cS X (X.length - 1))) 0).map rowD) from rfl] at e2 e3
  rw [show skD X = .sl .leaf (X.map rowD) from rfl] at e3 ⊢
  rw [hfd] at e1 e3 ⊢
  refine ask_of hT rfl ?_
  generalize (monS m X).map rowD = MD at *
  generalize (termS (invm m (cS X (X.length - 1))) 0).map rowD = TD at *
  generalize row (invm m (cS X (X.length - 1))) = R1 at *
  generalize row (cS X (X.length - 1)) = R2 at *
  generalize X.map rowD = XD at *
  generalize row m = Rm at *
  generalize X.length - 1 = x1 at *
  simp -implicitDefEqProofs [ir_impl_field_monic, ir_impl_field_monic_B, hX1, w1, hx1, hb1, e1, e2, e3]
theorem l_sMon {O : Oracle} (hmm : K_sMulMod O) {p : Int} [IsP p] {m x : Fp p} {X : List (Fp p)} {b : Blk} (hm : Fld m) (hx : x.len < m.len) (hX : Sk m X) : ∀ (r i : Nat) (Q : List (Fp p)), i + r = 8 → Q.length = 8 → (∀ j, i ≤ j → cS Q j = cS X j) →
    dn O 0 (.loop ir_spec_l03Monic_L0) ⟨[(0, (.d (.int .i64 p))), (4, .ptr 0 []), (5, .ptr 1 []), (6, .ptr 2 []), (7, .ptr 3 []), (8, (.d (.int .i64 i)))], [.box false (D.arr 64 .leaf (ints .u8 (pad (row m)))), .box false (.arr 8 (.arr 64 .leaf) ((skP Q).map arr8)), b, .box false (D.arr 64 .leaf (ints .u8 (pad (row x))))]⟩ =
      some (.exit 0, ⟨[(0, (.d (.int .i64 p))), (4, .ptr 0 []), (5, .ptr 1 []), (6, .ptr 2 []), (7, .ptr 3 []), (8, (.d (.int .i64 8))), (17, (.d (.bool false)))], [.box false (D.arr 64 .leaf (ints .u8 (pad (row m)))), .box false (.arr 8 (.arr 64 .leaf) ((skP (updG (fun i => x * cS X i % m) r i Q)).map arr8)), b, .box false (D.arr 64 .leaf (ints .u8 (pad (row x))))]⟩)
  | 0, i, Q, hi, hq, hQ => by
    obtain rfl : i = 8 := by omega
    refine dn_stop ?_
    show _ = some (_, (⟨_, [_, .box false (.arr 8 (.arr 64 .leaf) ((skP Q).map arr8)), _, _]⟩ : St))
    generalize (skP Q).map arr8 = QD at *
    generalize pad (row m) = Pm at *
    generalize pad (row x) = Px at *
    simp -implicitDefEqProofs [ir_spec_l03Monic_L0, dn_cond]
  | r + 1, i, Q, hi, hq, hQ => by
    have h5 := hm.five
    have hi8 : i < 8 := by omega
    have hi8' : (i : Int) < 8 := by omega
    have hltq : i < Q.length := by omega
    have a1 := hX.cs hm.mon.2 i
    have e1 := hmm p x (cS X i) m hm.mon.2 (by omega) (by omega) (by omega)
    have w4 : IntKind.i64.wrap ((i : Int) + 1) = ((i + 1 : Nat) : Int) := (w64 (x := (i : Int) + 1) (by omega)).trans (by omega)
    have hx1 : ∀ h : i < ((skP Q).map arr8).length, ((skP Q).map arr8)[i]'h = (D.arr 64 .leaf (ints .u8 (pad (row (cS X i))))) := fun h => by
      rw [List.getElem_map, List.getElem_map, cS_lt hltq, hQ i (Nat.le_refl _)]
    have hQL : ((skP Q).map arr8).length = 8 := by rw [List.length_map, List.length_map]; exact hq
    refine dn_round ?_ (l_sMon hmm (b := b) hm hx hX r (i + 1) (Q.set i (x * cS X i % m)) (by omega) (by rw [List.length_set]; exact hq) (fun j hj => by rw [cS_set hltq, if_neg (by omega), hQ j (by omega)]))
    rw [show (skP (Q.set i (x * cS X i % m))).map arr8 = ((skP Q).map arr8).set i (D.arr 64 .leaf (ints .u8 (pad (row (x * cS X i % m))))) by unfold skP; rw [List.map_set, List.map_set]]
    generalize pad (row (x * cS X i % m)) = P1 at *
    generalize pad (row (cS X i)) = P2 at *
    generalize (skP Q).map arr8 = QD at *
    generalize pad (row m) = Pm at *
    generalize pad (row x) = Px at *
    simp -implicitDefEqProofs [ir_spec_l03Monic_L0, dn_cond, hi8, hi8', hQL, hx1, e1, w4]
def K_sMonic3 (O : Oracle) : Prop := ∀ (p : Int) [IsP p] (m : Fp p) (X : List (Fp p)), Fld m → Sk m X → 1 ≤ X.length → ask O F_spec_l03Monic [(D.int .i64 p), (D.arr 64 .leaf (ints .u8 (pad (row m)))), eS X] = some (eS (monS m X))
theorem k_sMonic3 (hT : T F_spec_l03Monic = some ir_spec_l03Monic) (hdg : K_sDeg8 (den T A)) (hin : K_sInv3 (den T A)) (hmm : K_sMulMod (den T A)) : K_sMonic3 (den T A) := by
  intro p ip m X hm hX h1
  have h5 := hm.five
  have hm0 := hm.mon.2
  have h8 := hX.eight
  have e1 := hdg p m X hm0 (by omega) hX
  rw [show (X.length : Int) - 1 = ((X.length - 1 : Nat) : Int) by omega] at e1
  have e2 := hin p m (cS X (X.length - 1)) hm0 (by omega) (hX.top h1) (hX.cs hm0 _)
  have e3 := l_sMon (O := den T A) hmm (b := .box false (.arr 8 (.arr 64 .leaf) z8)) hm (invm_len hm0 (cS X (X.length - 1))) hX 8 0 (pd8 X) rfl (pd8_length h8) (fun j _ => cS_pd8 j)
  have e00 : ((0 : Nat) : Int) = 0 := rfl
  have hmn := hX.mon hm0
  rw [e00, updG_all _ _ _ (pd8_length h8), show (List.range 8).map (fun i => invm m (cS X (X.length - 1)) * cS X i % m) = pd8 (monS m X) from eight_ext (by rw [List.length_map, List.length_range]) (pd8_length hmn.eight) fun i hi => by rw [cS_map, if_pos hi, cS_pd8]; unfold monS; rw [prod_one hm0]] at e3
  have hx1 := eS_get (X := X) h8 (i := X.length - 1) (by omega)
  have hb1 : X.length - 1 < 8 := by omega
  have hXL := eS_len h8
  rw [eS_arr] at e1
  rw [eS_arr, eS_arr]
  refine ask_of hT rfl ?_
  generalize (skP (pd8 (monS m X))).map arr8 = MD at *
  generalize pad (row (invm m (cS X (X.length - 1)))) = P1 at *
  generalize pad (row (cS X (X.length - 1))) = P2 at *
  generalize (skP (pd8 X)).map arr8 = XD at *
  generalize pad (row m) = Pm at *
  generalize X.length - 1 = x1 at *
  simp -implicitDefEqProofs [ir_spec_l03Monic, ir_spec_l03Monic_B, hXL, hx1, hb1, e1, e2, e3, List.replicate]
theorem l_sRdiv {O : Oracle} (hdg : K_sDeg8 O) (hd : K_sDiv O F_spec_l03Right false) {p : Int} [IsP p] {m : Fp p} (hm : Fld m) {z : List D} : ∀ (r : Nat) (X B : List (Fp p)), B.length ≤ r → Sk m X → Sk m B →
    dn O 0 (.loop ir_spec_l03Divisor_L0) ⟨[(0, (.d (.int .i64 p))), (5, .ptr 0 []), (6, .ptr 1 []), (7, .ptr 2 []), (8, .ptr 3 [])], [.box false (D.arr 64 .leaf (ints .u8 (pad (row m)))), .box false (.arr 8 (.arr 64 .leaf) ((skP (pd8 X)).map arr8)), .box false (.arr 8 (.arr 64 .leaf) ((skP (pd8 B)).map arr8)), .box false (.arr 8 (.arr 64 .leaf) z), .hole, .hole]⟩ =
      some (.exit 0, ⟨[(0, (.d (.int .i64 p))), (5, .ptr 0 []), (6, .ptr 1 []), (7, .ptr 2 []), (8, .ptr 3 []), (13, (.d (.bool false)))], [.box false (D.arr 64 .leaf (ints .u8 (pad (row m)))), .box false (.arr 8 (.arr 64 .leaf) ((skP (pd8 (gcdS m r X B))).map arr8)), .box false (.arr 8 (.arr 64 .leaf) ((skP (pd8 ([] : List (Fp p)))).map arr8)), .box false (.arr 8 (.arr 64 .leaf) z), .hole, .hole]⟩)
  | 0, X, B, hr, hX, hB => by
    have h5 := hm.five
    obtain rfl : B = [] := List.length_eq_zero_iff.1 (by omega)
    have e1 := hdg p m [] hm.mon.2 (by omega) hB
    rw [eS_arr, List.length_nil] at e1
    refine dn_stop ?_
    show _ = some (_, (⟨_, [_, .box false (.arr 8 (.arr 64 .leaf) ((skP (pd8 X)).map arr8)), _, _, _, _]⟩ : St))
    generalize (skP (pd8 X)).map arr8 = XD at *
    generalize (skP (pd8 ([] : List (Fp p)))).map arr8 = BD at *
    generalize pad (row m) = Pm at *
    simp -implicitDefEqProofs [ir_spec_l03Divisor_L0, dn_cond, e1]
  | r + 1, X, B, hr, hX, hB => by
    have h5 := hm.five
    have e1 := hdg p m B hm.mon.2 (by omega) hB
    rw [eS_arr] at e1
    by_cases h0 : B.length = 0
    · obtain rfl : B = [] := List.length_eq_zero_iff.1 h0
      have hg : gcdS m (r + 1) X [] = X := by unfold gcdS; exact if_pos rfl
      rw [hg]
      rw [List.length_nil] at e1
      refine dn_stop ?_
      generalize (skP (pd8 X)).map arr8 = XD at *
      generalize (skP (pd8 ([] : List (Fp p)))).map arr8 = BD at *
      generalize pad (row m) = Pm at *
      simp -implicitDefEqProofs [ir_spec_l03Divisor_L0, dn_cond, e1]
    · have hg : gcdS m (r + 1) X B = gcdS m r B (divG false m B X.length [] X).2 := by
        conv => lhs; unfold gcdS
        rw [if_neg h0]
      obtain ⟨g1, g2, g3⟩ := divG_ok false hm hB (by omega) X.length [] X (Nat.le_refl _) (Sk.nil m) hX
      have ih := l_sRdiv hdg hd hm (z := z) r B (divG false m B X.length [] X).2 (by omega) hB g2
      rw [← hg] at ih
      have e2 := hd p m X B hm hX hB (by omega)
      rw [show (B.length : Int) - 1 = ((B.length - 1 : Nat) : Int) by omega] at e1
      have hf1 := flats_arr8 (skP (pd8 (divG false m B X.length [] X).1))
      have hf2 := flats_arr8 (skP (pd8 (divG false m B X.length [] X).2))
      rw [eS_arr, eS_arr, eS_arr, eS_arr] at e2
      refine dn_round ?_ ih
      generalize (skP (pd8 (divG false m B X.length [] X).1)).map arr8 = D1 at *
      generalize (skP (pd8 (divG false m B X.length [] X).2)).map arr8 = D2 at *
      generalize (skP (pd8 X)).map arr8 = XD at *
      generalize (skP (pd8 B)).map arr8 = BD at *
      generalize pad (row m) = Pm at *
      generalize B.length - 1 = b1 at *
      simp -implicitDefEqProofs [ir_spec_l03Divisor_L0, dn_cond, e1, e2, hf1, hf2]
def K_sRdiv (O : Oracle) : Prop := ∀ (p : Int) [IsP p] (m : Fp p) (X B : List (Fp p)), Fld m → Sk m X → Sk m B → (1 ≤ X.length ∨ 1 ≤ B.length) → ask O F_spec_l03Divisor [(D.int .i64 p), (D.arr 64 .leaf (ints .u8 (pad (row m)))), eS X, eS B] = some (eS (monS m (gcdS m B.length X B)))
theorem k_sRdiv (hT : T F_spec_l03Divisor = some ir_spec_l03Divisor) (hdg : K_sDeg8 (den T A)) (hd : K_sDiv (den T A) F_spec_l03Right false) (hmo : K_sMonic3 (den T A)) : K_sRdiv (den T A) := by
  intro p ip m X B hm hX hB h1
  obtain ⟨g1, g2⟩ := gcdS_ok hm B.length X B (Nat.le_refl _) hX hB h1
  have e1 := l_sRdiv (O := den T A) hdg hd hm (z := z8) B.length X B (Nat.le_refl _) hX hB
  have e2 := hmo p m (gcdS m B.length X B) hm g1 g2
  have hf1 := flats_arr8 (skP (pd8 (monS m (gcdS m B.length X B))))
  rw [eS_arr, eS_arr] at e2
  rw [eS_arr, eS_arr, eS_arr]
  refine ask_of hT rfl ?_
  generalize (skP (pd8 (monS m (gcdS m B.length X B)))).map arr8 = D1 at *
  generalize (skP (pd8 (gcdS m B.length X B))).map arr8 = D2 at *
  generalize (skP (pd8 ([] : List (Fp p)))).map arr8 = D3 at *
  generalize (skP (pd8 X)).map arr8 = XD at *
  generalize (skP (pd8 B)).map arr8 = BD at *
  generalize pad (row m) = Pm at *
  simp -implicitDefEqProofs [ir_spec_l03Divisor, ir_spec_l03Divisor_B, e1, e2, hf1, List.replicate]
theorem ms_of {p : Int} {l : List Int} {ls ks : List (List Int)} (h8 : Sk8 ls) (k8 : Sk8 ks) (h : MsOk p l ls ks) : ∃ (_ : IsP p) (m : Fp p) (S R : List (Fp p)), l = pad (row m) ∧ ls = skP S ∧ ks = skP R ∧ Fld m ∧ S.length = 8 ∧ R.length = 8 ∧ (∀ c ∈ S, c.len < m.len) ∧ (∀ c ∈ R, c.len < m.len) := by
  obtain ⟨ip, m, rfl, hm, hs, hr⟩ := h
  obtain ⟨S, rfl, hS⟩ := sk_of hs
  obtain ⟨R, rfl, hR⟩ := sk_of hr
  have hS8 : S.length = 8 := by have := h8.2; rwa [List.length_map] at this
  have hR8 : R.length = 8 := by have := k8.2; rwa [List.length_map] at this
  exact ⟨ip, m, S, R, rfl, rfl, rfl, hm, hS8, hR8, hS, hR⟩
end Pe

namespace Pe
open Go Gq
variable {T : Nat → Option Fn} {A : Oracle}
section
variable {p : Int}
theorem plus_len_left {k : Int} {X Y : List (Fp p)} (hX : IsTrim X) (h : Y.length < X.length) : (plusS k X Y).length = X.length := by
  have h1 := plus_len k X Y
  rcases Nat.lt_or_ge (plusS k X Y).length X.length with g | g
  · have h2 := cS_plus k X Y (X.length - 1)
    rw [cS_ge (A := plusS k X Y) (by omega), cS_ge (A := Y) (by omega), Gq.mul_zero, Gq.add_zero] at h2
    exact absurd h2.symm (hX (X.length - 1) (by omega))
  · omega
theorem plus_len_right {k : Int} {X Y : List (Fp p)} (hY : IsTrim Y) (hk : ∀ y : Fp p, Pol.C (zp p k) * y = 0 → y = 0) (h : X.length < Y.length) : (plusS k X Y).length = Y.length := by
  have h1 := plus_len k X Y
  rcases Nat.lt_or_ge (plusS k X Y).length Y.length with g | g
  · have h2 := cS_plus k X Y (Y.length - 1)
    rw [cS_ge (A := plusS k X Y) (by omega), cS_ge (A := X) (by omega), Gq.zero_add] at h2
    exact absurd (hk _ h2.symm) (hY (Y.length - 1) (by omega))
  · omega
theorem c_one {y : Fp p} (h : Pol.C (zp p 1) * y = 0) : y = 0 := by
  rw [zp_one, Pol.C_one, Gq.one_mul] at h; exact h
theorem c_minus {y : Fp p} (h : Pol.C (zp p (-1)) * y = 0) : y = 0 := by
  have h1 : y + Pol.C (zp p (-1)) * y = 0 := by
    rw [zp_neg, zp_one, Pol.C_neg, Pol.C_one]
    exact ring_of [y] rfl
  rw [h, Gq.add_zero] at h1; exact h1
end
section
variable {p : Int} [IsP p]
theorem prodS_len {m : Fp p} (hm : Fld m) {X Y : List (Fp p)} (hX : IsTrim X) (hY : IsTrim Y) (hXl : ∀ c ∈ X, c.len < m.len) (hYl : ∀ c ∈ Y, c.len < m.len) (h1 : 1 ≤ X.length) (h2 : 1 ≤ Y.length) : (prodS m X Y).length = X.length + Y.length - 1 := by
  obtain ⟨a, ea, la⟩ := snoc_of h1
  obtain ⟨b, eb, lb⟩ := snoc_of h2
  have hx := hX (X.length - 1) (by omega)
  have hy := hY (Y.length - 1) (by omega)
  have ht := mulS_top hm (a := a) (b := b) hx (hXl _ (by rw [← cS_lt (show X.length - 1 < X.length by omega)]; exact List.getElem_mem _)) hy (hYl _ (by rw [← cS_lt (show Y.length - 1 < Y.length by omega)]; exact List.getElem_mem _))
  rw [← ea, ← eb] at ht
  unfold prodS
  rw [if_neg (by omega), ht]
  unfold mulS
  rw [byOut_length, List.length_replicate]
theorem divG_len_ge {m : Fp p} (hm : Fld m) {B : List (Fp p)} (hB : Sk m B) (h1 : 1 ≤ B.length) : ∀ (n : Nat) (Q A : List (Fp p)), Sk m A → IsTrim Q → A.length + 2 ≤ Q.length + B.length → (divG false m B n Q A).1.length = Q.length
  | 0, _, _, _, _, _ => rfl
  | n + 1, Q, A, hA, hQ, h => by
    unfold divG
    split
    · rfl
    · obtain ⟨_, _, _, _, hl, hA'⟩ := step_ok false hm hA hB h1 (by omega)
      have hT : (qT false m A B).length = A.length - B.length + 1 := termS_length _ _
      have e := plus_len_left (k := 1) hQ (Y := qT false m A B) (by omega)
      rw [divG_len_ge hm hB h1 n _ _ hA' (isTrim_plus _ _ _) (by omega), e]
theorem divG_len {m : Fp p} (hm : Fld m) {A B : List (Fp p)} (hA : Sk m A) (hB : Sk m B) (h1 : 1 ≤ B.length) (hle : B.length ≤ A.length) : (divG false m B A.length [] A).1.length = A.length - B.length + 1 := by
  have key : ∀ n, A.length = n + 1 → (divG false m B (n + 1) [] A).1.length = A.length - B.length + 1 := fun n hn => by
    unfold divG
    rw [if_neg (by omega)]
    obtain ⟨hc, _, _, _, hl, hA'⟩ := step_ok false hm hA hB h1 hle
    have hT : (qT false m A B).length = A.length - B.length + 1 := termS_length _ _
    have e := plus_len_right (k := 1) (X := ([] : List (Fp p))) (Y := qT false m A B) (isTrim_term hc _) (fun y => c_one) (by rw [hT, List.length_nil]; omega)
    rw [divG_len_ge hm hB h1 n _ _ hA' (isTrim_plus _ _ _) (by omega), e, hT]
  have := key (A.length - 1) (by omega)
  rw [show A.length - 1 + 1 = A.length by omega] at this
  exact this
/-- The second cofactor. -/
noncomputable def multS (m : Fp p) : Nat → List (Fp p) → List (Fp p) → List (Fp p) → List (Fp p) → List (Fp p)
  | 0, _, _, _, V => V
  | n + 1, A, B, U, V => if B.length = 0 then V else multS m n B (divG false m B A.length [] A).2 V (plusS (-1) U (prodS m (divG false m B A.length [] A).1 V))
def MI (N : Nat) (A B U V : List (Fp p)) : Prop := (U.length = 1 ∧ V.length = 0 ∧ B.length = N) ∨ (U.length < V.length ∧ B.length < A.length ∧ V.length + A.length = N + 1)
theorem mul_step {m : Fp p} (hm : Fld m) {N : Nat} {A B U V : List (Fp p)} (hA : Sk m A) (hB : Sk m B) (hU : Sk m U) (hV : Sk m V) (hN : N ≤ 8) (hi : MI N A B U V) (h1 : 1 ≤ B.length) :
    Sk m (prodS m (divG false m B A.length [] A).1 V) ∧ (divG false m B A.length [] A).1.length + V.length ≤ 9 ∧ Sk m (plusS (-1) U (prodS m (divG false m B A.length [] A).1 V)) ∧ MI N B (divG false m B A.length [] A).2 V (plusS (-1) U (prodS m (divG false m B A.length [] A).1 V)) := by
  have h0 := hm.mon.2
  have hm1 := Pol.len_pos h0
  obtain ⟨g1, g2, g3⟩ := divG_ok false hm hB h1 A.length [] A (Nat.le_refl _) (Sk.nil m) hA
  have q8 := g1.eight
  have b8 := hB.eight
  have hP : ∀ n, (prodS m (divG false m B A.length [] A).1 V).length ≤ n → n ≤ 8 → Sk m (prodS m (divG false m B A.length [] A).1 V) := fun n h hn => ⟨isTrim_prod _ _ _, by omega, fun c hc => by
    have := prodS_lens' (N := m.len - 1) h0 (by omega) c hc; omega⟩
  rcases hi with ⟨u1, v0, bN⟩ | ⟨u1, v0, bN⟩
  · obtain rfl : V = [] := List.length_eq_zero_iff.1 v0
    have e0 : prodS m (divG false m B A.length [] A).1 [] = [] := by unfold prodS; rw [if_pos (.inr rfl)]
    rw [e0]
    have e1 := plus_len_left (k := -1) hU.trim (Y := ([] : List (Fp p))) (by rw [u1]; exact Nat.zero_lt_one)
    exact ⟨Sk.nil m, by rw [List.length_nil]; omega, hU.plus h0 (Sk.nil m) (-1), .inr ⟨by rw [e1, u1]; exact Nat.zero_lt_one, g3, by rw [e1]; omega⟩⟩
  · have e1 := divG_len hm hA hB h1 (by omega)
    have e2 := prodS_len hm g1.trim hV.trim g1.res hV.res (by omega) (by omega)
    have hP' := hP _ (Nat.le_refl _) (by omega)
    have e3 := plus_len_right (k := -1) (X := U) hP'.trim (fun y => c_minus) (by omega)
    exact ⟨hP', by omega, hU.plus h0 hP' (-1), .inr ⟨by omega, g3, by omega⟩⟩
theorem multS_ok {m : Fp p} (hm : Fld m) {N : Nat} (hN : N ≤ 8) (hN1 : 1 ≤ N) : ∀ (n : Nat) (A B U V : List (Fp p)), B.length ≤ n → Sk m A → Sk m B → Sk m U → Sk m V → MI N A B U V →
    Sk m (multS m n A B U V) ∧ (multS m n A B U V).length + (gcdS m n A B).length = N + 1 ∧ 1 ≤ (multS m n A B U V).length
  | 0, A, B, U, V, hn, hA, hB, hU, hV, hi => by
    rcases hi with ⟨u1, v0, bN⟩ | ⟨u1, v0, bN⟩
    · omega
    · exact ⟨hV, bN, by show 1 ≤ V.length; omega⟩
  | n + 1, A, B, U, V, hn, hA, hB, hU, hV, hi => by
    unfold multS gcdS
    by_cases h0 : B.length = 0
    · rw [if_pos h0, if_pos h0]
      rcases hi with ⟨u1, v0, bN⟩ | ⟨u1, v0, bN⟩
      · omega
      · exact ⟨hV, bN, by omega⟩
    · rw [if_neg h0, if_neg h0]
      obtain ⟨g1, g2, g3⟩ := divG_ok false hm hB (by omega) A.length [] A (Nat.le_refl _) (Sk.nil m) hA
      obtain ⟨k1, k2, k3, k4⟩ := mul_step hm hA hB hU hV hN hi (by omega)
      exact multS_ok hm hN hN1 n _ _ _ _ (by omega) hB g2 hV k3 k4
theorem one_ne8 : (1 : Fp p) ≠ 0 := fun h => by
  have e : (1 : Fp p).len = 1 := Pol.len_one
  rw [h, Pol.len_zero] at e
  cases e
noncomputable def cofS (m : Fp p) (F G : List (Fp p)) : List (Fp p) := multS m G.length F G (termS 1 0) []
noncomputable def lmX (m : Fp p) (F G : List (Fp p)) : List (Fp p) := prodS m (cofS m F G) F
theorem sk_one {m : Fp p} (hm : Fld m) : Sk m (termS (1 : Fp p) 0) := ⟨isTrim_term one_ne8 0, by rw [termS_length]; omega, fun c hc => by
  unfold termS at hc
  rw [List.replicate_zero, List.nil_append] at hc
  rw [List.mem_singleton.1 hc]
  have := hm.two
  have : (1 : Fp p).len = 1 := Pol.len_one
  omega⟩
theorem lm_ok {m : Fp p} (hm : Fld m) {F G : List (Fp p)} (hF : Sk m F) (hG : Sk m G) (f1 : 1 ≤ F.length) (g1 : 1 ≤ G.length) :
    Sk m (cofS m F G) ∧ 1 ≤ (lmX m F G).length ∧ (lmX m F G).length + (gcdS m G.length F G).length = F.length + G.length ∧ 1 ≤ (gcdS m G.length F G).length ∧ (∀ c ∈ lmX m F G, c.len < m.len) ∧ (lmX m F G).length ≤ 16 ∧ (cofS m F G).length + F.length = (lmX m F G).length + 1 := by
  have h0 := hm.mon.2
  have hm1 := Pol.len_pos h0
  obtain ⟨k1, k2, k3⟩ := multS_ok hm hG.eight g1 G.length F G (termS 1 0) [] (Nat.le_refl _) hF hG (sk_one hm) (Sk.nil m) (.inl ⟨termS_length _ _, rfl, rfl⟩)
  obtain ⟨_, k5⟩ := gcdS_ok hm G.length F G (Nat.le_refl _) hF hG (.inl f1)
  have e := prodS_len hm k1.trim hF.trim k1.res hF.res k3 f1
  have f8 := hF.eight
  have c8 := k1.eight
  unfold lmX cofS
  exact ⟨k1, by omega, by omega, k5, fun c hc => by have := prodS_lens' (N := m.len - 1) h0 (by omega) c hc; omega, by omega, by omega⟩
theorem mon_len {m : Fp p} (hm : Fld m) {X : List (Fp p)} (hX : IsTrim X) (hr : ∀ c ∈ X, c.len < m.len) (h1 : 1 ≤ X.length) : (monS m X).length = X.length := by
  have h0 := hm.mon.2
  have hx : cS X (X.length - 1) ≠ 0 := hX _ (by omega)
  have hxl : (cS X (X.length - 1)).len < m.len := by
    rw [← cS_lt (show X.length - 1 < X.length by omega)]; exact hr _ (List.getElem_mem _)
  have hi : invm m (cS X (X.length - 1)) ≠ 0 := fun h => by
    have e := inv_back hm (x := 1) (by have := hm.two; have : (1 : Fp p).len = 1 := Pol.len_one; omega) hx hxl
    rw [h, Gq.mul_zero, Pol.zero_mod h0, Gq.zero_mul, Pol.zero_mod h0] at e
    exact one_ne8 e.1.symm
  have hil := invm_len h0 (cS X (X.length - 1))
  have := prodS_len hm (isTrim_term hi 0) hX (fun c hc => by
    unfold termS at hc
    rw [List.replicate_zero, List.nil_append] at hc
    rw [List.mem_singleton.1 hc]; exact hil) hr (by rw [termS_length]; omega) h1
  rw [termS_length] at this
  unfold monS
  omega
end
theorem l_mult {O : Oracle} (hd : K_div O F_impl_field_divideRight false) (hpl : K_plus O) (hby : K_by2 O) {p : Int} [IsP p] {m : Fp p} (hm : Fld m) {FD : D} {N : Nat} (hN : N ≤ 8) : ∀ (r : Nat) (X B U V : List (Fp p)), B.length ≤ r → Sk m X → Sk m B → Sk m U → Sk m V → MI N X B U V → ∃ W : List (Fp p),
    dn O 0 (.loop ir_impl_field_leftMultiple_L0) ⟨[(1, .d (skD X)), (2, .d (skD B)), (3, .ptr 0 []), (7, .d FD), (8, .d (skD U)), (9, .d (skD V))], [.box false (fldD m), .hole]⟩ =
      some (.exit 0, ⟨[(1, .d (skD (gcdS m r X B))), (2, .d (skD ([] : List (Fp p)))), (3, .ptr 0 []), (7, .d FD), (8, .d (skD W)), (9, .d (skD (multS m r X B U V))), (17, (.d (.bool false)))], [.box false (fldD m), .hole]⟩)
  | 0, X, B, U, V, hr, hX, hB, hU, hV, hi => by
    obtain rfl : B = [] := List.length_eq_zero_iff.1 (by omega)
    refine ⟨U, dn_stop ?_⟩
    show _ = some (_, (⟨[(1, .d (skD X)), _, _, _, _, (9, .d (skD V)), _], _⟩ : St))
    rw [show skD ([] : List (Fp p)) = .sl .leaf [] from rfl]
    generalize skD X = XD at *
    generalize skD U = UD at *
    generalize skD V = VD at *
    simp -implicitDefEqProofs [ir_impl_field_leftMultiple_L0, dn_cond]
  | r + 1, X, B, U, V, hr, hX, hB, hU, hV, hi => by
    by_cases h0 : B.length = 0
    · obtain rfl : B = [] := List.length_eq_zero_iff.1 h0
      have hg : gcdS m (r + 1) X [] = X := by unfold gcdS; exact if_pos rfl
      have hg2 : multS m (r + 1) X [] U V = V := by unfold multS; exact if_pos rfl
      rw [hg, hg2]
      refine ⟨U, dn_stop ?_⟩
      rw [show skD ([] : List (Fp p)) = .sl .leaf [] from rfl]
      generalize skD X = XD at *
      generalize skD U = UD at *
      generalize skD V = VD at *
      simp -implicitDefEqProofs [ir_impl_field_leftMultiple_L0, dn_cond]
    · have hg : gcdS m (r + 1) X B = gcdS m r B (divG false m B X.length [] X).2 := by
        conv => lhs; unfold gcdS
        rw [if_neg h0]
      have hg2 : multS m (r + 1) X B U V = multS m r B (divG false m B X.length [] X).2 V (plusS (-1) U (prodS m (divG false m B X.length [] X).1 V)) := by
        conv => lhs; unfold multS
        rw [if_neg h0]
      have h5 := hm.five
      obtain ⟨g1, g2, g3⟩ := divG_ok false hm hB (by omega) X.length [] X (Nat.le_refl _) (Sk.nil m) hX
      obtain ⟨k1, k2, k3, k4⟩ := mul_step hm hX hB hU hV hN hi (by omega)
      obtain ⟨W, ih⟩ := l_mult hd hpl hby hm (FD := FD) hN r B (divG false m B X.length [] X).2 V (plusS (-1) U (prodS m (divG false m B X.length [] X).1 V)) (by omega) hB g2 hV k3 k4
      rw [← hg, ← hg2] at ih
      have e1 := hd p m X B hm hX hB (by omega)
      have e2 := hby p m (divG false m B X.length [] X).1 V hm.two (by omega) (fun c hc => by have := g1.res c hc; omega) (fun c hc => by have := hV.res c hc; omega) (by have := g1.eight; omega) (by have := hV.eight; omega)
      have e3 := hpl p m U (prodS m (divG false m B X.length [] X).1 V) (-1) (by omega) (by omega) (by have := hU.eight; omega) (by have := k1.eight; omega) (fun c hc => by have := hU.res c hc; omega) (fun c hc => by have := k1.res c hc; omega)
      have hpos : 0 < B.length := by omega
      have hB1 : (B.map rowD).length = B.length := List.length_map ..
      have hfd : fldD m = .st [.leaf, .leaf] [(D.int .i64 p), (D.sl .leaf (ints .i64 (row m)))] := rfl
      refine ⟨W, dn_round ?_ ih⟩
      rw [show skD (plusS (-1) U (prodS m (divG false m B X.length [] X).1 V)) = .sl .leaf ((plusS (-1) U (prodS m (divG false m B X.length [] X).1 V)).map rowD) from rfl] at e3 ⊢
      rw [show skD (prodS m (divG false m B X.length [] X).1 V) = .sl .leaf ((prodS m (divG false m B X.length [] X).1 V).map rowD) from rfl] at e2 e3
      rw [show skD (divG false m B X.length [] X).1 = .sl .leaf ((divG false m B X.length [] X).1.map rowD) from rfl] at e1 e2
      rw [show skD (divG false m B X.length [] X).2 = .sl .leaf ((divG false m B X.length [] X).2.map rowD) from rfl] at e1 ⊢
      rw [show skD U = .sl .leaf (U.map rowD) from rfl] at e3 ⊢
      rw [show skD V = .sl .leaf (V.map rowD) from rfl] at e2 ⊢
      rw [show skD X = .sl .leaf (X.map rowD) from rfl, show skD B = .sl .leaf (B.map rowD) from rfl, hfd] at e1 ⊢
      rw [hfd] at e2 e3
      generalize (plusS (-1) U (prodS m (divG false m B X.length [] X).1 V)).map rowD = D4 at *
      generalize (prodS m (divG false m B X.length [] X).1 V).map rowD = D3 at *
      generalize (divG false m B X.length [] X).1.map rowD = D1 at *
      generalize (divG false m B X.length [] X).2.map rowD = D2 at *
      generalize X.map rowD = XD at *
      generalize U.map rowD = UD at *
      generalize V.map rowD = VD at *
      generalize B.map rowD = BD at *
      generalize row m = Rm at *
      simp -implicitDefEqProofs [ir_impl_field_leftMultiple_L0, dn_cond, hB1, hpos, e1, e2, e3]
def K_mult (O : Oracle) : Prop := ∀ (p : Int) [IsP p] (m : Fp p) (X B : List (Fp p)), Fld m → Sk m X → Sk m B → 1 ≤ X.length → 1 ≤ B.length → ask O F_impl_field_leftMultiple [fldD m, skD X, skD B] = some (skD (monS m (lmX m X B)))
theorem k_mult (hT : T F_impl_field_leftMultiple = some ir_impl_field_leftMultiple) (hsi : K_single (den T A)) (hd : K_div (den T A) F_impl_field_divideRight false) (hpl : K_plus (den T A)) (hby : K_by2 (den T A)) (hmo : K_monic (den T A)) : K_mult (den T A) := by
  intro p ip m X B hm hX hB x1 b1
  have h5 := hm.five
  obtain ⟨c1, c2, c3, c4, c5, c6, c7⟩ := lm_ok hm hX hB x1 b1
  have e0 := hsi p (1 : Fp p) 0 (by omega)
  rw [row_one, show ints .i64 [1] = [.int .i64 1] from rfl] at e0
  obtain ⟨W, e1⟩ := l_mult (O := den T A) hd hpl hby hm (FD := skD X) hB.eight B.length X B (termS 1 0) [] (Nat.le_refl _) hX hB (sk_one hm) (Sk.nil m) (.inl ⟨termS_length _ _, rfl, rfl⟩)
  rw [show multS m B.length X B (termS 1 0) [] = cofS m X B from rfl] at e1
  have e2 := hby p m (cofS m X B) X hm.two (by omega) (fun c hc => by have := c1.res c hc; omega) (fun c hc => by have := hX.res c hc; omega) (by have := c1.eight; omega) (by have := hX.eight; omega)
  rw [show prodS m (cofS m X B) X = lmX m X B from rfl] at e2
  have e3 := hmo p m (lmX m X B) hm c5 (by omega) c2
  have e00 : ((0 : Nat) : Int) = 0 := rfl
  have hfd : fldD m = .st [.leaf, .leaf] [(D.int .i64 p), (D.sl .leaf (ints .i64 (row m)))] := rfl
  rw [e00] at e0
  rw [show skD (monS m (lmX m X B)) = .sl .leaf ((monS m (lmX m X B)).map rowD) from rfl] at e3 ⊢
  rw [show skD (lmX m X B) = .sl .leaf ((lmX m X B).map rowD) from rfl] at e2 e3
  rw [show skD (cofS m X B) = .sl .leaf ((cofS m X B).map rowD) from rfl] at e1 e2
  rw [show skD (gcdS m B.length X B) = .sl .leaf ((gcdS m B.length X B).map rowD) from rfl] at e1
  rw [show skD (termS (1 : Fp p) 0) = .sl .leaf ((termS (1 : Fp p) 0).map rowD) from rfl] at e0 e1
  rw [show skD W = .sl .leaf (W.map rowD) from rfl, show skD ([] : List (Fp p)) = .sl .leaf [] from rfl] at e1
  rw [show skD X = .sl .leaf (X.map rowD) from rfl] at e1 e2 ⊢
  rw [show skD B = .sl .leaf (B.map rowD) from rfl, hfd] at e1 ⊢
  rw [hfd] at e2 e3
  refine ask_of hT rfl ?_
  generalize (monS m (lmX m X B)).map rowD = D1 at *
  generalize (lmX m X B).map rowD = D2 at *
  generalize (cofS m X B).map rowD = D3 at *
  generalize (gcdS m B.length X B).map rowD = D4 at *
  generalize (termS (1 : Fp p) 0).map rowD = D5 at *
  generalize W.map rowD = D6 at *
  generalize X.map rowD = XD at *
  generalize B.map rowD = BD at *
  generalize row m = Rm at *
  simp -implicitDefEqProofs [ir_impl_field_leftMultiple, ir_impl_field_leftMultiple_B, e0, e1, e2, e3]
def K_sOne3 (O : Oracle) : Prop := ∀ (p : Int) [IsP p], ask O F_spec_l03One [] = some (eS (termS (1 : Fp p) 0))
theorem k_sOne3 (hT : T F_spec_l03One = some ir_spec_l03One) (h1 : K_sOne (den T A)) : K_sOne3 (den T A) := by
  intro p ip
  have e1 := h1 p
  have e2 : skP (pd8 (termS (1 : Fp p) 0)) = pad (row (1 : Fp p)) :: List.replicate 7 (pad []) := by
    show pad (row (1 : Fp p)) :: (List.replicate 7 (0 : Fp p)).map (fun a => pad (row a)) = _
    rw [List.map_replicate, row_zero]
  have e3 : (pad (row (1 : Fp p)) :: List.replicate 7 (pad [])).map arr8 = z8.set 0 (D.arr 64 .leaf (ints .u8 (pad (row (1 : Fp p))))) := rfl
  rw [eS_arr, e2, e3]
  refine ask_of hT rfl ?_
  generalize pad (row (1 : Fp p)) = P1 at *
  simp -implicitDefEqProofs [ir_spec_l03One, ir_spec_l03One_B, e1, z8, List.replicate]
theorem l_sMult {O : Oracle} (hdg : K_sDeg8 O) (hd : K_sDiv O F_spec_l03Right false) (hti : K_sTimes8 O) (had : K_sAdd8 O) {p : Int} [IsP p] {m : Fp p} (hm : Fld m) {bf br : Blk} {N : Nat} (hN : N ≤ 8) : ∀ (r : Nat) (X B U V : List (Fp p)), B.length ≤ r → Sk m X → Sk m B → Sk m U → Sk m V → MI N X B U V → ∃ W : List (Fp p),
    dn O 0 (.loop ir_spec_l03Multiple_L0) ⟨[(0, (.d (.int .i64 p))), (5, .ptr 0 []), (6, .ptr 1 []), (8, .ptr 3 []), (10, .ptr 4 []), (11, .ptr 5 []), (12, .ptr 6 []), (13, .ptr 7 [])], [.box false (D.arr 64 .leaf (ints .u8 (pad (row m)))), bf, .hole, br, .box false (.arr 8 (.arr 64 .leaf) ((skP (pd8 X)).map arr8)), .box false (.arr 8 (.arr 64 .leaf) ((skP (pd8 B)).map arr8)), .box false (.arr 8 (.arr 64 .leaf) ((skP (pd8 U)).map arr8)), .box false (.arr 8 (.arr 64 .leaf) ((skP (pd8 V)).map arr8)), .hole, .hole, .hole, .hole, .hole]⟩ =
      some (.exit 0, ⟨[(0, (.d (.int .i64 p))), (5, .ptr 0 []), (6, .ptr 1 []), (8, .ptr 3 []), (10, .ptr 4 []), (11, .ptr 5 []), (12, .ptr 6 []), (13, .ptr 7 []), (41, (.d (.bool false)))], [.box false (D.arr 64 .leaf (ints .u8 (pad (row m)))), bf, .hole, br, .box false (.arr 8 (.arr 64 .leaf) ((skP (pd8 (gcdS m r X B))).map arr8)), .box false (.arr 8 (.arr 64 .leaf) ((skP (pd8 ([] : List (Fp p)))).map arr8)), .box false (.arr 8 (.arr 64 .leaf) ((skP (pd8 W)).map arr8)), .box false (.arr 8 (.arr 64 .leaf) ((skP (pd8 (multS m r X B U V))).map arr8)), .hole, .hole, .hole, .hole, .hole]⟩)
  | 0, X, B, U, V, hr, hX, hB, hU, hV, hi => by
    have h5 := hm.five
    obtain rfl : B = [] := List.length_eq_zero_iff.1 (by omega)
    have e1 := hdg p m [] hm.mon.2 (by omega) hB
    rw [eS_arr, List.length_nil] at e1
    refine ⟨U, dn_stop ?_⟩
    show _ = some (_, (⟨_, [_, _, _, _, .box false (.arr 8 (.arr 64 .leaf) ((skP (pd8 X)).map arr8)), _, _, .box false (.arr 8 (.arr 64 .leaf) ((skP (pd8 V)).map arr8)), _, _, _, _, _]⟩ : St))
    generalize (skP (pd8 X)).map arr8 = XD at *
    generalize (skP (pd8 U)).map arr8 = UD at *
    generalize (skP (pd8 V)).map arr8 = VD at *
    generalize (skP (pd8 ([] : List (Fp p)))).map arr8 = BD at *
    generalize pad (row m) = Pm at *
    simp -implicitDefEqProofs [ir_spec_l03Multiple_L0, dn_cond, e1]
  | r + 1, X, B, U, V, hr, hX, hB, hU, hV, hi => by
    have h5 := hm.five
    have e1 := hdg p m B hm.mon.2 (by omega) hB
    rw [eS_arr] at e1
    by_cases h0 : B.length = 0
    · obtain rfl : B = [] := List.length_eq_zero_iff.1 h0
      have hg : gcdS m (r + 1) X [] = X := by unfold gcdS; exact if_pos rfl
      have hg2 : multS m (r + 1) X [] U V = V := by unfold multS; exact if_pos rfl
      rw [hg, hg2]
      rw [List.length_nil] at e1
      refine ⟨U, dn_stop ?_⟩
      generalize (skP (pd8 X)).map arr8 = XD at *
      generalize (skP (pd8 U)).map arr8 = UD at *
      generalize (skP (pd8 V)).map arr8 = VD at *
      generalize (skP (pd8 ([] : List (Fp p)))).map arr8 = BD at *
      generalize pad (row m) = Pm at *
      simp -implicitDefEqProofs [ir_spec_l03Multiple_L0, dn_cond, e1]
    · have hg : gcdS m (r + 1) X B = gcdS m r B (divG false m B X.length [] X).2 := by
        conv => lhs; unfold gcdS
        rw [if_neg h0]
      have hg2 : multS m (r + 1) X B U V = multS m r B (divG false m B X.length [] X).2 V (plusS (-1) U (prodS m (divG false m B X.length [] X).1 V)) := by
        conv => lhs; unfold multS
        rw [if_neg h0]
      obtain ⟨g1, g2, g3⟩ := divG_ok false hm hB (by omega) X.length [] X (Nat.le_refl _) (Sk.nil m) hX
      obtain ⟨k1, k2, k3, k4⟩ := mul_step hm hX hB hU hV hN hi (by omega)
      obtain ⟨W, ih⟩ := l_sMult hdg hd hti had hm (bf := bf) (br := br) hN r B (divG false m B X.length [] X).2 V (plusS (-1) U (prodS m (divG false m B X.length [] X).1 V)) (by omega) hB g2 hV k3 k4
      rw [← hg, ← hg2] at ih
      have e2 := hd p m X B hm hX hB (by omega)
      have e3 := hti p m (divG false m B X.length [] X).1 V hm g1 hV k2
      have e4 := had p U (prodS m (divG false m B X.length [] X).1 V) (-1) (by omega) (by omega) hU.eight k1.eight (fun c hc => by have := hU.res c hc; omega) (fun c hc => by have := k1.res c hc; omega)
      rw [show (B.length : Int) - 1 = ((B.length - 1 : Nat) : Int) by omega] at e1
      have hf1 := flats_arr8 (skP (pd8 (divG false m B X.length [] X).1))
      have hf2 := flats_arr8 (skP (pd8 (divG false m B X.length [] X).2))
      have hf3 := flats_arr8 (skP (pd8 (prodS m (divG false m B X.length [] X).1 V)))
      have hf4 := flats_arr8 (skP (pd8 (plusS (-1) U (prodS m (divG false m B X.length [] X).1 V))))
      rw [eS_arr, eS_arr, eS_arr, eS_arr] at e2
      rw [eS_arr, eS_arr, eS_arr] at e3
      rw [eS_arr, eS_arr, eS_arr] at e4
      refine ⟨W, dn_round ?_ ih⟩
      generalize (skP (pd8 (plusS (-1) U (prodS m (divG false m B X.length [] X).1 V)))).map arr8 = D4 at *
      generalize (skP (pd8 (prodS m (divG false m B X.length [] X).1 V))).map arr8 = D3 at *
      generalize (skP (pd8 (divG false m B X.length [] X).1)).map arr8 = D1 at *
      generalize (skP (pd8 (divG false m B X.length [] X).2)).map arr8 = D2 at *
      generalize (skP (pd8 X)).map arr8 = XD at *
      generalize (skP (pd8 U)).map arr8 = UD at *
      generalize (skP (pd8 V)).map arr8 = VD at *
      generalize (skP (pd8 B)).map arr8 = BD at *
      generalize pad (row m) = Pm at *
      generalize B.length - 1 = b1 at *
      simp -implicitDefEqProofs [ir_spec_l03Multiple_L0, dn_cond, e1, e2, e3, e4, hf1, hf2, hf3, hf4]
noncomputable def smD {p : Int} [IsP p] (m : Fp p) (X B : List (Fp p)) : D := if (lmX m X B).length ≤ 8 then .tup [eS (monS m (lmX m X B)), (D.bool true)] else .tup [eS ([] : List (Fp p)), (D.bool false)]
def K_sMult (O : Oracle) : Prop := ∀ (p : Int) [IsP p] (m : Fp p) (X B : List (Fp p)), Fld m → Sk m X → Sk m B → 1 ≤ X.length → 1 ≤ B.length → ask O F_spec_l03Multiple [(D.int .i64 p), (D.arr 64 .leaf (ints .u8 (pad (row m)))), eS X, eS B] = some (smD m X B)
theorem k_sMult (hT : T F_spec_l03Multiple = some ir_spec_l03Multiple) (hon : K_sOne3 (den T A)) (hrd : K_sRdiv (den T A)) (hdg : K_sDeg8 (den T A)) (hd : K_sDiv (den T A) F_spec_l03Right false) (hti : K_sTimes8 (den T A)) (had : K_sAdd8 (den T A)) (hmo : K_sMonic3 (den T A)) : K_sMult (den T A) := by
  intro p ip m X B hm hX hB x1 b1
  have h5 := hm.five
  have h0 := hm.mon.2
  obtain ⟨c1, c2, c3, c4, c5, c6, c7⟩ := lm_ok hm hX hB x1 b1
  obtain ⟨g1, g2⟩ := gcdS_ok hm B.length X B (Nat.le_refl _) hX hB (.inl x1)
  have x8 := hX.eight
  have b8 := hB.eight
  have r1 := hdg p m X h0 (by omega) hX
  have r2 := hdg p m B h0 (by omega) hB
  have r3 := hrd p m X B hm hX hB (.inl x1)
  have r4 := hdg p m (monS m (gcdS m B.length X B)) h0 (by omega) (g1.mon h0)
  rw [mon_len hm g1.trim g1.res g2] at r4
  have w1 : IntKind.i64.wrap ((X.length : Int) - 1 + ((B.length : Int) - 1)) = (X.length : Int) - 1 + ((B.length : Int) - 1) := w64 (by omega)
  have w2 : IntKind.i64.wrap ((X.length : Int) - 1 + ((B.length : Int) - 1) - (((gcdS m B.length X B).length : Int) - 1)) = ((lmX m X B).length : Int) - 1 := (w64 (by omega)).trans (by omega)
  have z0 : (skP (pd8 ([] : List (Fp p)))).map arr8 = z8 := z8_eq.symm
  have hf4 := flats_arr8 (skP (pd8 (monS m (gcdS m B.length X B))))
  unfold smD
  by_cases h : (lmX m X B).length ≤ 8
  · rw [if_pos h]
    have hlt : ¬ 7 < ((lmX m X B).length : Int) - 1 := by omega
    have e1 := hon p
    obtain ⟨W, e2⟩ := l_sMult (O := den T A) hdg hd hti had hm (bf := .box false (.arr 8 (.arr 64 .leaf) ((skP (pd8 X)).map arr8))) (br := .box false (.arr 8 (.arr 64 .leaf) z8)) hB.eight B.length X B (termS 1 0) [] (Nat.le_refl _) hX hB (sk_one hm) (Sk.nil m) (.inl ⟨termS_length _ _, rfl, rfl⟩)
    rw [show multS m B.length X B (termS 1 0) [] = cofS m X B from rfl, z0] at e2
    have e3 := hti p m (cofS m X B) X hm c1 hX (by omega)
    rw [show prodS m (cofS m X B) X = lmX m X B from rfl] at e3
    have hsk : Sk m (lmX m X B) := ⟨isTrim_prod _ _ _, h, c5⟩
    have e4 := hmo p m (lmX m X B) hm hsk c2
    have hf1 := flats_arr8 (skP (pd8 (termS (1 : Fp p) 0)))
    have hf2 := flats_arr8 (skP (pd8 (lmX m X B)))
    have hf3 := flats_arr8 (skP (pd8 (monS m (lmX m X B))))
    rw [eS_arr] at r1 r2 r4 e1
    rw [eS_arr, eS_arr, eS_arr] at r3 e3
    rw [eS_arr, eS_arr] at e4
    rw [eS_arr, eS_arr, eS_arr]
    refine ask_of hT rfl ?_
    generalize (skP (pd8 (monS m (lmX m X B)))).map arr8 = D1 at *
    generalize (skP (pd8 (lmX m X B))).map arr8 = D2 at *
    generalize (skP (pd8 (cofS m X B))).map arr8 = D3 at *
    generalize (skP (pd8 (monS m (gcdS m B.length X B)))).map arr8 = D4 at *
    generalize (skP (pd8 (gcdS m B.length X B))).map arr8 = D5 at *
    generalize (skP (pd8 (termS (1 : Fp p) 0))).map arr8 = D6 at *
    generalize (skP (pd8 W)).map arr8 = D7 at *
    generalize ((lmX m X B).length : Int) - 1 = n1 at *
    generalize ((gcdS m B.length X B).length : Int) - 1 = n2 at *
    generalize (X.length : Int) - 1 = n3 at *
    generalize (B.length : Int) - 1 = n4 at *
    generalize (skP (pd8 X)).map arr8 = XD at *
    generalize (skP (pd8 B)).map arr8 = BD at *
    generalize pad (row m) = Pm at *
    simp -implicitDefEqProofs [ir_spec_l03Multiple, ir_spec_l03Multiple_B, dn_cond, r1, r2, r3, r4, w1, w2, hlt, e1, e2, e3, e4, hf1, hf2, hf3, hf4, List.replicate]
  · rw [if_neg h]
    have hlt : 7 < ((lmX m X B).length : Int) - 1 := by omega
    rw [eS_arr] at r1 r2 r4
    rw [eS_arr, eS_arr, eS_arr] at r3
    rw [eS_arr, eS_arr, eS_arr, z0]
    refine ask_of hT rfl ?_
    generalize (skP (pd8 (monS m (gcdS m B.length X B)))).map arr8 = D4 at *
    generalize ((lmX m X B).length : Int) - 1 = n1 at *
    generalize ((gcdS m B.length X B).length : Int) - 1 = n2 at *
    generalize (X.length : Int) - 1 = n3 at *
    generalize (B.length : Int) - 1 = n4 at *
    generalize (skP (pd8 X)).map arr8 = XD at *
    generalize (skP (pd8 B)).map arr8 = BD at *
    generalize pad (row m) = Pm at *
    simp -implicitDefEqProofs [ir_spec_l03Multiple, ir_spec_l03Multiple_B, dn_cond, r1, r2, r3, r4, w1, w2, hlt, hf4, List.replicate]
open Classical in
noncomputable def lmC (p : Int) (l : List Int) (ls ks : List (List Int)) : Int := if codeSk p l [ls, ks] ≠ 0 then codeSk p l [ls, ks] else if ls = List.replicate 8 (pad []) ∨ ks = List.replicate 8 (pad []) then 5 else 0
theorem lmC_ok {p : Int} {l : List Int} {ls ks : List (List Int)} (h : lmC p l ls ks = 0) : MsOk p l ls ks := by
  unfold lmC at h
  split at h
  · rename_i h0; exact absurd h h0
  · rename_i h0; exact codes_ms.1 (by simpa using h0)
/-- What is told of a left multiple. -/
noncomputable def lmT {p : Int} [IsP p] (m : Fp p) (F G : List (Fp p)) : D := if (lmX m F G).length ≤ 8 then .tup [eS (monS m (lmX m F G)), (D.int .i64 0)] else .tup [eS ([] : List (Fp p)), (D.int .i64 3)]
open Classical in
noncomputable def lmD (p : Int) (l : List Int) (ls ks : List (List Int)) : D :=
  if h : lmC p l ls ks = 0 then
    haveI : IsP p := (lmC_ok h).choose
    lmT (polOf p l) (trimS (ls.map (polOf p))) (trimS (ks.map (polOf p)))
  else .tup [skwD (List.replicate 8 (pad [])), (D.int .i64 (lmC p l ls ks))]
theorem lmD_bad {p : Int} {l : List Int} {ls ks : List (List Int)} (h : ¬ lmC p l ls ks = 0) : lmD p l ls ks = .tup [skwD (List.replicate 8 (pad [])), (D.int .i64 (lmC p l ls ks))] := by unfold lmD; rw [dif_neg h]
theorem lmD_good {p : Int} [IsP p] {m : Fp p} {S R : List (Fp p)} (hm : Fld m) (hS : ∀ c ∈ S, c.len < m.len) (hR : ∀ c ∈ R, c.len < m.len) (h : lmC p (pad (row m)) (skP S) (skP R) = 0) : lmD p (pad (row m)) (skP S) (skP R) = lmT m (trimS S) (trimS R) := by
  have h5 := hm.five
  unfold lmD
  rw [dif_pos h, polOf_pad (by omega), map_polOf (S := S) (fun a ha => by have := hS a ha; omega), map_polOf (S := R) (fun a ha => by have := hR a ha; omega)]
theorem lmC_iff {p : Int} [IsP p] {m : Fp p} {S R : List (Fp p)} (hm : Fld m) (hS8 : S.length = 8) (hR8 : R.length = 8) (hS : ∀ c ∈ S, c.len < m.len) (hR : ∀ c ∈ R, c.len < m.len) (hc : codeSk p (pad (row m)) [skP S, skP R] = 0) : lmC p (pad (row m)) (skP S) (skP R) = if (trimS S).length = 0 ∨ (trimS R).length = 0 then 5 else 0 := by
  have h5 := hm.five
  unfold lmC
  rw [if_neg (by simpa using hc)]
  have h1 := skP_zero hS8 (fun a ha => by have := hS a ha; omega)
  have h2 := skP_zero hR8 (fun a ha => by have := hR a ha; omega)
  by_cases h : (trimS S).length = 0 ∨ (trimS R).length = 0
  · rw [if_pos h, if_pos (h.imp h1.2 h2.2)]
  · rw [if_neg h, if_neg fun g => h (g.imp h1.1 h2.1)]
theorem lmD_form (p : Int) (l : List Int) {ls ks : List (List Int)} (h8 : Sk8 ls) (k8 : Sk8 ks) : ∃ (r : List (List Int)) (k : Int), lmD p l ls ks = .tup [skwD r, (D.int .i64 k)] ∧ Sh8 r := by
  by_cases h : lmC p l ls ks = 0
  · obtain ⟨ip, m, S, R, rfl, rfl, rfl, hm, hS8, hR8, hS, hR⟩ := ms_of h8 k8 (lmC_ok h)
    have hi := lmC_iff hm hS8 hR8 hS hR (codes_ms.2 (lmC_ok h))
    rw [h] at hi
    have hn : ¬ ((trimS S).length = 0 ∨ (trimS R).length = 0) := fun g => by rw [if_pos g] at hi; cases hi
    rw [lmD_good hm hS hR h]
    obtain ⟨c1, c2, c3, c4, c5, c6, c7⟩ := lm_ok hm (Sk.of8 hS8 hS) (Sk.of8 hR8 hR) (by omega) (by omega)
    unfold lmT
    split
    · rename_i h8'
      exact ⟨_, _, rfl, eS_sh (Sk.mon hm.mon.2 ⟨isTrim_prod _ _ _, h8', c5⟩)⟩
    · exact ⟨_, _, rfl, eS_sh (Sk.nil m)⟩
  · rw [lmD_bad h]; exact ⟨_, _, rfl, sh8_zero⟩
def K_LeftMultiple (O : Oracle) (F : Nat) : Prop := ∀ (p : Int) (l : List Int) (ls ks : List (List Int)), Bytes l → l.length = 64 → Sk8 ls → Sk8 ks → ask O F [(D.int .i64 p), (D.arr 64 .leaf (ints .u8 l)), skwD ls, skwD ks] = some (lmD p l ls ks)
theorem k_LeftMultiple (hT : T F_impl_LeftMultiple = some ir_impl_LeftMultiple) (hsc : C_skewsCode (den T A) F_impl_skewsCode) (hfo : K_fieldOf (den T A)) (hsk : K_skewOf (den T A)) (hto : K_toldSk (den T A)) (hd : K_mult (den T A)) : K_LeftMultiple (den T A) F_impl_LeftMultiple := by
  intro p l ls ks bl gl h8 k8
  have e1 := hsc p l [ls, ks] bl gl (by intro x hx; simp at hx; rcases hx with rfl | rfl <;> assumption) (by simp)
  rw [show List.map skwD [ls, ks] = [skwD ls, skwD ks] from rfl] at e1
  have hskd : skwD ls = .arr 8 (.arr 64 .leaf) (ls.map arr8) := rfl
  have hskk : skwD ks = .arr 8 (.arr 64 .leaf) (ks.map arr8) := rfl
  have eq1 := beq_S (ls := ls) (ks := List.replicate 8 (pad [])) ⟨h8.2, fun l hl => (h8.1 l hl).1⟩ sh8_zero
  have eq2 := beq_S (ls := ks) (ks := List.replicate 8 (pad [])) ⟨k8.2, fun l hl => (k8.1 l hl).1⟩ sh8_zero
  rw [show (List.replicate 8 (pad [])).map arr8 = z8 from rfl] at eq1 eq2
  rw [hskd, hskk] at e1 ⊢
  by_cases hc : codeSk p l [ls, ks] = 0
  · rw [hc] at e1
    obtain ⟨ip, m, S, R, rfl, rfl, rfl, hm, hS8, hR8, hS, hR⟩ := ms_of h8 k8 (codes_ms.1 hc)
    have h5 := hm.five
    have z1 := skP_zero hS8 (fun a ha => by have := hS a ha; omega)
    have z2 := skP_zero hR8 (fun a ha => by have := hR a ha; omega)
    rw [decide_eq_decide.2 z1] at eq1
    rw [decide_eq_decide.2 z2] at eq2
    have hi := lmC_iff hm hS8 hR8 hS hR hc
    by_cases h0 : (trimS S).length = 0 ∨ (trimS R).length = 0
    · rw [if_pos h0] at hi
      rw [lmD_bad (by rw [hi]; omega), hi, z8_pad]
      by_cases hs0 : (trimS S).length = 0
      · rw [decide_eq_true hs0] at eq1
        have key : ∀ (LS LR : List D) (Pm : List Int), ask (den T A) F_impl_skewsCode [(D.int .i64 p), (D.arr 64 .leaf (ints .u8 Pm)), .sl (.arr 8 (.arr 64 .leaf)) [.arr 8 (.arr 64 .leaf) LS, .arr 8 (.arr 64 .leaf) LR]] = some (D.int .i64 0) → D.beq (.arr 8 (.arr 64 .leaf) (.arr 64 .leaf .int)) (.arr 8 (.arr 64 .leaf) LS) (.arr 8 (.arr 64 .leaf) z8) = some true →
            ask (den T A) F_impl_LeftMultiple [(D.int .i64 p), (D.arr 64 .leaf (ints .u8 Pm)), .arr 8 (.arr 64 .leaf) LS, .arr 8 (.arr 64 .leaf) LR] = some (.tup [.arr 8 (.arr 64 .leaf) z8, (D.int .i64 5)]) := by
          intro LS LR Pm f1 f2
          refine ask_of hT rfl ?_
          simp -implicitDefEqProofs [ir_impl_LeftMultiple, ir_impl_LeftMultiple_B, dn_cond, f1, f2, List.replicate]
        exact key _ _ _ e1 eq1
      · rw [decide_eq_false hs0] at eq1
        rw [decide_eq_true (show (trimS R).length = 0 by omega)] at eq2
        refine ask_of hT rfl ?_
        generalize (skP S).map arr8 = LS at *
        generalize (skP R).map arr8 = LR at *
        generalize pad (row m) = Pm at *
        simp -implicitDefEqProofs [ir_impl_LeftMultiple, ir_impl_LeftMultiple_B, dn_cond, e1, eq1, eq2, List.replicate]
    · rw [if_neg h0] at hi
      rw [lmD_good hm hS hR hi]
      have hX := Sk.of8 hS8 hS
      have hB := Sk.of8 hR8 hR
      have x1 : 1 ≤ (trimS S).length := by omega
      have b1 : 1 ≤ (trimS R).length := by omega
      obtain ⟨c1, c2, c3, c4, c5, c6, c7⟩ := lm_ok hm hX hB x1 b1
      have ml := mon_len (X := lmX m (trimS S) (trimS R)) hm (isTrim_prod _ _ _) c5 c2
      have e3 := hfo p m (by omega)
      have e4 := hsk p S hS8 (fun a ha => by have := hS a ha; omega)
      have e5 := hsk p R hR8 (fun a ha => by have := hR a ha; omega)
      have e6 := hd p m (trimS S) (trimS R) hm hX hB x1 b1
      have hmr : ∀ c ∈ monS m (lmX m (trimS S) (trimS R)), c.len ≤ 64 := fun c hc => by
        have h1 := Pol.len_pos hm.mon.2
        have := prodS_lens' (N := m.len - 1) hm.mon.2 (by omega) c hc
        omega
      have e7 := hto p (monS m (lmX m (trimS S) (trimS R))) (by omega) hmr
      rw [decide_eq_false (show ¬ (trimS S).length = 0 by omega)] at eq1
      rw [decide_eq_false (show ¬ (trimS R).length = 0 by omega)] at eq2
      unfold toldSkD at e7
      unfold lmT
      rw [ml] at e7
      by_cases hl8 : (lmX m (trimS S) (trimS R)).length ≤ 8
      · rw [if_pos hl8] at e7 ⊢
        have hf1 := flats_arr8 (skP (pd8 (monS m (lmX m (trimS S) (trimS R)))))
        rw [eS_arr]
        rw [show skwD (skP (pd8 (monS m (lmX m (trimS S) (trimS R))))) = .arr 8 (.arr 64 .leaf) ((skP (pd8 (monS m (lmX m (trimS S) (trimS R))))).map arr8) from rfl] at e7
        rw [show skD (trimS S) = .sl .leaf ((trimS S).map rowD) from rfl] at e4 e6
        rw [show skD (trimS R) = .sl .leaf ((trimS R).map rowD) from rfl] at e5 e6
        rw [show skD (monS m (lmX m (trimS S) (trimS R))) = .sl .leaf ((monS m (lmX m (trimS S) (trimS R))).map rowD) from rfl] at e6 e7
        rw [show skwD (skP S) = .arr 8 (.arr 64 .leaf) ((skP S).map arr8) from rfl] at e4
        rw [show skwD (skP R) = .arr 8 (.arr 64 .leaf) ((skP R).map arr8) from rfl] at e5
        refine ask_of hT rfl ?_
        generalize (skP (pd8 (monS m (lmX m (trimS S) (trimS R))))).map arr8 = D1 at *
        generalize (monS m (lmX m (trimS S) (trimS R))).map rowD = D3 at *
        generalize (trimS S).map rowD = TS at *
        generalize (trimS R).map rowD = TR at *
        generalize (skP S).map arr8 = LS at *
        generalize (skP R).map arr8 = LR at *
        generalize pad (row m) = Pm at *
        simp -implicitDefEqProofs [ir_impl_LeftMultiple, ir_impl_LeftMultiple_B, dn_cond, e1, eq1, eq2, e3, e4, e5, e6, e7, hf1, List.replicate]
      · rw [if_neg hl8] at e7 ⊢
        rw [eS_arr]
        rw [show skwD (skP (pd8 ([] : List (Fp p)))) = .arr 8 (.arr 64 .leaf) ((skP (pd8 ([] : List (Fp p)))).map arr8) from rfl] at e7
        rw [← z8_eq] at e7 ⊢
        have hfz : D.flats z8 = true := rfl
        rw [show skD (trimS S) = .sl .leaf ((trimS S).map rowD) from rfl] at e4 e6
        rw [show skD (trimS R) = .sl .leaf ((trimS R).map rowD) from rfl] at e5 e6
        rw [show skD (monS m (lmX m (trimS S) (trimS R))) = .sl .leaf ((monS m (lmX m (trimS S) (trimS R))).map rowD) from rfl] at e6 e7
        rw [show skwD (skP S) = .arr 8 (.arr 64 .leaf) ((skP S).map arr8) from rfl] at e4
        rw [show skwD (skP R) = .arr 8 (.arr 64 .leaf) ((skP R).map arr8) from rfl] at e5
        refine ask_of hT rfl ?_
        generalize (monS m (lmX m (trimS S) (trimS R))).map rowD = D3 at *
        generalize (trimS S).map rowD = TS at *
        generalize (trimS R).map rowD = TR at *
        generalize (skP S).map arr8 = LS at *
        generalize (skP R).map arr8 = LR at *
        generalize pad (row m) = Pm at *
        simp -implicitDefEqProofs [ir_impl_LeftMultiple, ir_impl_LeftMultiple_B, dn_cond, e1, eq1, eq2, e3, e4, e5, e6, e7, hfz, List.replicate]
  · have hk1 : lmC p l ls ks = codeSk p l [ls, ks] := by unfold lmC; rw [if_pos hc]
    rw [lmD_bad (by rw [hk1]; exact hc), hk1, z8_pad]
    refine ask_of hT rfl ?_
    generalize codeSk p l [ls, ks] = k at *
    generalize ls.map arr8 = LD at *
    generalize ks.map arr8 = KD at *
    simp -implicitDefEqProofs [ir_impl_LeftMultiple, ir_impl_LeftMultiple_B, dn_cond, e1, hc, List.replicate]
theorem k_sLeftMultiple (hT : T F_spec_LeftMultiple = some ir_spec_LeftMultiple) (hsc : C_skewsCode (den T A) F_spec_l03Code) (hdg : K_sDeg8 (den T A)) (hd : K_sMult (den T A)) : K_LeftMultiple (den T A) F_spec_LeftMultiple := by
  intro p l ls ks bl gl h8 k8
  have e1 := hsc p l [ls, ks] bl gl (by intro x hx; simp at hx; rcases hx with rfl | rfl <;> assumption) (by simp)
  rw [show List.map skwD [ls, ks] = [skwD ls, skwD ks] from rfl] at e1
  have hskd : skwD ls = .arr 8 (.arr 64 .leaf) (ls.map arr8) := rfl
  have hskk : skwD ks = .arr 8 (.arr 64 .leaf) (ks.map arr8) := rfl
  rw [hskd, hskk] at e1 ⊢
  by_cases hc : codeSk p l [ls, ks] = 0
  · rw [hc] at e1
    obtain ⟨ip, m, S, R, rfl, rfl, rfl, hm, hS8, hR8, hS, hR⟩ := ms_of h8 k8 (codes_ms.1 hc)
    have h5 := hm.five
    have hX := Sk.of8 hS8 hS
    have hB := Sk.of8 hR8 hR
    have e2 := hdg p m (trimS S) hm.mon.2 (by omega) hX
    have e3 := hdg p m (trimS R) hm.mon.2 (by omega) hB
    rw [eS_arr, pd8_trim hS8] at e2
    rw [eS_arr, pd8_trim hR8] at e3
    have hi := lmC_iff hm hS8 hR8 hS hR hc
    by_cases h0 : (trimS S).length = 0 ∨ (trimS R).length = 0
    · rw [if_pos h0] at hi
      rw [lmD_bad (by rw [hi]; omega), hi, z8_pad]
      by_cases hs0 : (trimS S).length = 0
      · rw [hs0] at e2
        refine ask_of hT rfl ?_
        generalize (skP S).map arr8 = LS at *
        generalize (skP R).map arr8 = LR at *
        generalize pad (row m) = Pm at *
        simp -implicitDefEqProofs [ir_spec_LeftMultiple, ir_spec_LeftMultiple_B, dn_cond, e1, e2, List.replicate]
      · have hs1 : ¬ ((trimS S).length : Int) - 1 < 0 := by omega
        rw [show (trimS R).length = 0 by omega] at e3
        refine ask_of hT rfl ?_
        generalize ((trimS S).length : Int) - 1 = sl at *
        generalize (skP S).map arr8 = LS at *
        generalize (skP R).map arr8 = LR at *
        generalize pad (row m) = Pm at *
        simp -implicitDefEqProofs [ir_spec_LeftMultiple, ir_spec_LeftMultiple_B, dn_cond, e1, e2, e3, hs1, List.replicate]
    · rw [if_neg h0] at hi
      rw [lmD_good hm hS hR hi]
      have hs1 : ¬ ((trimS S).length : Int) - 1 < 0 := by omega
      have hr1 : ¬ ((trimS R).length : Int) - 1 < 0 := by omega
      have e4 := hd p m (trimS S) (trimS R) hm hX hB (by omega) (by omega)
      rw [eS_arr, eS_arr, pd8_trim hS8, pd8_trim hR8] at e4
      unfold smD at e4
      unfold lmT
      by_cases hl8 : (lmX m (trimS S) (trimS R)).length ≤ 8
      · rw [if_pos hl8] at e4 ⊢
        have hf1 := flats_arr8 (skP (pd8 (monS m (lmX m (trimS S) (trimS R)))))
        rw [eS_arr] at e4 ⊢
        refine ask_of hT rfl ?_
        generalize (skP (pd8 (monS m (lmX m (trimS S) (trimS R))))).map arr8 = D1 at *
        generalize ((trimS S).length : Int) - 1 = sl at *
        generalize ((trimS R).length : Int) - 1 = rl at *
        generalize (skP S).map arr8 = LS at *
        generalize (skP R).map arr8 = LR at *
        generalize pad (row m) = Pm at *
        simp -implicitDefEqProofs [ir_spec_LeftMultiple, ir_spec_LeftMultiple_B, dn_cond, e1, e2, e3, e4, hs1, hr1, hf1, List.replicate]
      · rw [if_neg hl8] at e4 ⊢
        rw [eS_arr, ← z8_eq] at e4 ⊢
        have hfz : D.flats z8 = true := rfl
        refine ask_of hT rfl ?_
        generalize ((trimS S).length : Int) - 1 = sl at *
        generalize ((trimS R).length : Int) - 1 = rl at *
        generalize (skP S).map arr8 = LS at *
        generalize (skP R).map arr8 = LR at *
        generalize pad (row m) = Pm at *
        simp -implicitDefEqProofs [ir_spec_LeftMultiple, ir_spec_LeftMultiple_B, dn_cond, e1, e2, e3, e4, hs1, hr1, hfz, List.replicate]
  · have hk1 : lmC p l ls ks = codeSk p l [ls, ks] := by unfold lmC; rw [if_pos hc]
    rw [lmD_bad (by rw [hk1]; exact hc), hk1, z8_pad]
    refine ask_of hT rfl ?_
    generalize codeSk p l [ls, ks] = k at *
    generalize ls.map arr8 = LD at *
    generalize ks.map arr8 = KD at *
    simp -implicitDefEqProofs [ir_spec_LeftMultiple, ir_spec_LeftMultiple_B, dn_cond, e1, hc, List.replicate]
def L_LeftMultiple (O : Oracle) : Prop := ∀ (p : Int) (l : List Int), Bytes l → l.length = 64 → ∀ (ls : List (List Int)), Arrs ls → ls.length = 8 → ∀ (ks : List (List Int)), Arrs ks → ks.length = 8 → ask O F_laws_FnExactLeftMultiple [(D.int .i64 p), (D.arr 64 .leaf (ints .u8 l)), skwD ls, skwD ks] = some (D.bool true)
theorem law_LeftMultiple (hT : T F_laws_FnExactLeftMultiple = some ir_laws_FnExactLeftMultiple) (hp : C_toPoly (den T A)) (hk : C_toSk (den T A)) (he : C_eqSk (den T A)) (hi : K_LeftMultiple (den T A) F_impl_LeftMultiple) (hs : K_LeftMultiple (den T A) F_spec_LeftMultiple) : L_LeftMultiple (den T A) := by
  intro p l bl gl ls ha h8 ks ka k8
  have e1 := hp l bl gl
  have e2 := hk ls ⟨ha, h8⟩
  have e2' := hk ks ⟨ka, k8⟩
  have e3 := hi p l ls ks bl gl ⟨ha, h8⟩ ⟨ka, k8⟩
  have e4 := hs p l ls ks bl gl ⟨ha, h8⟩ ⟨ka, k8⟩
  obtain ⟨r, k, e5, g1⟩ := lmD_form p l (ls := ls) (ks := ks) ⟨ha, h8⟩ ⟨ka, k8⟩
  rw [e5] at e3 e4
  have e6 := he r g1
  have hskd : skwD ls = .arr 8 (.arr 64 .leaf) (ls.map arr8) := rfl
  have hskk : skwD ks = .arr 8 (.arr 64 .leaf) (ks.map arr8) := rfl
  have hskr : skwD r = .arr 8 (.arr 64 .leaf) (r.map arr8) := rfl
  rw [hskr] at e3 e4 e6
  rw [hskd] at e2 e3 e4 ⊢
  rw [hskk] at e2' e3 e4 ⊢
  have hfl := flats_arr8 ls
  have hfl2 := flats_arr8 ks
  have hflr := flats_arr8 r
  refine ask_of hT rfl ?_
  generalize ls.map arr8 = LD at *
  generalize ks.map arr8 = LK at *
  generalize r.map arr8 = LR at *
  simp -implicitDefEqProofs [ir_laws_FnExactLeftMultiple, ir_laws_FnExactLeftMultiple_B, dn_cond, e1, e2, e2', e3, e4, e6, hfl, hfl2, hflr, List.replicate]
end Pe

namespace Pe
open Go
abbrev tyS : Ty := .arr 8 tyP
theorem has_polys : ∀ (xs : List D), (∀ x ∈ xs, tyP.has x) → ∃ ls : List (List Int), xs = ls.map arr8 ∧ Arrs ls
  | [], _ => ⟨[], rfl, fun _ h => by cases h⟩
  | x :: xs, h => by
    obtain ⟨ls, rfl, hb⟩ := has_polys xs fun y hy => h y (List.mem_cons_of_mem _ hy)
    obtain ⟨l, rfl, b, g⟩ := has_P (h x (by simp))
    refine ⟨l :: ls, rfl, fun y hy => ?_⟩
    rcases List.mem_cons.1 hy with rfl | hy
    · exact ⟨g, b⟩
    · exact hb y hy
theorem has_S {d : D} (h : tyS.has d) : ∃ ls : List (List Int), d = skwD ls ∧ Arrs ls ∧ ls.length = 8 := by
  cases d <;> simp only [Ty.has] at h
  obtain ⟨rfl, rfl, h1, h2⟩ := h
  obtain ⟨ls, rfl, hb⟩ := has_polys _ h2
  exact ⟨ls, rfl, hb, by simpa using h1⟩
end Pe
