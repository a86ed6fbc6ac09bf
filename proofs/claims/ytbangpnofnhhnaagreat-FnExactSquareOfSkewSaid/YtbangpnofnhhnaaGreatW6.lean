/-
  A part of the proof: an evaluator for a small form of the code, its soundness, and contracts of functions over it.
-/
import Derived.Test.YtbangpnofnhhnaaGreatW1
import Derived.Test.YtbangpnofnhhnaaGreatW2
import Derived.Test.YtbangpnofnhhnaaGreatW3
import Derived.Test.YtbangpnofnhhnaaGreatW4
import Derived.Test.YtbangpnofnhhnaaGreatW5

namespace Pe
open Go Gq
variable {T : Nat → Option Fn} {A : Oracle}
/-- Rows of six. -/
abbrev arr6 (l : List Int) : D := .arr 6 .leaf (ints .u8 l)
abbrev sqD (ls : List (List Int)) : D := .arr 6 (.arr 6 .leaf) (ls.map arr6)
abbrev z6 : List Int := List.replicate 6 0
abbrev zz6 : List (List Int) := List.replicate 6 z6
theorem zz6_eq : zz6.map arr6 = List.replicate 6 (.arr 6 .leaf (List.replicate 6 (.int .u8 0))) := rfl
theorem flats_arr6 : ∀ ls : List (List Int), D.flats (ls.map arr6) = true
  | [] => rfl
  | l :: ls => by
    show (D.flats (ints .u8 l) && D.flats (ls.map arr6)) = true
    rw [flats_arr6 ls, flats_ints]; rfl
/-- The first six places. -/
def pd6 (l : List Int) : List Int := upd (cf l) 6 0 z6
theorem pd6_length (l : List Int) : (pd6 l).length = 6 := by unfold pd6; rw [upd_length]; rfl
theorem upd_pd6 {l k : List Int} {n : Nat} (hn : n ≤ 6) (h : ∀ j, j < n → cf k j = cf l j) (h0 : ∀ j, n ≤ j → cf l j = 0) : upd (cf k) n 0 z6 = pd6 l := by
  have h6 : (z6).length = 6 := rfl
  unfold pd6
  refine List.ext_getElem? fun j => ?_
  rw [upd_get, upd_get, h6]
  by_cases hj : j < n
  · rw [if_pos ⟨Nat.zero_le _, by omega, by omega⟩, if_pos ⟨Nat.zero_le _, by omega, by omega⟩, h j hj]
  · rw [if_neg (by omega)]
    by_cases h7 : j < 6
    · rw [if_pos ⟨Nat.zero_le _, by omega, h7⟩, h0 j (by omega), List.getElem?_replicate, if_pos h7]
    · rw [if_neg (by omega)]
theorem l_asRow {O : Oracle} {l z : List Int} (hb : Bytes l) (hl : l.length ≤ 6) : ∀ (m i : Nat) (cur : List Int), i + m = l.length → cur.length = 6 →
    dn O 0 (.loop ir_impl_asRow_L0) ⟨[(2, .ptr 0 []), (3, .ptr 1 []), (6, (.d (.sl .leaf (ints .i64 l)))), (7, (.d (.int .i64 l.length))), (8, (.d (.int .i64 i)))], [.box false (arr6 z), .box false (arr6 cur)]⟩ =
      some (.exit 0, ⟨[(2, .ptr 0 []), (3, .ptr 1 []), (6, (.d (.sl .leaf (ints .i64 l)))), (7, (.d (.int .i64 l.length))), (8, (.d (.int .i64 l.length))), (9, (.d (.bool false)))], [.box false (arr6 z), .box false (arr6 (upd (cf l) m i cur))]⟩)
  | 0, i, cur, hi, hc => by
    have : i = l.length := by omega
    subst this
    exact dn_stop (by simp -implicitDefEqProofs [ir_impl_asRow_L0, dn_cond, upd])
  | m + 1, i, cur, hi, hc => by
    have hlt : i < l.length := by omega
    have hb' := hb _ (List.getElem_mem hlt)
    rw [← cf_lt hlt] at hb'
    have w1 : IntKind.u8.wrap l[i] = cf l i := by rw [← cf_lt hlt]; exact w8 hb'
    have w4 : IntKind.i64.wrap ((i : Int) + 1) = ((i + 1 : Nat) : Int) := (w64 (x := (i : Int) + 1) (by omega)).trans (by omega)
    have hi6 : i < 6 := by omega
    have hcur : cur[i]? = some (cf cur i) := by rw [List.getElem?_eq_getElem (by omega), cf_lt]
    have ih := l_asRow (O := O) (z := z) hb hl m (i + 1) (cur.set i (cf l i)) (by omega) (by simpa using hc)
    refine dn_round ?_ ih
    simp -implicitDefEqProofs [ir_impl_asRow_L0, dn_cond, hlt, w1, w4, hi6, hcur]
def C_asRow (O : Oracle) : Prop := ∀ l : List Int, Bytes l → l.length ≤ 6 → ask O F_impl_asRow [(D.sl .leaf (ints .i64 l))] = some (arr6 (pd6 l))
theorem c_asRow (hT : T F_impl_asRow = some ir_impl_asRow) : C_asRow (den T A) := by
  intro l hb hl
  have e := l_asRow (O := den T A) (z := z6) hb hl l.length 0 z6 (Nat.zero_add _) rfl
  have e0 : ((0 : Nat) : Int) = 0 := rfl
  rw [e0, upd_pd6 hl (fun _ _ => rfl) (fun j hj => cf_ge hj)] at e
  simp only [z6, List.replicate] at e
  refine ask_of hT rfl ?_
  simp -implicitDefEqProofs [ir_impl_asRow, ir_impl_asRow_B, e]
section
variable {p : Int} [IsP p]
noncomputable def mono (p : Int) (i : Nat) : Fp p := numP p (p ^ i)
theorem dgs_pow : ∀ (i f : Nat), i < f → dgs p f (p ^ i) = List.replicate i 0 ++ [1]
  | 0, f + 1, _ => by
    have hp := IsP.ge (p := p)
    have h1 : (1 : Int) % p = 1 := Int.emod_eq_of_lt (by omega) (by omega)
    have h2 : (1 : Int) / p = 0 := Int.ediv_eq_zero_of_lt (by omega) (by omega)
    unfold dgs
    rw [Int.pow_zero, if_neg (by omega), h1, h2]
    cases f with
    | zero => rfl
    | succ f => unfold dgs; rw [if_pos (Int.le_refl 0)]; rfl
  | i + 1, f + 1, h => by
    have hp := IsP.pos (p := p)
    have hpos : 0 < p ^ (i + 1) := Int.pow_pos hp
    unfold dgs
    rw [if_neg (by omega), Int.pow_succ, Int.mul_emod_left, Int.mul_ediv_cancel _ (by omega), dgs_pow i f (by omega)]
    rfl
theorem row_mono {i : Nat} (hi : i ≤ 12) : row (mono p i) = List.replicate i 0 ++ [1] := by
  have h1 := ppow_le (p := p) hi
  unfold mono
  rw [row_numP (by omega), dgs_pow i 64 (by omega)]
theorem mono_len {i : Nat} (hi : i ≤ 12) : (mono p i).len = i + 1 := by
  rw [← row_length, row_mono hi, List.length_append, List.length_replicate]; rfl
theorem pad_mono {i : Nat} (hi : i ≤ 12) : pad (row (mono p i)) = (pad []).set i 1 := by
  refine pad_eq (by rw [List.length_set]; rfl) fun j hj => ?_
  rw [row_mono hi, cf_set]
  have hz : cf (pad []) j = 0 := by rw [pad_cf (by simp)]; exact cf_ge (by simp)
  rw [hz]
  unfold cf
  rw [List.getD_eq_getElem?_getD, List.getElem?_append, List.length_replicate]
  by_cases h : j = i
  · subst h
    rw [if_neg (by omega), if_pos ⟨rfl, by rw [pad_length]; omega⟩, Nat.sub_self]; rfl
  · have hno : ¬ (j = i ∧ i < (pad []).length) := fun g => h g.1
    rw [if_neg hno]
    by_cases h2 : j < i
    · rw [if_pos h2, List.getElem?_replicate, if_pos h2]; rfl
    · rw [if_neg h2]
      have : ([1] : List Int)[j - i]? = none := List.getElem?_eq_none (by simp; omega)
      rw [this]; rfl
end
def updR (f : Nat → List Int) : Nat → Nat → List (List Int) → List (List Int)
  | 0, _, L => L
  | m + 1, i, L => updR f m (i + 1) (L.set i (f i))
def Sh6 (ls : List (List Int)) : Prop := ls.length = 6 ∧ ∀ l ∈ ls, l.length = 6
theorem updR_sh (f : Nat → List Int) (hf : ∀ i, (f i).length = 6) : ∀ (m i : Nat) (L : List (List Int)), Sh6 L → Sh6 (updR f m i L)
  | 0, _, _, h => h
  | m + 1, i, L, h => updR_sh f hf m (i + 1) _ ⟨by rw [List.length_set]; exact h.1, fun l hl => by
    rcases List.mem_or_eq_of_mem_set hl with h1 | rfl
    · exact h.2 l h1
    · exact hf i⟩
theorem sh6_zz : Sh6 zz6 := ⟨rfl, fun l hl => by rw [List.eq_of_mem_replicate hl]; rfl⟩
/-- The row of a power of the letter. -/
noncomputable def soRow {p : Int} [IsP p] (m : Fp p) (S : List (Fp p)) (i : Nat) : List Int := pd6 (row (svI m (mono p i) 0 S 0))
noncomputable def soMat {p : Int} [IsP p] (m : Fp p) (S : List (Fp p)) : List (List Int) := updR (soRow m S) (m.len - 1) 0 zz6
theorem l_so1 {O : Oracle} (hno : C_norm O) (hnu : K_numbered O) (hva : K_value O) (has : C_asRow O) {p : Int} [IsP p] {m : Fp p} {z : D} {S : List (Fp p)} (hm : Fld m) (hSl : S.length = 8) (hS : ∀ a ∈ S, a.len ≤ 64) {d : Nat} (hd : m.len = d + 1) : ∀ (r i : Nat) (L : List (List Int)), i + r = d → L.length = 6 →
    dn O 0 (.loop ir_impl_SquareOfSkew_L0) ⟨[(6, .ptr 2 []), (9, .ptr 4 []), (10, .d (skD (trimS S))), (11, .ptr 5 []), (29, (.d (.int .i64 d))), (30, (.d (.int .i64 i)))], [.hole, .hole, .box false z, .hole, .box false (fldD m), .box false (.arr 6 (.arr 6 .leaf) (L.map arr6))]⟩ =
      some (.exit 0, ⟨[(6, .ptr 2 []), (9, .ptr 4 []), (10, .d (skD (trimS S))), (11, .ptr 5 []), (29, (.d (.int .i64 d))), (30, (.d (.int .i64 d))), (31, (.d (.bool false)))], [.hole, .hole, .box false z, .hole, .box false (fldD m), .box false (.arr 6 (.arr 6 .leaf) ((updR (soRow m S) r i L).map arr6))]⟩)
  | 0, i, L, hi, hL => by
    obtain rfl : i = d := by omega
    refine dn_stop ?_
    show _ = some (_, (⟨_, [_, _, _, _, _, .box false (.arr 6 (.arr 6 .leaf) (L.map arr6))]⟩ : St))
    generalize L.map arr6 = LD at *
    generalize skD (trimS S) = SD at *
    simp -implicitDefEqProofs [ir_impl_SquareOfSkew_L0, dn_cond]
  | r + 1, i, L, hi, hL => by
    have h5 := hm.five
    have hlt : i < d := by omega
    have hi6 : i < 6 := by omega
    have hp0 := IsP.pos (p := p)
    have h1 := ppow_le (p := p) (show i ≤ 12 by omega)
    have h3 : 0 < p ^ i := Int.pow_pos hp0
    have e1 := hno p i 1099511627776 (by omega) (by omega)
    rw [normL_eq i 1 (by omega) (by omega), Int.one_mul] at e1
    have e2 := hnu p (p ^ i) (by omega) (by omega)
    rw [show numP p (p ^ i) = mono p i from rfl] at e2
    have hml : (mono p i).len = i + 1 := mono_len (by omega)
    have hts : ∀ c ∈ trimS S, c.len ≤ 1000 := fun c hc => by
      have := hS c (List.mem_of_mem_take hc); omega
    have e3 := hva p m (mono p i) (trimS S) hm.two (by omega) (by omega) (by unfold trimS; rw [List.length_take]; omega) hts
    rw [svI_trim hm.mon.2] at e3
    have hvl := svI_len (x := mono p i) hm.mon.2 0 S 0 (by rw [Pol.len_zero]; omega)
    have e4 := has (row (svI m (mono p i) 0 S 0)) (row_bytes _) (by rw [row_length]; omega)
    have w4 : IntKind.i64.wrap ((i : Int) + 1) = ((i + 1 : Nat) : Int) := (w64 (x := (i : Int) + 1) (by omega)).trans (by omega)
    refine dn_round ?_ (l_so1 hno hnu hva has hm hSl hS hd r (i + 1) (L.set i (soRow m S i)) (by omega) (by rw [List.length_set]; exact hL))
    have hset : (L.set i (soRow m S i)).map arr6 = (L.map arr6).set i (arr6 (soRow m S i)) := List.map_set
    rw [hset]
    have hLL : (L.map arr6).length = 6 := by rw [List.length_map]; exact hL
    have hsh : ∀ h : i < (L.map arr6).length, ((L.map arr6)[i]'h).sh.beq (.arr 6 .leaf) = true := fun h => by rw [List.getElem_map]; rfl
    have hfd : fldD m = .st [.leaf, .leaf] [(D.int .i64 p), (D.sl .leaf (ints .i64 (row m)))] := rfl
    rw [show soRow m S i = pd6 (row (svI m (mono p i) 0 S 0)) from rfl]
    have hts2 : skD (trimS S) = .sl .leaf ((trimS S).map fun c => (D.sl .leaf (ints .i64 (row c)))) := rfl
    rw [hfd, hts2] at e3 ⊢
    generalize pd6 (row (svI m (mono p i) 0 S 0)) = P6 at *
    generalize row (svI m (mono p i) 0 S 0) = R1 at *
    generalize row (mono p i) = R2 at *
    generalize row m = R3 at *
    generalize p ^ i = pi at *
    generalize ((trimS S).map fun c => (D.sl .leaf (ints .i64 (row c)))) = SD at *
    generalize L.map arr6 = LD at *
    simp -implicitDefEqProofs [ir_impl_SquareOfSkew_L0, dn_cond, hlt, hi6, hLL, hsh, e1, e2, e3, e4, w4]
theorem l_sso0 {O : Oracle} (hdg : K_sDeg O) {p : Int} [IsP p] {m : Fp p} (hml : m.len ≤ 64) {d : Nat} (hd : m.len = d + 1) (hd6 : d ≤ 6) {LS LR z : List D} (hLR : LR.length = 6) {i : Nat} (hi : i < 6) {y : List Int} (hy : y.length = 64) : ∀ (r k : Nat) (cur : List Int), k + r = d → cur.length = 6 →
    dn O 0 (.loop ir_spec_l05OfSkew_L0) ⟨[(0, (.d (.int .i64 p))), (4, .ptr 0 []), (5, .ptr 1 []), (6, .ptr 2 []), (7, .ptr 3 []), (8, (.d (.int .i64 i))), (10, .ptr 5 []), (11, (.d (.int .i64 k)))], [.box false (D.arr 64 .leaf (ints .u8 (pad (row m)))), .box false (.arr 8 (.arr 64 .leaf) LS), .box false (.arr 6 (.arr 6 .leaf) z), .box false (.arr 6 (.arr 6 .leaf) (LR.set i (arr6 cur))), .hole, .box false (D.arr 64 .leaf (ints .u8 y))]⟩ =
      some (.exit 2, ⟨[(0, (.d (.int .i64 p))), (4, .ptr 0 []), (5, .ptr 1 []), (6, .ptr 2 []), (7, .ptr 3 []), (8, (.d (.int .i64 i))), (10, .ptr 5 []), (11, (.d (.int .i64 d))), (30, (.d (.bool false)))], [.box false (D.arr 64 .leaf (ints .u8 (pad (row m)))), .box false (.arr 8 (.arr 64 .leaf) LS), .box false (.arr 6 (.arr 6 .leaf) z), .box false (.arr 6 (.arr 6 .leaf) (LR.set i (arr6 (upd (cf y) r k cur)))), .hole, .box false (D.arr 64 .leaf (ints .u8 y))]⟩)
  | 0, k, cur, hk, hc => by
    obtain rfl : k = d := by omega
    have e1 := hdg p m hml
    rw [hd, show ((k + 1 : Nat) : Int) - 1 = (k : Int) by omega] at e1
    refine dn_stop ?_
    show _ = some (_, (⟨_, [_, _, _, .box false (.arr 6 (.arr 6 .leaf) (LR.set i (arr6 cur))), _, _]⟩ : St))
    generalize pad (row m) = Pm at *
    generalize LR.set i (arr6 cur) = LQ at *
    simp -implicitDefEqProofs [ir_spec_l05OfSkew_L0, dn_cond, e1]
  | r + 1, k, cur, hk, hc => by
    have e1 := hdg p m hml
    rw [hd, show ((d + 1 : Nat) : Int) - 1 = (d : Int) by omega] at e1
    have hlt : k < d := by omega
    have hk6 : k < 6 := by omega
    have hk64 : k < 64 := by omega
    have hyk : y[k]? = some (cf y k) := by rw [List.getElem?_eq_getElem (by omega), cf_lt]
    have hky : k < y.length := by omega
    have hyk2 : y[k] = cf y k := (cf_lt hky).symm
    have hcur : cur[k]? = some (cf cur k) := by rw [List.getElem?_eq_getElem (by omega), cf_lt]
    have w4 : IntKind.i64.wrap ((k : Int) + 1) = ((k + 1 : Nat) : Int) := (w64 (x := (k : Int) + 1) (by omega)).trans (by omega)
    refine dn_round ?_ (l_sso0 hdg hml hd hd6 hLR hi hy r (k + 1) (cur.set k (cf y k)) (by omega) (by rw [List.length_set]; exact hc))
    generalize pad (row m) = Pm at *
    simp -implicitDefEqProofs [ir_spec_l05OfSkew_L0, dn_cond, e1, hlt, hi, hk6, hk64, hyk2, hky, hcur, hLR, w4]
theorem l_sso1 {O : Oracle} (hdg : K_sDeg O) (hva : K_sSkVal O) {p : Int} [IsP p] {m : Fp p} {S : List (Fp p)} (hm : Fld m) (h8 : S.length = 8) (hS : ∀ a ∈ S, a.len < m.len) {d : Nat} (hd : m.len = d + 1) {z : List D} : ∀ (r i : Nat) (L : List (List Int)), i + r = d → L.length = 6 → (∀ j, i ≤ j → j < 6 → L[j]? = some z6) →
    dn O 0 (.loop ir_spec_l05OfSkew_L1) ⟨[(0, (.d (.int .i64 p))), (4, .ptr 0 []), (5, .ptr 1 []), (6, .ptr 2 []), (7, .ptr 3 []), (8, (.d (.int .i64 i)))], [.box false (D.arr 64 .leaf (ints .u8 (pad (row m)))), .box false (.arr 8 (.arr 64 .leaf) ((skP S).map arr8)), .box false (.arr 6 (.arr 6 .leaf) z), .box false (.arr 6 (.arr 6 .leaf) (L.map arr6)), .hole, .hole]⟩ =
      some (.exit 0, ⟨[(0, (.d (.int .i64 p))), (4, .ptr 0 []), (5, .ptr 1 []), (6, .ptr 2 []), (7, .ptr 3 []), (8, (.d (.int .i64 d))), (16, (.d (.bool false)))], [.box false (D.arr 64 .leaf (ints .u8 (pad (row m)))), .box false (.arr 8 (.arr 64 .leaf) ((skP S).map arr8)), .box false (.arr 6 (.arr 6 .leaf) z), .box false (.arr 6 (.arr 6 .leaf) ((updR (soRow m S) r i L).map arr6)), .hole, .hole]⟩)
  | 0, i, L, hi, hL, hz => by
    obtain rfl : i = d := by omega
    have h5 := hm.five
    have e1 := hdg p m (by omega)
    rw [hd, show ((i + 1 : Nat) : Int) - 1 = (i : Int) by omega] at e1
    refine dn_stop ?_
    show _ = some (_, (⟨_, [_, _, _, .box false (.arr 6 (.arr 6 .leaf) (L.map arr6)), _, _]⟩ : St))
    generalize L.map arr6 = LD at *
    generalize (skP S).map arr8 = LS at *
    generalize pad (row m) = Pm at *
    simp -implicitDefEqProofs [ir_spec_l05OfSkew_L1, dn_cond, e1]
  | r + 1, i, L, hi, hL, hz => by
    have h5 := hm.five
    have e1 := hdg p m (by omega)
    rw [hd, show ((d + 1 : Nat) : Int) - 1 = (d : Int) by omega] at e1
    have hlt : i < d := by omega
    have hi6 : i < 6 := by omega
    have hi64 : i < 64 := by omega
    have hml : (mono p i).len = i + 1 := mono_len (by omega)
    have e2 := hva p m (mono p i) S hm.two (by omega) (by omega) h8 hS
    rw [pad_mono (by omega)] at e2
    have hvl := svI_len (x := mono p i) hm.mon.2 0 S 0 (by rw [Pol.len_zero]; omega)
    have hLL : (L.map arr6).length = 6 := by rw [List.length_map]; exact hL
    have e3 := l_sso0 hdg (by omega) hd (by omega) (LS := (skP S).map arr8) (z := z) hLL hi6 (y := pad (row (svI m (mono p i) 0 S 0))) (pad_length _) d 0 z6 (Nat.zero_add _) rfl
    have hrow : upd (cf (pad (row (svI m (mono p i) 0 S 0)))) d 0 z6 = soRow m S i := upd_pd6 (by omega) (fun j _ => pad_cf (by rw [row_length]; omega) j) (fun j hj => cf_ge (by rw [row_length]; omega))
    have hs0 : (L.map arr6).set i (arr6 z6) = L.map arr6 := by
      refine List.ext_getElem? fun j => ?_
      rw [List.getElem?_set]
      by_cases hj : i = j
      · subst hj
        rw [if_pos rfl, if_pos (by omega), List.getElem?_map, hz i (by omega) hi6]; rfl
      · rw [if_neg hj]
    have e00 : ((0 : Nat) : Int) = 0 := rfl
    rw [hrow, hs0, e00] at e3
    have w4 : IntKind.i64.wrap ((i : Int) + 1) = ((i + 1 : Nat) : Int) := (w64 (x := (i : Int) + 1) (by omega)).trans (by omega)
    refine dn_round ?_ (l_sso1 hdg hva hm h8 hS hd r (i + 1) (L.set i (soRow m S i)) (by omega) (by rw [List.length_set]; exact hL) (fun j h1 h2 => by rw [List.getElem?_set_ne (by omega)]; exact hz j (by omega) h2))
    have hset : (L.set i (soRow m S i)).map arr6 = (L.map arr6).set i (arr6 (soRow m S i)) := List.map_set
    rw [hset]
    have hsk : skwD (skP S) = .arr 8 (.arr 64 .leaf) ((skP S).map arr8) := rfl
    rw [hsk] at e2
    have hpz : (pad [])[i]? = some 0 := by rw [pad_get _ _ hi64]; rfl
    generalize pad (row (svI m (mono p i) 0 S 0)) = PV at *
    generalize soRow m S i = P6 at *
    generalize L.map arr6 = LD at *
    generalize (skP S).map arr8 = LS at *
    generalize pad (row m) = Pm at *
    simp -implicitDefEqProofs [ir_spec_l05OfSkew_L1, dn_cond, e1, e2, e3, hlt, hi64, hpz, w4]
def K_sOfSkew (O : Oracle) : Prop := ∀ (p : Int) [IsP p] (m : Fp p) (S : List (Fp p)), Fld m → S.length = 8 → (∀ a ∈ S, a.len < m.len) → ask O F_spec_l05OfSkew [(D.int .i64 p), (D.arr 64 .leaf (ints .u8 (pad (row m)))), skwD (skP S)] = some (sqD (soMat m S))
theorem k_sOfSkew (hT : T F_spec_l05OfSkew = some ir_spec_l05OfSkew) (hdg : K_sDeg (den T A)) (hva : K_sSkVal (den T A)) : K_sOfSkew (den T A) := by
  intro p ip m S hm h8 hS
  have h2 := hm.two
  have e := l_sso1 (O := den T A) hdg hva hm h8 hS (d := m.len - 1) (by omega) (z := zz6.map arr6) (m.len - 1) 0 zz6 (Nat.zero_add _) rfl (fun j _ h => by rw [List.getElem?_replicate, if_pos h])
  have e00 : ((0 : Nat) : Int) = 0 := rfl
  rw [e00, show updR (soRow m S) (m.len - 1) 0 zz6 = soMat m S from rfl, zz6_eq] at e
  simp only [List.replicate] at e
  have hskd : skwD (skP S) = .arr 8 (.arr 64 .leaf) ((skP S).map arr8) := rfl
  have hsq : sqD (soMat m S) = .arr 6 (.arr 6 .leaf) ((soMat m S).map arr6) := rfl
  rw [hskd, hsq]
  refine ask_of hT rfl ?_
  generalize (soMat m S).map arr6 = LQ at *
  generalize (skP S).map arr8 = LS at *
  generalize pad (row m) = Pm at *
  simp -implicitDefEqProofs [ir_spec_l05OfSkew, ir_spec_l05OfSkew_B, e, List.replicate]
def SkOk (p : Int) (l : List Int) (ls : List (List Int)) : Prop := ∃ (_ : IsP p) (m : Fp p), l = pad (row m) ∧ Fld m ∧ IsSk m ls
open Classical in
noncomputable def soD (p : Int) (l : List Int) (ls : List (List Int)) : D :=
  if h : SkOk p l ls then
    haveI : IsP p := h.choose
    .tup [sqD (soMat (polOf p l) (ls.map (polOf p))), (D.int .i64 0)]
  else .tup [sqD zz6, (D.int .i64 1)]
theorem soD_good {p : Int} [IsP p] {m : Fp p} {S : List (Fp p)} (h : SkOk p (pad (row m)) (skP S)) (hm : m.len ≤ 64) (hS : ∀ a ∈ S, a.len ≤ 64) : soD p (pad (row m)) (skP S) = .tup [sqD (soMat m S), (D.int .i64 0)] := by
  unfold soD
  rw [dif_pos h, polOf_pad hm, map_polOf hS]
theorem soD_bad {p : Int} {l : List Int} {ls : List (List Int)} (h : ¬ SkOk p l ls) : soD p l ls = .tup [sqD zz6, (D.int .i64 1)] := by
  unfold soD; rw [dif_neg h]
theorem codes_so {p : Int} {l : List Int} {ls : List (List Int)} : codeSk p l [ls] = 0 ↔ SkOk p l ls := by
  unfold codeSk
  constructor
  · intro h1
    split at h1
    · rename_i g1
      obtain ⟨ip, m, e1, f1, s1⟩ := g1
      exact ⟨ip, m, e1, f1, s1 _ (by simp)⟩
    · cases h1
  · rintro ⟨ip, m, e, f, s⟩
    exact if_pos ⟨ip, m, e, f, fun x hx => by simp at hx; rw [hx]; exact s⟩
def K_SquareOfSkew (O : Oracle) (F : Nat) : Prop := ∀ (p : Int) (l : List Int) (ls : List (List Int)), Bytes l → l.length = 64 → Sk8 ls → ask O F [(D.int .i64 p), (D.arr 64 .leaf (ints .u8 l)), skwD ls] = some (soD p l ls)
theorem k_SquareOfSkew (hT : T F_impl_SquareOfSkew = some ir_impl_SquareOfSkew) (hsc : C_skewsCode (den T A) F_impl_skewsCode) (hfo : K_fieldOf (den T A)) (hsk : K_skewOf (den T A)) (hdg : C_degree (den T A)) (hno : C_norm (den T A)) (hnu : K_numbered (den T A)) (hva : K_value (den T A)) (has : C_asRow (den T A)) : K_SquareOfSkew (den T A) F_impl_SquareOfSkew := by
  intro p l ls bl gl h8
  have e1 := hsc p l [ls] bl gl (by simpa using h8) (by simp)
  rw [show List.map skwD [ls] = [skwD ls] from rfl] at e1
  have hskd : skwD ls = .arr 8 (.arr 64 .leaf) (ls.map arr8) := rfl
  rw [hskd] at e1 ⊢
  by_cases h : SkOk p l ls
  · rw [codes_so.2 h] at e1
    have h' := h
    obtain ⟨ip, m, rfl, hm, hs⟩ := h
    obtain ⟨S, rfl, hS⟩ := sk_of hs
    have h5 := hm.five
    have h2 := hm.two
    have hS8 : S.length = 8 := by have := h8.2; rwa [List.length_map] at this
    have hS64 : ∀ a ∈ S, a.len ≤ 64 := fun a ha => by have := hS a ha; omega
    rw [soD_good h' (by omega) hS64]
    have e3 := hfo p m (by omega)
    have e4 := hsk p S hS8 hS64
    have e5 := hdg (row m) (by rw [row_length]; omega)
    rw [row_length, show (m.len : Int) - 1 = ((m.len - 1 : Nat) : Int) by omega] at e5
    have e6 := l_so1 (O := den T A) hno hnu hva has (z := .arr 6 (.arr 6 .leaf) (zz6.map arr6)) hm hS8 hS64 (d := m.len - 1) (by omega) (m.len - 1) 0 zz6 (Nat.zero_add _) rfl
    have e00 : ((0 : Nat) : Int) = 0 := rfl
    rw [e00, show updR (soRow m S) (m.len - 1) 0 zz6 = soMat m S from rfl, zz6_eq] at e6
    simp only [List.replicate] at e6
    have hts : skD (trimS S) = .sl .leaf ((trimS S).map fun c => (D.sl .leaf (ints .i64 (row c)))) := rfl
    have hfd : fldD m = .st [.leaf, .leaf] [(D.int .i64 p), (D.sl .leaf (ints .i64 (row m)))] := rfl
    have hsq : sqD (soMat m S) = .arr 6 (.arr 6 .leaf) ((soMat m S).map arr6) := rfl
    rw [hfd] at e3 e6
    rw [hts] at e4 e6
    rw [hsq]
    rw [show skwD (skP S) = .arr 8 (.arr 64 .leaf) ((skP S).map arr8) from rfl] at e4
    refine ask_of hT rfl ?_
    generalize ((trimS S).map fun c => (D.sl .leaf (ints .i64 (row c)))) = TS at *
    generalize (soMat m S).map arr6 = LQ at *
    generalize (skP S).map arr8 = LS at *
    generalize pad (row m) = Pm at *
    generalize row m = Rm at *
    generalize m.len - 1 = d at *
    simp -implicitDefEqProofs [ir_impl_SquareOfSkew, ir_impl_SquareOfSkew_B, dn_cond, e1, e3, e4, e5, e6, List.replicate]
  · rw [soD_bad h, show sqD zz6 = .arr 6 (.arr 6 .leaf) (zz6.map arr6) from rfl, zz6_eq]
    have c1 : codeSk p l [ls] = 1 := by
      rcases codeSk_01 p l [ls] with c | c
      · exact absurd (codes_so.1 c) h
      · exact c
    rw [c1] at e1
    refine ask_of hT rfl ?_
    generalize ls.map arr8 = LD at *
    simp -implicitDefEqProofs [ir_impl_SquareOfSkew, ir_impl_SquareOfSkew_B, dn_cond, e1, List.replicate]
theorem k_sSquareOfSkew (hT : T F_spec_SquareOfSkew = some ir_spec_SquareOfSkew) (hsc : C_skewsCode (den T A) F_spec_l03Code) (hso : K_sOfSkew (den T A)) : K_SquareOfSkew (den T A) F_spec_SquareOfSkew := by
  intro p l ls bl gl h8
  have e1 := hsc p l [ls] bl gl (by simpa using h8) (by simp)
  rw [show List.map skwD [ls] = [skwD ls] from rfl] at e1
  have hskd : skwD ls = .arr 8 (.arr 64 .leaf) (ls.map arr8) := rfl
  rw [hskd] at e1 ⊢
  by_cases h : SkOk p l ls
  · rw [codes_so.2 h] at e1
    have h' := h
    obtain ⟨ip, m, rfl, hm, hs⟩ := h
    obtain ⟨S, rfl, hS⟩ := sk_of hs
    have h5 := hm.five
    have hS8 : S.length = 8 := by have := h8.2; rwa [List.length_map] at this
    have hS64 : ∀ a ∈ S, a.len ≤ 64 := fun a ha => by have := hS a ha; omega
    rw [soD_good h' (by omega) hS64]
    have e2 := hso p m S hm hS8 hS
    have hsq : sqD (soMat m S) = .arr 6 (.arr 6 .leaf) ((soMat m S).map arr6) := rfl
    have hflq := flats_arr6 (soMat m S)
    rw [hsq] at e2 ⊢
    rw [show skwD (skP S) = .arr 8 (.arr 64 .leaf) ((skP S).map arr8) from rfl] at e2
    refine ask_of hT rfl ?_
    generalize (soMat m S).map arr6 = LQ at *
    generalize (skP S).map arr8 = LS at *
    generalize pad (row m) = Pm at *
    simp -implicitDefEqProofs [ir_spec_SquareOfSkew, ir_spec_SquareOfSkew_B, dn_cond, e1, e2, hflq, List.replicate]
  · rw [soD_bad h, show sqD zz6 = .arr 6 (.arr 6 .leaf) (zz6.map arr6) from rfl, zz6_eq]
    have c1 : codeSk p l [ls] = 1 := by
      rcases codeSk_01 p l [ls] with c | c
      · exact absurd (codes_so.1 c) h
      · exact c
    rw [c1] at e1
    refine ask_of hT rfl ?_
    generalize ls.map arr8 = LD at *
    simp -implicitDefEqProofs [ir_spec_SquareOfSkew, ir_spec_SquareOfSkew_B, dn_cond, e1, List.replicate]
theorem l_eqRow {O : Oracle} {l : List Int} (hl : l.length = 6) : ∀ (k i : Nat), i + k = 6 →
    dn O 0 (.loop ir_laws_eqRow_L0) ⟨[(2, .ptr 0 []), (3, .ptr 1 []), (5, (.d (.int .i64 i)))], [.box false (arr6 l), .box false (arr6 l)]⟩ =
      some (.exit 0, ⟨[(2, .ptr 0 []), (3, .ptr 1 []), (5, (.d (.int .i64 6))), (7, (.d (.bool false)))], [.box false (arr6 l), .box false (arr6 l)]⟩)
  | 0, i, hi => by
    have : i = 6 := by omega
    subst this
    exact dn_stop (by simp -implicitDefEqProofs [ir_laws_eqRow_L0, dn_cond])
  | k + 1, i, hi => by
    have hi6 : i < 6 := by omega
    have hi6' : (i : Int) < 6 := by omega
    have hlt : i < l.length := by omega
    have hcur : l[i]? = some (cf l i) := by rw [List.getElem?_eq_getElem hlt, cf_lt]
    have hc2 : l[i] = cf l i := (cf_lt hlt).symm
    have w4 : IntKind.i64.wrap ((i : Int) + 1) = ((i + 1 : Nat) : Int) := (w64 (x := (i : Int) + 1) (by omega)).trans (by omega)
    refine dn_round ?_ (l_eqRow hl k (i + 1) (by omega))
    simp -implicitDefEqProofs [ir_laws_eqRow_L0, dn_cond, hi6, hi6', hlt, hc2, w4]
def C_eqRow (O : Oracle) : Prop := ∀ l : List Int, l.length = 6 → ask O F_laws_eqRow [arr6 l, arr6 l] = some (D.bool true)
theorem c_eqRow (hT : T F_laws_eqRow = some ir_laws_eqRow) : C_eqRow (den T A) := by
  intro l hl
  have e := l_eqRow (O := den T A) hl 6 0 rfl
  have e0 : ((0 : Nat) : Int) = 0 := rfl
  rw [e0] at e
  refine ask_of hT rfl ?_
  simp -implicitDefEqProofs [ir_laws_eqRow, ir_laws_eqRow_B, e]
theorem l_eqSq {O : Oracle} (he : C_eqRow O) {ls : List (List Int)} (h : Sh6 ls) : ∀ (k i : Nat), i + k = 6 →
    dn O 0 (.loop ir_laws_eqSquare_L0) ⟨[(2, .ptr 0 []), (3, .ptr 1 []), (5, (.d (.int .i64 i)))], [.box false (.arr 6 (.arr 6 .leaf) (ls.map arr6)), .box false (.arr 6 (.arr 6 .leaf) (ls.map arr6))]⟩ =
      some (.exit 0, ⟨[(2, .ptr 0 []), (3, .ptr 1 []), (5, (.d (.int .i64 6))), (7, (.d (.bool false)))], [.box false (.arr 6 (.arr 6 .leaf) (ls.map arr6)), .box false (.arr 6 (.arr 6 .leaf) (ls.map arr6))]⟩)
  | 0, i, hi => by
    obtain rfl : i = 6 := by omega
    refine dn_stop ?_
    generalize ls.map arr6 = LD at *
    simp -implicitDefEqProofs [ir_laws_eqSquare_L0, dn_cond]
  | k + 1, i, hi => by
    have hi8 : i < 6 := by omega
    have hi8' : (i : Int) < 6 := by omega
    have hlt : i < ls.length := by rw [h.1]; exact hi8
    have e1 := he ls[i] (h.2 _ (List.getElem_mem hlt))
    have hL : (ls.map arr6).length = 6 := by rw [List.length_map]; exact h.1
    have hx2 : ∀ h : i < (ls.map arr6).length, (ls.map arr6)[i]'h = arr6 ls[i] := fun h => by rw [List.getElem_map]
    have w4 : IntKind.i64.wrap ((i : Int) + 1) = ((i + 1 : Nat) : Int) := (w64 (x := (i : Int) + 1) (by omega)).trans (by omega)
    refine dn_round ?_ (l_eqSq he h k (i + 1) (by omega))
    generalize ls[i] = li at *
    generalize ls.map arr6 = LD at *
    simp -implicitDefEqProofs [ir_laws_eqSquare_L0, dn_cond, hi8, hi8', hL, hx2, e1, w4]
def C_eqSq (O : Oracle) : Prop := ∀ ls : List (List Int), Sh6 ls → ask O F_laws_eqSquare [sqD ls, sqD ls] = some (D.bool true)
theorem c_eqSq (hT : T F_laws_eqSquare = some ir_laws_eqSquare) (he : C_eqRow (den T A)) : C_eqSq (den T A) := by
  intro ls h
  have e := l_eqSq (O := den T A) he h 6 0 rfl
  have e00 : ((0 : Nat) : Int) = 0 := rfl
  rw [e00] at e
  have hskd : sqD ls = .arr 6 (.arr 6 .leaf) (ls.map arr6) := rfl
  rw [hskd]
  refine ask_of hT rfl ?_
  generalize ls.map arr6 = LD at *
  simp -implicitDefEqProofs [ir_laws_eqSquare, ir_laws_eqSquare_B, e]
theorem soD_form (p : Int) (l : List Int) (ls : List (List Int)) : ∃ (r : List (List Int)) (k : Int), soD p l ls = .tup [sqD r, (D.int .i64 k)] ∧ Sh6 r := by
  unfold soD
  split
  · exact ⟨_, _, rfl, updR_sh _ (fun i => pd6_length _) _ _ _ sh6_zz⟩
  · exact ⟨_, _, rfl, sh6_zz⟩
def L_SquareOfSkew (O : Oracle) : Prop := ∀ (p : Int) (l : List Int), Bytes l → l.length = 64 → ∀ (ls : List (List Int)), Arrs ls → ls.length = 8 → ask O F_laws_FnExactSquareOfSkew [(D.int .i64 p), (D.arr 64 .leaf (ints .u8 l)), skwD ls] = some (D.bool true)
theorem law_SquareOfSkew (hT : T F_laws_FnExactSquareOfSkew = some ir_laws_FnExactSquareOfSkew) (hp : C_toPoly (den T A)) (hk : C_toSk (den T A)) (he : C_eqSq (den T A)) (hi : K_SquareOfSkew (den T A) F_impl_SquareOfSkew) (hs : K_SquareOfSkew (den T A) F_spec_SquareOfSkew) : L_SquareOfSkew (den T A) := by
  intro p l bl gl ls ha h8
  have e1 := hp l bl gl
  have e2 := hk ls ⟨ha, h8⟩
  have e3 := hi p l ls bl gl ⟨ha, h8⟩
  have e4 := hs p l ls bl gl ⟨ha, h8⟩
  obtain ⟨r, k, e5, g1⟩ := soD_form p l ls
  rw [e5] at e3 e4
  have e6 := he r g1
  have hskd : skwD ls = .arr 8 (.arr 64 .leaf) (ls.map arr8) := rfl
  have hsq : sqD r = .arr 6 (.arr 6 .leaf) (r.map arr6) := rfl
  rw [hsq] at e3 e4 e6
  rw [hskd] at e2 e3 e4 ⊢
  have hfl := flats_arr8 ls
  have hflr := flats_arr6 r
  refine ask_of hT rfl ?_
  generalize ls.map arr8 = LD at *
  generalize r.map arr6 = LR at *
  simp -implicitDefEqProofs [ir_laws_FnExactSquareOfSkew, ir_laws_FnExactSquareOfSkew_B, dn_cond, e1, e2, e3, e4, e6, hfl, hflr, List.replicate]
end Pe

namespace Pe
open Go
abbrev tyS : Ty := .arr 8 tyP
theorem has_polys : ∀ (xs : List D), (∀ x ∈ xs, tyP.has x) → ∃ ls : List (List Int), xs = ls.map arr8 ∧ Arrs ls
  | [], _ => ⟨[], rfl, fun _ h => by cases h⟩
  | x :: xs, h => by
    obtain ⟨ls, rfl, hb⟩ := has_polys xs fun y hy => h y (List.mem_cons_of_mem _ hy)
    obtain ⟨l, rfl, b, g⟩ := has_P (h x (by simp))
    refine ⟨l :: ls, rfl, fun y hy => ?_⟩
    rcases List.mem_cons.1 hy with rfl | hy
    · exact ⟨g, b⟩
    · exact hb y hy
theorem has_S {d : D} (h : tyS.has d) : ∃ ls : List (List Int), d = skwD ls ∧ Arrs ls ∧ ls.length = 8 := by
  cases d <;> simp only [Ty.has] at h
  obtain ⟨rfl, rfl, h1, h2⟩ := h
  obtain ⟨ls, rfl, hb⟩ := has_polys _ h2
  exact ⟨ls, rfl, hb, by simpa using h1⟩
end Pe
