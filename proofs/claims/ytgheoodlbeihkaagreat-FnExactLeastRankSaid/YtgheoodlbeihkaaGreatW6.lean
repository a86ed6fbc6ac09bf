/-
  A part of the proof: an evaluator for a small form of the code, its soundness, and contracts of functions over it.
-/
import Derived.Test.YtgheoodlbeihkaaGreatW1
import Derived.Test.YtgheoodlbeihkaaGreatW2
import Derived.Test.YtgheoodlbeihkaaGreatW3
import Derived.Test.YtgheoodlbeihkaaGreatW4
import Derived.Test.YtgheoodlbeihkaaGreatW5

namespace Pe
open Go Gq
variable {T : Nat → Option Fn} {A : Oracle}
section
variable {p : Int} [IsP p]
theorem rep_small (x : Zp p) : 0 ≤ rep x ∧ rep x ≤ 7 := by
 have h1 := rep_in x
 have h2 := IsP.le (p := p)
 omega
theorem k_elim {O : Oracle} (hc : K_combine O) {a b : Fp p} (ha : a.len ≤ 64) (hb : b.len ≤ 64) : ask O Fl [(D.int .i64 p), (D.sl .leaf (ints .i64 (row b))), (D.sl .leaf (ints .i64 (row a))), (D.int .i64 (-rep (b.c (a.len - 1))))] = some (D.sl .leaf (ints .i64 (row (elim a b)))) := by
 have h := rep_small (b.c (a.len - 1))
 have := hc p (-rep (b.c (a.len - 1))) b a (by omega) (by omega) (by omega) (by omega)
 rw [zp_neg, zp_rep] at this
 exact this
theorem l_red0 {O : Oracle} (hat : C_at O) (hc : K_combine O) {L : List (Fp p)} {N : Nat} (hN : N ≤ 12) (hL : Desc N L) {xs : List D} {nx i : Int} {n : Nat} (hn : L.length = n) {cp cp2 : Option Nat} : ∀ (r j : Nat) (a : Fp p), j + r = n → a.len ≤ N →
 dn O 0 (.loop Zz_L0) ⟨[(0, (.d (.int .i64 p))), (5, .sl 0 [] 0 n cp), (7, (.d (.sl .leaf (ints .i64 (row a))))), (12, .d (.sl .leaf xs)), (13, (.d (.int .i64 nx))), (14, (.d (.int .i64 i))), (18, .sl 0 [] 0 n cp2), (19, (.d (.int .i64 n))), (20, (.d (.int .i64 j)))], [.sl false .leaf (L.map rowD), .hole, .hole]⟩ =
  some (.exit 2, ⟨[(0, (.d (.int .i64 p))), (5, .sl 0 [] 0 n cp), (7, (.d (.sl .leaf (ints .i64 (row (redS (L.drop j) a)))))), (12, .d (.sl .leaf xs)), (13, (.d (.int .i64 nx))), (14, (.d (.int .i64 i))), (18, .sl 0 [] 0 n cp2), (19, (.d (.int .i64 n))), (20, (.d (.int .i64 n))), (21, (.d (.bool false)))], [.sl false .leaf (L.map rowD), .hole, .hole]⟩)
 | 0, j, a, hj, ha => by
  obtain rfl : j = n := by omega
  rw [List.drop_eq_nil_of_le (by omega)]
  refine dn_stop ?_
  show _ = some (_, (⟨[_, _, (7, (.d (.sl .leaf (ints .i64 (row a))))), _, _, _, _, _, _, _], _⟩ : St))
  generalize L.map rowD = LD at *
  simp -implicitDefEqProofs [Zz_L0, dn_cond]
 | r + 1, j, a, hj, ha => by
  have hlt : j < L.length := by omega
  have hll := hL.length
  have hjn : j < n := by omega
  have hm := List.getElem_mem hlt
  have hbl := hL.le _ hm
  have hbp := Pol.len_pos (hL.mon _ hm).2
  have e1 := hat (row a) (L[j].len - 1) (by omega)
  rw [row_cf] at e1
  have e2 := k_elim (O := O) hc (a := L[j]) (b := a) (by omega) (by omega)
  have w1 : IntKind.i64.wrap (((row L[j]).length : Int) - 1) = ((L[j].len - 1 : Nat) : Int) := by rw [row_length]; exact (w64 (by omega)).trans (by omega)
  have hr := rep_small (a.c (L[j].len - 1))
  have w2' : IntKind.i64.wrap (-rep (a.c (L[j].len - 1))) = -rep (a.c (L[j].len - 1)) := w64 (by omega)
  have w4 : IntKind.i64.wrap ((j : Int) + 1) = ((j + 1 : Nat) : Int) := (w64 (x := (j : Int) + 1) (by omega)).trans (by omega)
  have hx : ∀ h : j < (L.map rowD).length, (L.map rowD)[j]'h = (D.sl .leaf (ints .i64 (row L[j]))) := fun h => by rw [List.getElem_map]
  have hLD : (L.map rowD).length = n := by rw [List.length_map]; exact hn
  have hd : redS (L.drop j) a = redS (L.drop (j + 1)) (elim L[j] a) := by rw [List.drop_eq_getElem_cons hlt]; rfl
  have hjl : (j : Int) < n := by omega
  rw [hd]
  refine dn_round ?_ (l_red0 hat hc hN hL hn r (j + 1) (elim L[j] a) (by omega) (elim_le hbl ha))
  generalize rep (a.c (L[j].len - 1)) = k at *
  generalize row (elim L[j] a) = R1 at *
  generalize row a = R2 at *
  generalize row L[j] = R3 at *
  generalize L[j].len - 1 = d at *
  generalize L.map rowD = LD at *
  simp -implicitDefEqProofs [Zz_L0, dn_cond, hjl, hjn, hLD, hx, e1, e2, w1, w2', w4]
theorem l_red1 {O : Oracle} (hat : C_at O) (hc : K_combine O) {a : Fp p} (ha : a ≠ 0) (hal : a.len ≤ 12) {xs : List D} {nx i : Int} {n : Nat} {cp cp2 : Option Nat} : ∀ (r j : Nat) (Q : List (Fp p)), j + r = n → Q.length = n → (∀ b ∈ Q, b.len ≤ 12) → n ≤ 12 →
 dn O 0 (.loop Zz_L1) ⟨[(0, (.d (.int .i64 p))), (5, .sl 0 [] 0 n cp), (7, (.d (.sl .leaf (ints .i64 (row a))))), (12, .d (.sl .leaf xs)), (13, (.d (.int .i64 nx))), (14, (.d (.int .i64 i))), (45, .sl 0 [] 0 n cp2), (46, (.d (.int .i64 n))), (47, (.d (.int .i64 j)))], [.sl false .leaf (Q.map rowD), .hole, .hole]⟩ =
  some (.exit 4, ⟨[(0, (.d (.int .i64 p))), (5, .sl 0 [] 0 n cp), (7, (.d (.sl .leaf (ints .i64 (row a))))), (12, .d (.sl .leaf xs)), (13, (.d (.int .i64 nx))), (14, (.d (.int .i64 i))), (45, .sl 0 [] 0 n cp2), (46, (.d (.int .i64 n))), (47, (.d (.int .i64 n))), (48, (.d (.bool false)))], [.sl false .leaf ((Q.take j ++ (Q.drop j).map (elim a)).map rowD), .hole, .hole]⟩)
 | 0, j, Q, hj, hq, hQ, hn => by
  obtain rfl : j = n := by omega
  have : Q.take j ++ (Q.drop j).map (elim a) = Q := by rw [List.drop_eq_nil_of_le (by omega), List.take_of_length_le (by omega)]; simp
  rw [this]
  refine dn_stop ?_
  generalize Q.map rowD = LD at *
  simp -implicitDefEqProofs [Zz_L1, dn_cond]
 | r + 1, j, Q, hj, hq, hQ, hn => by
  have hlt : j < Q.length := by omega
  have hjn : j < n := by omega
  have hm := List.getElem_mem hlt
  have hbl := hQ _ hm
  have hap := Pol.len_pos ha
  have e1 := hat (row Q[j]) (a.len - 1) (by omega)
  rw [row_cf] at e1
  have e2 := k_elim (O := O) hc (a := a) (b := Q[j]) (by omega) (by omega)
  have w1 : IntKind.i64.wrap (((row a).length : Int) - 1) = ((a.len - 1 : Nat) : Int) := by rw [row_length]; exact (w64 (by omega)).trans (by omega)
  have hr := rep_small (Q[j].c (a.len - 1))
  have w2' : IntKind.i64.wrap (-rep (Q[j].c (a.len - 1))) = -rep (Q[j].c (a.len - 1)) := w64 (by omega)
  have w4 : IntKind.i64.wrap ((j : Int) + 1) = ((j + 1 : Nat) : Int) := (w64 (x := (j : Int) + 1) (by omega)).trans (by omega)
  have hx : ∀ h : j < (Q.map rowD).length, (Q.map rowD)[j]'h = (D.sl .leaf (ints .i64 (row Q[j]))) := fun h => by rw [List.getElem_map]
  have hLD : (Q.map rowD).length = n := by rw [List.length_map]; exact hq
  have hset : (Q.set j (elim a Q[j])).take (j + 1) ++ ((Q.set j (elim a Q[j])).drop (j + 1)).map (elim a) = Q.take j ++ (Q.drop j).map (elim a) := by
   rw [List.drop_set_of_lt (by omega), List.take_succ_eq_append_getElem (by rw [List.length_set]; exact hlt), List.getElem_set_self, List.take_set, List.set_eq_of_length_le (by rw [List.length_take]; omega), List.drop_eq_getElem_cons hlt, List.map_cons, List.append_assoc]
   rfl
  rw [← hset]
  refine dn_round ?_ (l_red1 hat hc ha hal r (j + 1) (Q.set j (elim a Q[j])) (by omega) (by rw [List.length_set]; exact hq) (fun b hb => by
   rcases List.mem_or_eq_of_mem_set hb with h | rfl
   ·exact hQ b h
   ·exact elim_le hal hbl) hn)
  have hms : (Q.set j (elim a Q[j])).map rowD = (Q.map rowD).set j (D.sl .leaf (ints .i64 (row (elim a Q[j])))) := List.map_set
  rw [hms]
  have hjl : (j : Int) < n := by omega
  generalize rep (Q[j].c (a.len - 1)) = k at *
  generalize row (elim a Q[j]) = R1 at *
  generalize row Q[j] = R2 at *
  generalize row a = R3 at *
  generalize a.len - 1 = d at *
  generalize Q.map rowD = LD at *
  simp -implicitDefEqProofs [Zz_L1, dn_cond, hjl, hjn, hLD, hx, e1, e2, w1, w2', w4]
theorem l_red2 {O : Oracle} (hat : C_at O) (hc : K_combine O) (hld : C_lead O) (hinv : C_inverse O) (hsc : K_scale O) (hsort : H_sortRow O) (hcmp : ∀ L : List (Fp p), (∀ x ∈ L, x.len ≤ 1000) → CmpRow O F10 [] [] lenK .leaf (L.map rowD)) {xs : List (Fp p)} {N : Nat} (hN : N ≤ 11) (hxs : ∀ x ∈ xs, x.len ≤ N) (hxl : xs.length < 2000000) : ∀ (r i : Nat) (L : List (Fp p)) (cp : Option Nat), i + r = xs.length → Desc N L → ∃ cp' : Option Nat,
 dn O 0 (.loop Zz_L2) ⟨[(0, (.d (.int .i64 p))), (5, .sl 0 [] 0 L.length cp), (12, .d (.sl .leaf (xs.map rowD))), (13, (.d (.int .i64 xs.length))), (14, (.d (.int .i64 i)))], [.sl false .leaf (L.map rowD), .hole, .hole]⟩ =
  some (.exit 0, ⟨[(0, (.d (.int .i64 p))), (5, .sl 0 [] 0 (spanS (xs.drop i) L).length cp'), (12, .d (.sl .leaf (xs.map rowD))), (13, (.d (.int .i64 xs.length))), (14, (.d (.int .i64 xs.length))), (15, (.d (.bool false)))], [.sl false .leaf ((spanS (xs.drop i) L).map rowD), .hole, .hole]⟩)
 | 0, i, L, cp, hi, hL => by
  obtain rfl : i = xs.length := by omega
  rw [List.drop_length]
  refine ⟨cp, dn_stop ?_⟩
  show _ = some (_, (⟨[_, (5, .sl 0 [] 0 L.length cp), _, _, _, _], [.sl false .leaf (L.map rowD), _, _]⟩ : St))
  generalize L.map rowD = LD at *
  generalize xs.map rowD = XD at *
  simp -implicitDefEqProofs [Zz_L2, dn_cond]
 | r + 1, i, L, cp, hi, hL => by
  have hlt : i < xs.length := by omega
  have hm := List.getElem_mem hlt
  have hxi := hxs _ hm
  have hll := hL.length
  have hd : spanS (xs.drop i) L = spanS (xs.drop (i + 1)) (putS L xs[i]) := by rw [List.drop_eq_getElem_cons hlt]; rfl
  have hx : ∀ h : i < (xs.map rowD).length, (xs.map rowD)[i]'h = (D.sl .leaf (ints .i64 (row xs[i]))) := fun h => by rw [List.getElem_map]
  have hXD : (xs.map rowD).length = xs.length := List.length_map ..
  have hLD : (L.map rowD).length = L.length := List.length_map ..
  have w4 : IntKind.i64.wrap ((i : Int) + 1) = ((i + 1 : Nat) : Int) := (w64 (x := (i : Int) + 1) (by omega)).trans (by omega)
  have e0 := l_red0 (O := O) hat hc (by omega) hL (xs := xs.map rowD) (nx := xs.length) (i := i) rfl (cp := cp) (cp2 := cp) L.length 0 xs[i] (Nat.zero_add _) hxi
  have e00 : ((0 : Nat) : Int) = 0 := rfl
  rw [e00, List.drop_zero] at e0
  have hrl := redS_le (L := L) hL.le hxi
  rw [hd]
  by_cases h0 : redS L xs[i] = 0
  ·rw [putS_zero h0]
   obtain ⟨cp', ih⟩ := l_red2 hat hc hld hinv hsc hsort hcmp hN hxs hxl r (i + 1) L cp (by omega) hL
   refine ⟨cp', dn_round ?_ ih⟩
   rw [h0, row_zero] at e0
   generalize row xs[i] = R1 at *
   generalize L.map rowD = LD at *
   generalize xs.map rowD = XD at *
   simp -implicitDefEqProofs [Zz_L2, dn_cond, hlt, hXD, hx, e0, w4, ints_nil]
  ·have hap := Pol.len_pos h0
   have hml := mon_len h0
   have hmm := mon_monic h0
   have hld0 := Pol.ld_ne h0
   have hri := rep_in (redS L xs[i]).ld
   have hp7 := IsP.le (p := p)
   have hp2 := IsP.ge (p := p)
   have hr0 : rep (redS L xs[i]).ld ≠ 0 := fun h => hld0 (rep_eq_zero.1 h)
   have e2 := hld (row (redS L xs[i])) (by rw [row_length]; omega)
   rw [ld_row] at e2
   have e3 := hinv p (rep (redS L xs[i]).ld) (by omega) (by omega) (by omega) (by omega)
   have hin := inv_in (p := p) (rep (redS L xs[i]).ld)
   have e4 := hsc p (inv p (rep (redS L xs[i]).ld)) (redS L xs[i]) (by omega) (by omega) (by omega)
   rw [finv_rep _ hld0, show Pol.C (Fd.inv (redS L xs[i]).ld) * redS L xs[i] = Gq.mon (redS L xs[i]) from rfl] at e4
   have e5 := l_red1 (O := O) hat hc hmm.2 (by omega) (xs := xs.map rowD) (nx := xs.length) (i := i) (n := L.length) (cp := cp) (cp2 := cp) L.length 0 L (Nat.zero_add _) rfl (fun b hb => by have := hL.le b hb; omega) (by omega)
   rw [e00, List.take_zero, List.nil_append, List.drop_zero] at e5
   have hne : ∀ b ∈ L, b.len ≠ (Gq.mon (redS L xs[i])).len := fun b hb => by rw [hml]; exact redS_ne hL h0 b hb
   have hins := insS_desc hmm (by omega) hL hne
   obtain ⟨ds, s1, s2, s3⟩ := hsort F10 [] [] lenK ((L.map (elim (Gq.mon (redS L xs[i]))) ++ [Gq.mon (redS L xs[i])]).map rowD) none (by rw [List.length_map, List.length_append, List.length_map, List.length_singleton]; omega) (hcmp _ fun x hx => by
    rcases List.mem_append.1 hx with h | h
    ·obtain ⟨b, hb, rfl⟩ := List.mem_map.1 h
     have := elim_le (N := N) (a := Gq.mon (redS L xs[i])) (by omega) (hL.le b hb)
     omega
    ·obtain rfl : x = _ := by simpa using h
     omega)
   rw [sort_row hins.pw s1 s2] at s3
   have hpl := (insS_perm (Gq.mon (redS L xs[i])) L).length_eq
   rw [List.length_append, List.length_map, List.length_singleton] at hpl
   rw [putS_ne h0]
   obtain ⟨cp', ih⟩ := l_red2 hat hc hld hinv hsc hsort hcmp hN hxs hxl r (i + 1) (insS (Gq.mon (redS L xs[i])) L) none (by omega) hins
   refine ⟨cp', dn_round ?_ ih⟩
   rw [hpl]
   have hsl : ((L.map (elim (Gq.mon (redS L xs[i]))) ++ [Gq.mon (redS L xs[i])]).map rowD).length = L.length + 1 := by rw [List.length_map, List.length_append, List.length_map, List.length_singleton]
   rw [hsl] at s3
   have hmap : (L.map (elim (Gq.mon (redS L xs[i]))) ++ [Gq.mon (redS L xs[i])]).map rowD = (L.map (elim (Gq.mon (redS L xs[i])))).map rowD ++ [(D.sl .leaf (ints .i64 (row (Gq.mon (redS L xs[i])))))] := by rw [List.map_append]; rfl
   rw [hmap] at s3
   have hLE : ((L.map (elim (Gq.mon (redS L xs[i])))).map rowD).length = L.length := by rw [List.length_map, List.length_map]
   have h24 : (L.length + 1) * 24 ≤ 1099511627776 := by omega
   have hrl0 : (row (redS L xs[i])).length ≠ 0 := by rw [row_length]; omega
   have htk : ((L.map (elim (Gq.mon (redS L xs[i])))).map rowD).take L.length = (L.map (elim (Gq.mon (redS L xs[i])))).map rowD := List.take_of_length_le (by omega)
   generalize (insS (Gq.mon (redS L xs[i])) L).map rowD = LI at *
   generalize (L.map (elim (Gq.mon (redS L xs[i])))).map rowD = LE at *
   generalize inv p (rep (redS L xs[i]).ld) = k1 at *
   generalize rep (redS L xs[i]).ld = k2 at *
   generalize row (Gq.mon (redS L xs[i])) = R2 at *
   generalize row (redS L xs[i]) = R3 at *
   generalize row xs[i] = R1 at *
   generalize L.map rowD = LD at *
   generalize xs.map rowD = XD at *
   simp -implicitDefEqProofs [Zz_L2, dn_cond, hlt, hXD, hx, e0, e2, e3, e4, e5, s3, w4, hrl0, hLE, h24, htk, List.replicate, List.idxOf, List.findIdx, List.findIdx.go]
def K_redList (O : Oracle) : Prop := ∀ (p : Int) [IsP p] (xs : List (Fp p)), (∀ x ∈ xs, x.len ≤ 11) → xs.length < 2000000 → ask O Fz [(D.int .i64 p), .sl .leaf (xs.map rowD)] = some (.sl .leaf ((spanS xs []).map rowD))
end
theorem row_cmp {p : Int} (hT : T F10 = some Z10) {L : List (Fp p)} (hl : ∀ x ∈ L, x.len ≤ 1000) : CmpRow (den T A) F10 [] [] lenK .leaf (L.map rowD) := by
 refine ⟨fun x hx => by simp at hx, fun x hx => by simp at hx, fun x hx => ?_, fun x hx => ?_, fun x hx y hy => ?_⟩
 ·obtain ⟨a, _, rfl⟩ := List.mem_map.1 hx; rfl
 ·obtain ⟨a, _, rfl⟩ := List.mem_map.1 hx; rfl
 ·obtain ⟨a, ha, rfl⟩ := List.mem_map.1 hx
  obtain ⟨b, hb, rfl⟩ := List.mem_map.1 hy
  have h1 := hl a ha
  have h2 := hl b hb
  have w1 : IntKind.i64.wrap ((b.len : Int) - a.len) = (b.len : Int) - a.len := w64 (by omega)
  refine ⟨(b.len : Int) - a.len, ask_of hT rfl ?_, by rw [lenK_row, lenK_row]; omega⟩
  simp -implicitDefEqProofs [Z10, Z10_B, w1]
theorem k_redList (hT : T Fz = some Zz) (hT1 : T F10 = some Z10) (hat : C_at (den T A)) (hc : K_combine (den T A)) (hld : C_lead (den T A)) (hinv : C_inverse (den T A)) (hsc : K_scale (den T A)) (hsort : H_sortRow (den T A)) : K_redList (den T A) := by
 intro p ip xs hxs hxl
 obtain ⟨cp, e⟩ := l_red2 (O := den T A) hat hc hld hinv hsc hsort (fun L hl => row_cmp hT1 hl) (Nat.le_refl 11) hxs hxl xs.length 0 [] (some 0) (Nat.zero_add _) (Desc.nil 11)
 have e00 : ((0 : Nat) : Int) = 0 := rfl
 rw [e00, List.drop_zero, List.map_nil, List.length_nil] at e
 have hL : ((spanS xs []).map rowD).length = (spanS xs []).length := List.length_map ..
 have hX : (xs.map rowD).length = xs.length := List.length_map ..
 have htk : ((spanS xs []).map rowD).take (spanS xs []).length = (spanS xs []).map rowD := List.take_of_length_le (by omega)
 refine ask_of hT rfl ?_
 generalize (spanS xs []).map rowD = LD at *
 generalize xs.map rowD = XD at *
 simp -implicitDefEqProofs [Zz, Zz_B, hX, hL, htk, e]
end Pe

namespace Pe
open Go Gq
variable {T : Nat → Option Fn} {A : Oracle}
noncomputable abbrev padD {p : Int} (a : Fp p) : D := (D.arr 64 .leaf (ints .u8 (pad (row a))))
theorem map_padD {p : Int} (xs : List (Fp p)) : (skP xs).map arr8 = xs.map padD := by unfold skP; rw [List.map_map]; rfl
section
variable {p : Int} [IsP p]
theorem l_rows {O : Oracle} (hro : K_rowOf O) {xs : List (Fp p)} (hl : xs.length < 2000000) (hx : ∀ x ∈ xs, x.len ≤ 64) : ∀ (r i : Nat) (cp : Option Nat), i + r = xs.length → ∃ cp' : Option Nat,
 dn O 0 (.loop Z1c_L0) ⟨[(3, .sl 0 [] 0 i cp), (6, .d (.sl (.arr 64 .leaf) (xs.map padD))), (7, (.d (.int .i64 xs.length))), (8, (.d (.int .i64 i)))], [.sl false .leaf ((xs.take i).map rowD), .hole, .hole, .hole]⟩ =
  some (.exit 0, ⟨[(3, .sl 0 [] 0 xs.length cp'), (6, .d (.sl (.arr 64 .leaf) (xs.map padD))), (7, (.d (.int .i64 xs.length))), (8, (.d (.int .i64 xs.length))), (9, (.d (.bool false)))], [.sl false .leaf (xs.map rowD), .hole, .hole, .hole]⟩)
 | 0, i, cp, hi => by
  obtain rfl : i = xs.length := by omega
  rw [List.take_length]
  refine ⟨cp, dn_stop ?_⟩
  generalize xs.map padD = XD at *
  generalize xs.map rowD = RD at *
  simp -implicitDefEqProofs [Z1c_L0, dn_cond]
 | r + 1, i, cp, hi => by
  have hlt : i < xs.length := by omega
  have hm := List.getElem_mem hlt
  have e1 := hro p xs[i] (hx _ hm)
  have hXD : (xs.map padD).length = xs.length := List.length_map ..
  have hxi : ∀ h : i < (xs.map padD).length, (xs.map padD)[i]'h = (D.arr 64 .leaf (ints .u8 (pad (row xs[i])))) := fun h => by rw [List.getElem_map]
  have w4 : IntKind.i64.wrap ((i : Int) + 1) = ((i + 1 : Nat) : Int) := (w64 (x := (i : Int) + 1) (by omega)).trans (by omega)
  have h24 : (i + 1) * 24 ≤ 1099511627776 := by omega
  have htk : (xs.take (i + 1)).map rowD = (xs.take i).map rowD ++ [(D.sl .leaf (ints .i64 (row xs[i])))] := by rw [List.take_succ_eq_append_getElem hlt, List.map_append]; rfl
  have hL : ((xs.take i).map rowD).length = i := by rw [List.length_map, List.length_take]; omega
  have htt : ((xs.take i).map rowD).take i = (xs.take i).map rowD := List.take_of_length_le (by omega)
  obtain ⟨cp', ih⟩ := l_rows hro hl hx r (i + 1) none (by omega)
  refine ⟨cp', dn_round ?_ ih⟩
  rw [htk]
  generalize pad (row xs[i]) = Pi at *
  generalize row xs[i] = Ri at *
  generalize (xs.take i).map rowD = TD at *
  generalize xs.map padD = XD at *
  simp -implicitDefEqProofs [Z1c_L0, dn_cond, hlt, hXD, hxi, e1, h24, hL, htt, w4, List.replicate]
def K_rows (O : Oracle) : Prop := ∀ (p : Int) [IsP p] (xs : List (Fp p)), xs.length < 2000000 → (∀ x ∈ xs, x.len ≤ 64) → ask O F1c [.sl (.arr 64 .leaf) (xs.map padD)] = some (.sl .leaf (xs.map rowD))
end
theorem k_rows (hT : T F1c = some Z1c) (hro : K_rowOf (den T A)) : K_rows (den T A) := by
 intro p ip xs hl hx
 obtain ⟨cp, e⟩ := l_rows (O := den T A) hro hl hx xs.length 0 (some 0) (Nat.zero_add _)
 have e00 : ((0 : Nat) : Int) = 0 := rfl
 rw [e00, List.take_zero, List.map_nil] at e
 have h1 : (xs.map rowD).length = xs.length := List.length_map ..
 have h2 : (xs.map padD).length = xs.length := List.length_map ..
 have htk : (xs.map rowD).take xs.length = xs.map rowD := List.take_of_length_le (by omega)
 refine ask_of hT rfl ?_
 generalize xs.map padD = XD at *
 generalize xs.map rowD = RD at *
 simp -implicitDefEqProofs [Z1c, Z1c_B, h1, h2, htk, e]
def K_rank (O : Oracle) : Prop := ∀ (p : Int) [IsP p] (xs : List (Fp p)), (∀ x ∈ xs, x.len ≤ 11) → xs.length < 2000000 → ask O Fx [(D.int .i64 p), .sl .leaf (xs.map rowD)] = some (D.int .i64 ((spanS xs []).length))
theorem k_rank (hT : T Fx = some Zx) (hr : K_redList (den T A)) : K_rank (den T A) := by
 intro p ip xs hx hl
 have e := hr p xs hx hl
 have h1 : ((spanS xs []).map rowD).length = (spanS xs []).length := List.length_map ..
 refine ask_of hT rfl ?_
 generalize (spanS xs []).map rowD = SD at *
 generalize xs.map rowD = RD at *
 simp -implicitDefEqProofs [Zx, Zx_B, e, h1]
def RsOk (p : Int) (l : List Int) (ls : List (List Int)) : Prop := ∃ (_ : IsP p) (m : Fp p), l = pad (row m) ∧ Fld m ∧ IsSk m ls
theorem codes_rs {p : Int} {l : List Int} {ls : List (List Int)} : codeRs p l ls = 0 ↔ RsOk p l ls := by
 unfold codeRs
 constructor
 ·intro h1
  split at h1
  ·rename_i g; exact g
  ·cases h1
 ·intro h; exact if_pos h
end Pe

namespace Pe
open Go Gq
variable {T : Nat → Option Fn} {A : Oracle}
section
variable {p : Int}
theorem pad_row_at {a : Fp p} (ha : a.len ≤ 64) {n : Nat} : ∀ h : n < (pad (row a)).length, (pad (row a))[n]'h = rep (a.c n) := fun h => by
 rw [← cf_lt h, pad_row_cf ha]
end
section
variable {p : Int} [IsP p]
theorem k_selim {O : Oracle} (hadd : K_sAdd O) {a b : Fp p} (ha : a.len ≤ 64) (hb : b.len ≤ 64) : ask O F2p [(D.int .i64 p), (D.arr 64 .leaf (ints .u8 (pad (row b)))), (D.arr 64 .leaf (ints .u8 (pad (row a)))), (D.int .i64 (-rep (b.c (a.len - 1))))] = some (D.arr 64 .leaf (ints .u8 (pad (row (elim a b))))) := by
 have h := rep_small (b.c (a.len - 1))
 have := hadd p (-rep (b.c (a.len - 1))) b a (by omega) (by omega) hb ha
 rw [zp_neg, zp_rep] at this
 exact this
theorem l_put0 {O : Oracle} (hdg : K_sDeg O) (hadd : K_sAdd O) {L : List (Fp p)} {N : Nat} (hN : N ≤ 11) (hL : Desc N L) : ∀ (r i : Nat) (a : Fp p), i + r = L.length → a.len ≤ N →
 dn O 0 (.loop Z38_L0) ⟨[(0, (.d (.int .i64 p))), (1, .d (.sl (.arr 64 .leaf) (L.map padD))), (5, .ptr 0 []), (7, (.d (.int .i64 i)))], [.box false (D.arr 64 .leaf (ints .u8 (pad (row a)))), .hole, .hole, .hole, .hole, .hole, .hole, .hole]⟩ =
  some (.exit 0, ⟨[(0, (.d (.int .i64 p))), (1, .d (.sl (.arr 64 .leaf) (L.map padD))), (5, .ptr 0 []), (7, (.d (.int .i64 L.length))), (16, (.d (.bool false)))], [.box false (D.arr 64 .leaf (ints .u8 (pad (row (redS (L.drop i) a))))), .hole, .hole, .hole, .hole, .hole, .hole, .hole]⟩)
 | 0, i, a, hi, ha => by
  obtain rfl : i = L.length := by omega
  have hLD : (L.map padD).length = L.length := List.length_map ..
  rw [List.drop_length]
  refine dn_stop ?_
  show _ = some (_, (⟨_, [.box false (D.arr 64 .leaf (ints .u8 (pad (row a)))), _, _, _, _, _, _, _]⟩ : St))
  generalize pad (row a) = Pa at *
  generalize L.map padD = LD at *
  simp -implicitDefEqProofs [Z38_L0, dn_cond, hLD]
 | r + 1, i, a, hi, ha => by
  have hlt : i < L.length := by omega
  have hm := List.getElem_mem hlt
  have hbl := hL.le _ hm
  have hbp := Pol.len_pos (hL.mon _ hm).2
  have hll := hL.length
  have hLD : (L.map padD).length = L.length := List.length_map ..
  have hx : ∀ h : i < (L.map padD).length, (L.map padD)[i]'h = (D.arr 64 .leaf (ints .u8 (pad (row L[i])))) := fun h => by rw [List.getElem_map]
  have e1 := hdg p L[i] (by omega)
  rw [show (L[i].len : Int) - 1 = ((L[i].len - 1 : Nat) : Int) by omega] at e1
  have e2 := k_selim hadd (a := L[i]) (b := a) (by omega) (by omega)
  have hat := pad_row_at (a := a) (by omega) (n := L[i].len - 1)
  have hPl := pad_length (row a)
  have hd64 : L[i].len - 1 < 64 := by omega
  have hr := rep_small (a.c (L[i].len - 1))
  have w1 : IntKind.i64.wrap (rep (a.c (L[i].len - 1))) = rep (a.c (L[i].len - 1)) := w64 (by omega)
  have w2 : IntKind.i64.wrap (-rep (a.c (L[i].len - 1))) = -rep (a.c (L[i].len - 1)) := w64 (by omega)
  have w4 : IntKind.i64.wrap ((i : Int) + 1) = ((i + 1 : Nat) : Int) := (w64 (x := (i : Int) + 1) (by omega)).trans (by omega)
  have hd : redS (L.drop i) a = redS (L.drop (i + 1)) (elim L[i] a) := by rw [List.drop_eq_getElem_cons hlt]; rfl
  rw [hd]
  refine dn_round ?_ (l_put0 hdg hadd hN hL r (i + 1) (elim L[i] a) (by omega) (elim_le hbl ha))
  by_cases h0 : rep (a.c (L[i].len - 1)) = 0
  ·have hz : elim L[i] a = a := by
    unfold elim
    rw [rep_eq_zero.1 h0, Gq.neg_zero, Pol.C_zero, Gq.zero_mul, Gq.add_zero]
   rw [hz]
   rw [h0] at hat
   generalize pad (row a) = Pa at *
   generalize pad (row L[i]) = Pi at *
   generalize L[i].len - 1 = d at *
   generalize L.map padD = LD at *
   simp -implicitDefEqProofs [Z38_L0, dn_cond, hlt, hLD, hx, e1, hat, hPl, hd64, w4]
  ·generalize rep (a.c (L[i].len - 1)) = k at *
   generalize pad (row (elim L[i] a)) = Pe at *
   generalize pad (row a) = Pa at *
   generalize pad (row L[i]) = Pi at *
   generalize L[i].len - 1 = d at *
   generalize L.map padD = LD at *
   simp -implicitDefEqProofs [Z38_L0, dn_cond, hlt, hLD, hx, e1, e2, hat, hPl, hd64, h0, w1, w2, w4]
theorem r_put0 {O : Oracle} {p : Int} {Pa : List Int} {d ql n : Nat} {LD QD : List D} {cp : Option Nat} {b : Bool} (hLD : LD.length = n) :
 dn O 0 Z38_L1 ⟨[(0, (.d (.int .i64 p))), (1, .d (.sl (.arr 64 .leaf) LD)), (5, .ptr 0 []), (9, (.d (.int .i64 ((d : Int))))), (10, .sl 1 [] 0 ql cp), (11, (.d (.bool b))), (12, (.d (.int .i64 n)))], [.box false (D.arr 64 .leaf (ints .u8 Pa)), .sl false (.arr 64 .leaf) QD, .hole, .hole, .hole, .hole, .hole, .hole]⟩ = some (.exit 2, ⟨[(0, (.d (.int .i64 p))), (1, .d (.sl (.arr 64 .leaf) LD)), (5, .ptr 0 []), (9, (.d (.int .i64 ((d : Int))))), (10, .sl 1 [] 0 ql cp), (11, (.d (.bool b))), (12, (.d (.int .i64 n))), (59, (.d (.bool false)))], [.box false (D.arr 64 .leaf (ints .u8 Pa)), .sl false (.arr 64 .leaf) QD, .hole, .hole, .hole, .hole, .hole, .hole]⟩) := by
 simp -implicitDefEqProofs [Z38_L1, dn_cond, hLD]
theorem r_putT {O : Oracle} {p k : Int} {Pa Pi Pe : List Int} {d ql i n : Nat} {LD QD : List D} {cp : Option Nat} (hlt : i < n) (hLD : LD.length = n) (hx : ∀ h : i < LD.length, LD[i]'h = (D.arr 64 .leaf (ints .u8 Pi))) (e2 : ask O F2p [(D.int .i64 p), (D.arr 64 .leaf (ints .u8 Pi)), (D.arr 64 .leaf (ints .u8 Pa)), (D.int .i64 (-k))] = some (D.arr 64 .leaf (ints .u8 Pe)))
 (hat : ∀ h : d < Pi.length, Pi[d]'h = k) (hPl : Pi.length = 64) (hd64 : d < 64) (hQD : QD.length = ql) (htq : QD.take ql = QD) (h64 : (ql + 1) * 64 ≤ 1099511627776) (w1 : IntKind.i64.wrap k = k) (w2 : IntKind.i64.wrap (-k) = -k) (w4 : IntKind.i64.wrap ((i : Int) + 1) = ((i + 1 : Nat) : Int)) :
 dn O 0 Z38_L1 ⟨[(0, (.d (.int .i64 p))), (1, .d (.sl (.arr 64 .leaf) LD)), (5, .ptr 0 []), (9, (.d (.int .i64 ((d : Int))))), (10, .sl 1 [] 0 ql cp), (11, (.d (.bool true))), (12, (.d (.int .i64 i)))], [.box false (D.arr 64 .leaf (ints .u8 Pa)), .sl false (.arr 64 .leaf) QD, .hole, .hole, .hole, .hole, .hole, .hole]⟩ = some (.normal, ⟨[(0, (.d (.int .i64 p))), (1, .d (.sl (.arr 64 .leaf) LD)), (5, .ptr 0 []), (9, (.d (.int .i64 ((d : Int))))), (10, .sl 1 [] 0 (ql + 1) none), (11, (.d (.bool true))), (12, (.d (.int .i64 (((i + 1 : Nat) : Int)))))], [.box false (D.arr 64 .leaf (ints .u8 Pa)), .sl false (.arr 64 .leaf) (QD ++ [(D.arr 64 .leaf (ints .u8 Pe))]), .hole, .hole, .hole, .hole, .hole, .hole]⟩) := by
 simp -implicitDefEqProofs [Z38_L1, dn_cond, hlt, hLD, hx, e2, hat, hPl, hd64, hQD, htq, h64, w1, w2, w4, List.replicate]
theorem take_snoc {α : Type} {QD : List α} {ql : Nat} (h : QD.length = ql) (z : α) : (QD ++ [z]).take (ql + 1) = QD ++ [z] := List.take_of_length_le (by rw [List.length_append, h]; exact Nat.le_refl _)
theorem r_putL {O : Oracle} {p k : Int} {Pa Pi Pe : List Int} {d d2 ql i n : Nat} {LD QD : List D} {cp : Option Nat} (hlt : i < n) (hLD : LD.length = n) (hx : ∀ h : i < LD.length, LD[i]'h = (D.arr 64 .leaf (ints .u8 Pi))) (e1 : ask O F2r [(D.arr 64 .leaf (ints .u8 Pi))] = some (D.int .i64 ((d2 : Int)))) (e2 : ask O F2p [(D.int .i64 p), (D.arr 64 .leaf (ints .u8 Pi)), (D.arr 64 .leaf (ints .u8 Pa)), (D.int .i64 (-k))] = some (D.arr 64 .leaf (ints .u8 Pe)))
 (hat : ∀ h : d < Pi.length, Pi[d]'h = k) (hPl : Pi.length = 64) (hd64 : d < 64) (hQD : QD.length = ql) (htq : QD.take ql = QD) (h64 : (ql + 1) * 64 ≤ 1099511627776) (h64' : (ql + 1 + 1) * 64 ≤ 1099511627776) (w1 : IntKind.i64.wrap k = k) (w2 : IntKind.i64.wrap (-k) = -k) (w4 : IntKind.i64.wrap ((i : Int) + 1) = ((i + 1 : Nat) : Int)) (hdl : d2 < d) :
 dn O 0 Z38_L1 ⟨[(0, (.d (.int .i64 p))), (1, .d (.sl (.arr 64 .leaf) LD)), (5, .ptr 0 []), (9, (.d (.int .i64 ((d : Int))))), (10, .sl 1 [] 0 ql cp), (11, (.d (.bool false))), (12, (.d (.int .i64 i)))], [.box false (D.arr 64 .leaf (ints .u8 Pa)), .sl false (.arr 64 .leaf) QD, .hole, .hole, .hole, .hole, .hole, .hole]⟩ = some (.normal, ⟨[(0, (.d (.int .i64 p))), (1, .d (.sl (.arr 64 .leaf) LD)), (5, .ptr 0 []), (9, (.d (.int .i64 ((d : Int))))), (10, .sl 1 [] 0 (ql + 2) none), (11, (.d (.bool true))), (12, (.d (.int .i64 (((i + 1 : Nat) : Int)))))], [.box false (D.arr 64 .leaf (ints .u8 Pa)), .sl false (.arr 64 .leaf) (QD ++ [(D.arr 64 .leaf (ints .u8 Pa)), (D.arr 64 .leaf (ints .u8 Pe))]), .hole, .hole, .hole, .hole, .hole, .hole]⟩) := by
 have htq2 := fun z : D => take_snoc hQD z
 simp -implicitDefEqProofs [Z38_L1, dn_cond, hlt, hLD, hx, e1, e2, hat, hPl, hd64, hdl, hQD, htq, htq2, h64, h64', w1, w2, w4, List.replicate]
theorem r_putG {O : Oracle} {p k : Int} {Pa Pi Pe : List Int} {d d2 ql i n : Nat} {LD QD : List D} {cp : Option Nat} (hlt : i < n) (hLD : LD.length = n) (hx : ∀ h : i < LD.length, LD[i]'h = (D.arr 64 .leaf (ints .u8 Pi))) (e1 : ask O F2r [(D.arr 64 .leaf (ints .u8 Pi))] = some (D.int .i64 ((d2 : Int)))) (e2 : ask O F2p [(D.int .i64 p), (D.arr 64 .leaf (ints .u8 Pi)), (D.arr 64 .leaf (ints .u8 Pa)), (D.int .i64 (-k))] = some (D.arr 64 .leaf (ints .u8 Pe)))
 (hat : ∀ h : d < Pi.length, Pi[d]'h = k) (hPl : Pi.length = 64) (hd64 : d < 64) (hQD : QD.length = ql) (htq : QD.take ql = QD) (h64 : (ql + 1) * 64 ≤ 1099511627776) (w1 : IntKind.i64.wrap k = k) (w2 : IntKind.i64.wrap (-k) = -k) (w4 : IntKind.i64.wrap ((i : Int) + 1) = ((i + 1 : Nat) : Int)) (hdl : ¬ d2 < d) :
 dn O 0 Z38_L1 ⟨[(0, (.d (.int .i64 p))), (1, .d (.sl (.arr 64 .leaf) LD)), (5, .ptr 0 []), (9, (.d (.int .i64 ((d : Int))))), (10, .sl 1 [] 0 ql cp), (11, (.d (.bool false))), (12, (.d (.int .i64 i)))], [.box false (D.arr 64 .leaf (ints .u8 Pa)), .sl false (.arr 64 .leaf) QD, .hole, .hole, .hole, .hole, .hole, .hole]⟩ = some (.normal, ⟨[(0, (.d (.int .i64 p))), (1, .d (.sl (.arr 64 .leaf) LD)), (5, .ptr 0 []), (9, (.d (.int .i64 ((d : Int))))), (10, .sl 1 [] 0 (ql + 1) none), (11, (.d (.bool false))), (12, (.d (.int .i64 (((i + 1 : Nat) : Int)))))], [.box false (D.arr 64 .leaf (ints .u8 Pa)), .sl false (.arr 64 .leaf) (QD ++ [(D.arr 64 .leaf (ints .u8 Pe))]), .hole, .hole, .hole, .hole, .hole, .hole]⟩) := by
 simp -implicitDefEqProofs [Z38_L1, dn_cond, hlt, hLD, hx, e1, e2, hat, hPl, hd64, hdl, hQD, htq, h64, w1, w2, w4, List.replicate]
theorem put_facts {O : Oracle} (hdg : K_sDeg O) (hadd : K_sAdd O) {L : List (Fp p)} {N : Nat} (hN : N ≤ 11) (hL : Desc N L) {a : Fp p} (ha : a ≠ 0) (hal : a.len ≤ N) {i : Nat} (hlt : i < L.length) :
 (∀ h : i < (L.map padD).length, (L.map padD)[i]'h = (D.arr 64 .leaf (ints .u8 (pad (row L[i]))))) ∧ ask O F2r [(D.arr 64 .leaf (ints .u8 (pad (row L[i]))))] = some (D.int .i64 (((L[i].len - 1 : Nat) : Int))) ∧
 ask O F2p [(D.int .i64 p), (D.arr 64 .leaf (ints .u8 (pad (row L[i])))), (D.arr 64 .leaf (ints .u8 (pad (row a)))), (D.int .i64 (-rep (L[i].c (a.len - 1))))] = some (D.arr 64 .leaf (ints .u8 (pad (row (elim a L[i]))))) ∧
 (∀ h : a.len - 1 < (pad (row L[i])).length, (pad (row L[i]))[a.len - 1]'h = rep (L[i].c (a.len - 1))) ∧ (pad (row L[i])).length = 64 ∧
 IntKind.i64.wrap (rep (L[i].c (a.len - 1))) = rep (L[i].c (a.len - 1)) ∧ IntKind.i64.wrap (-rep (L[i].c (a.len - 1))) = -rep (L[i].c (a.len - 1)) ∧
 IntKind.i64.wrap ((i : Int) + 1) = ((i + 1 : Nat) : Int) ∧ a.len - 1 < 64 := by
 have hm := List.getElem_mem hlt
 have hbl := hL.le _ hm
 have hbp := Pol.len_pos (hL.mon _ hm).2
 have hap := Pol.len_pos ha
 have hll := hL.length
 have e1 := hdg p L[i] (by omega)
 rw [show (L[i].len : Int) - 1 = ((L[i].len - 1 : Nat) : Int) by omega] at e1
 have hr := rep_small (L[i].c (a.len - 1))
 exact ⟨fun h => by rw [List.getElem_map], e1, k_selim hadd (a := a) (b := L[i]) (by omega) (by omega), pad_row_at (a := L[i]) (by omega) (n := a.len - 1), pad_length _, w64 (by omega), w64 (by omega), (w64 (x := (i : Int) + 1) (by omega)).trans (by omega), by omega⟩
theorem l_put1 {O : Oracle} (hdg : K_sDeg O) (hadd : K_sAdd O) {L : List (Fp p)} {N : Nat} (hN : N ≤ 11) (hL : Desc N L) {a : Fp p} (ha : a ≠ 0) (hal : a.len ≤ N) : ∀ (r i : Nat) (Q : List (Fp p)) (b : Bool) (cp : Option Nat), i + r = L.length → Q.length ≤ i + b.toNat → ∃ (Q' : List (Fp p)) (b' : Bool) (cp' : Option Nat),
 dn O 0 (.loop Z38_L1) ⟨[(0, (.d (.int .i64 p))), (1, .d (.sl (.arr 64 .leaf) (L.map padD))), (5, .ptr 0 []), (9, (.d (.int .i64 (((a.len - 1 : Nat) : Int))))), (10, .sl 1 [] 0 Q.length cp), (11, (.d (.bool b))), (12, (.d (.int .i64 i)))], [.box false (D.arr 64 .leaf (ints .u8 (pad (row a)))), .sl false (.arr 64 .leaf) (Q.map padD), .hole, .hole, .hole, .hole, .hole, .hole]⟩ =
  some (.exit 2, ⟨[(0, (.d (.int .i64 p))), (1, .d (.sl (.arr 64 .leaf) (L.map padD))), (5, .ptr 0 []), (9, (.d (.int .i64 (((a.len - 1 : Nat) : Int))))), (10, .sl 1 [] 0 Q'.length cp'), (11, (.d (.bool b'))), (12, (.d (.int .i64 L.length))), (59, (.d (.bool false)))], [.box false (D.arr 64 .leaf (ints .u8 (pad (row a)))), .sl false (.arr 64 .leaf) (Q'.map padD), .hole, .hole, .hole, .hole, .hole, .hole]⟩) ∧
  (if b' then Q' else Q' ++ [a]) = Q ++ (if b then (L.drop i).map (elim a) else insS a (L.drop i)) ∧ Q'.length ≤ L.length + 1
 | 0, i, Q, b, cp, hi, hq => by
  obtain rfl : i = L.length := by omega
  have hLD : (L.map padD).length = L.length := List.length_map ..
  refine ⟨Q, b, cp, dn_stop ?_, ?_, by have := Bool.toNat_le b; omega⟩
  ·exact r_put0 hLD
  ·rw [List.drop_length]
   cases b <;> simp [insS]
 | r + 1, i, Q, b, cp, hi, hq => by
  have hlt : i < L.length := by omega
  have hll := hL.length
  have hbt := Bool.toNat_le b
  have hir : i + 1 + r = L.length := by omega
  have hQl : Q.length ≤ 12 := by omega
  have h64 : (Q.length + 1) * 64 ≤ 1099511627776 := Nat.le_trans (Nat.mul_le_mul_right 64 (Nat.succ_le_succ hQl)) (by decide)
  have h64' : (Q.length + 1 + 1) * 64 ≤ 1099511627776 := Nat.le_trans (Nat.mul_le_mul_right 64 (Nat.succ_le_succ (Nat.succ_le_succ hQl))) (by decide)
  have hLD : (L.map padD).length = L.length := List.length_map ..
  have hd : L.drop i = L[i] :: L.drop (i + 1) := List.drop_eq_getElem_cons hlt
  have hQD : (Q.map padD).length = Q.length := List.length_map ..
  have htq : (Q.map padD).take Q.length = Q.map padD := List.take_of_length_le (by omega)
  have hq1 : ∀ x : Fp p, (Q ++ [x]).map padD = Q.map padD ++ [(D.arr 64 .leaf (ints .u8 (pad (row x))))] := fun x => by rw [List.map_append]; rfl
  have hl1 : ∀ x : Fp p, (Q ++ [x]).length = Q.length + 1 := fun x => by rw [List.length_append]; rfl
  have hq2 : ∀ x y : Fp p, (Q ++ [x, y]).map padD = Q.map padD ++ [(D.arr 64 .leaf (ints .u8 (pad (row x)))), (D.arr 64 .leaf (ints .u8 (pad (row y))))] := fun x y => by rw [List.map_append]; rfl
  have hl2 : ∀ x y : Fp p, (Q ++ [x, y]).length = Q.length + 2 := fun x y => by rw [List.length_append]; rfl
  have hap := Pol.len_pos ha
  have hbp := Pol.len_pos (hL.mon _ (List.getElem_mem hlt)).2
  cases b with
  | true =>
   obtain ⟨Q', b', cp', g1, g2, g3⟩ := l_put1 hdg hadd hN hL ha hal r (i + 1) (Q ++ [elim a L[i]]) true none hir (by rw [hl1]; simp only [Bool.toNat_true] at hq ⊢; omega)
   refine ⟨Q', b', cp', dn_round ?_ g1, ?_, g3⟩
   ·obtain ⟨hx, e1, e2, hat, hPl, w1, w2, w4, hd64⟩ := put_facts hdg hadd hN hL ha hal hlt
    rw [hq1, hl1]; exact r_putT hlt hLD hx e2 hat hPl hd64 hQD htq h64 w1 w2 w4
   ·rw [g2, hd]; simp only [if_true, List.map_cons, List.append_assoc, List.cons_append, List.nil_append]
  | false =>
   by_cases hlen : L[i].len < a.len
   ·have hdl : L[i].len - 1 < a.len - 1 := by omega
    obtain ⟨Q', b', cp', g1, g2, g3⟩ := l_put1 hdg hadd hN hL ha hal r (i + 1) (Q ++ [a, elim a L[i]]) true none hir (by rw [hl2]; simp only [Bool.toNat_true, Bool.toNat_false] at hq ⊢; omega)
    refine ⟨Q', b', cp', dn_round ?_ g1, ?_, g3⟩
    ·obtain ⟨hx, e1, e2, hat, hPl, w1, w2, w4, hd64⟩ := put_facts hdg hadd hN hL ha hal hlt
     rw [hq2, hl2]; exact r_putL hlt hLD hx e1 e2 hat hPl hd64 hQD htq h64 h64' w1 w2 w4 hdl
    ·rw [g2, hd]
     show _ = Q ++ (if L[i].len < a.len then a :: (L[i] :: L.drop (i + 1)).map (elim a) else elim a L[i] :: insS a (L.drop (i + 1)))
     rw [if_pos hlen]; simp only [if_true, List.map_cons, List.append_assoc, List.cons_append, List.nil_append]
   ·have hdl : ¬ (L[i].len - 1 < a.len - 1) := by omega
    obtain ⟨Q', b', cp', g1, g2, g3⟩ := l_put1 hdg hadd hN hL ha hal r (i + 1) (Q ++ [elim a L[i]]) false none hir (by rw [hl1]; simp only [Bool.toNat_false] at hq ⊢; omega)
    refine ⟨Q', b', cp', dn_round ?_ g1, ?_, g3⟩
    ·obtain ⟨hx, e1, e2, hat, hPl, w1, w2, w4, hd64⟩ := put_facts hdg hadd hN hL ha hal hlt
     rw [hq1, hl1]; exact r_putG hlt hLD hx e1 e2 hat hPl hd64 hQD htq h64 w1 w2 w4 hdl
    ·rw [g2, hd]
     show _ = Q ++ (if L[i].len < a.len then a :: (L[i] :: L.drop (i + 1)).map (elim a) else elim a L[i] :: insS a (L.drop (i + 1)))
     rw [if_neg hlen]; simp
end
def K_sPut (O : Oracle) : Prop := ∀ (p : Int) [IsP p] (L : List (Fp p)) (x : Fp p), Desc 11 L → x.len ≤ 11 → ask O F38 [(D.int .i64 p), .sl (.arr 64 .leaf) (L.map padD), (D.arr 64 .leaf (ints .u8 (pad (row x))))] = some (.sl (.arr 64 .leaf) ((putS L x).map padD))
theorem k_sPut (hT : T F38 = some Z38) (hdg : K_sDeg (den T A)) (hinv : K_sInverse (den T A)) (hadd : K_sAdd (den T A)) : K_sPut (den T A) := by
 intro p ip L x hL hx
 have e0 := l_put0 (O := den T A) hdg hadd (Nat.le_refl 11) hL L.length 0 x (Nat.zero_add _) hx
 have e00 : ((0 : Nat) : Int) = 0 := rfl
 rw [e00, List.drop_zero] at e0
 have hrl := redS_le (L := L) hL.le hx
 have e1 := hdg p (redS L x) (by omega)
 refine ask_of hT rfl ?_
 by_cases h0 : redS L x = 0
 ·rw [putS_zero h0]
  rw [h0, row_zero, Pol.len_zero] at e1
  rw [h0, row_zero] at e0
  generalize pad (row x) = Px at *
  generalize L.map padD = LD at *
  simp -implicitDefEqProofs [Z38, Z38_B, dn_cond, e0, e1]
 ·rw [putS_ne h0]
  have hap := Pol.len_pos h0
  have hml := mon_len h0
  have hmm := mon_monic h0
  have hld0 := Pol.ld_ne h0
  have hri := rep_in (redS L x).ld
  have hr0 : rep (redS L x).ld ≠ 0 := fun h => hld0 (rep_eq_zero.1 h)
  rw [show ((redS L x).len : Int) - 1 = (((redS L x).len - 1 : Nat) : Int) by omega] at e1
  have hat := pad_row_at (a := redS L x) (by omega) (n := (redS L x).len - 1)
  rw [show (redS L x).c ((redS L x).len - 1) = (redS L x).ld from rfl] at hat
  have hPl := pad_length (row (redS L x))
  have hd64 : (redS L x).len - 1 < 64 := by omega
  have e2 := hinv p (rep (redS L x).ld) (by omega) (by omega)
  have hin := inv_in (p := p) (rep (redS L x).ld)
  have hp7 := IsP.le (p := p)
  have e3 := hadd p (inv p (rep (redS L x).ld)) 0 (redS L x) (by omega) (by omega) (by rw [Pol.len_zero]; omega) (by omega)
  rw [finv_rep _ hld0, Gq.zero_add, show Pol.C (Fd.inv (redS L x).ld) * redS L x = Gq.mon (redS L x) from rfl, row_zero] at e3
  have w1 : IntKind.i64.wrap (inv p (rep (redS L x).ld)) = inv p (rep (redS L x).ld) := w64 (by omega)
  obtain ⟨Q', b', cp', g1, g2, g3⟩ := l_put1 (O := den T A) hdg hadd (Nat.le_refl 11) hL hmm.2 (by omega) L.length 0 [] false (some 0) (Nat.zero_add _) (by simp)
  rw [e00, List.map_nil, List.length_nil, hml] at g1
  simp only [List.drop_zero, List.nil_append, Bool.false_eq_true, if_false] at g2
  have hn0 : ¬ (((redS L x).len - 1 : Nat) : Int) < 0 := by omega
  have hll := hL.length
  have hQD : (Q'.map padD).length = Q'.length := List.length_map ..
  have htq : (Q'.map padD).take Q'.length = Q'.map padD := List.take_of_length_le (by omega)
  have h64 : (Q'.length + 1) * 64 ≤ 1099511627776 := by omega
  cases b' with
  | true =>
   simp only [if_true] at g2
   rw [← g2]
   generalize inv p (rep (redS L x).ld) = k1 at *
   generalize rep (redS L x).ld = k2 at *
   generalize pad (row (Gq.mon (redS L x))) = P2 at *
   generalize pad (row (redS L x)) = P1 at *
   generalize pad (row x) = Px at *
   generalize (redS L x).len - 1 = d at *
   generalize L.map padD = LD at *
   generalize Q'.map padD = QD at *
   generalize Q'.length = ql at *
   simp -implicitDefEqProofs [Z38, Z38_B, dn_cond, e0, e1, e2, e3, g1, hat, hPl, hd64, hn0, hQD, htq, w1]
  | false =>
   simp only [Bool.false_eq_true, if_false] at g2
   rw [← g2, show (Q' ++ [Gq.mon (redS L x)]).map padD = Q'.map padD ++ [(D.arr 64 .leaf (ints .u8 (pad (row (Gq.mon (redS L x))))))] by rw [List.map_append]; rfl]
   have htq2 : ∀ z : D, (Q'.map padD ++ [z]).take (Q'.length + 1) = Q'.map padD ++ [z] := fun z => List.take_of_length_le (by rw [List.length_append, hQD]; exact Nat.le_refl _)
   generalize inv p (rep (redS L x).ld) = k1 at *
   generalize rep (redS L x).ld = k2 at *
   generalize pad (row (Gq.mon (redS L x))) = P2 at *
   generalize pad (row (redS L x)) = P1 at *
   generalize pad (row x) = Px at *
   generalize (redS L x).len - 1 = d at *
   generalize L.map padD = LD at *
   generalize Q'.map padD = QD at *
   generalize Q'.length = ql at *
   simp -implicitDefEqProofs [Z38, Z38_B, dn_cond, e0, e1, e2, e3, g1, hat, hPl, hd64, hn0, hQD, htq, htq2, h64, w1, List.replicate]
end Pe

namespace Pe
open Go Gq
variable {T : Nat → Option Fn} {A : Oracle}
open Classical in
theorem l_sRs {O : Oracle} (hr : C_sRes O) {p : Int} [IsP p] {m : Fp p} (hm : m.len ≤ 64) {ls : List (List Int)} (h : Arrs ls) (hl : ls.length < 2000000) : ∀ (k i : Nat), i + k = ls.length →
 dn O 0 (.loop Z3a_L0) ⟨[(0, (.d (.int .i64 p))), (2, .d (.sl (.arr 64 .leaf) (ls.map arr8))), (4, .ptr 0 []), (7, (.d (.int .i64 i)))], [.box false (D.arr 64 .leaf (ints .u8 (pad (row m))))]⟩ =
  if IsSk m (ls.drop i) then some (.exit 0, ⟨[(0, (.d (.int .i64 p))), (2, .d (.sl (.arr 64 .leaf) (ls.map arr8))), (4, .ptr 0 []), (7, (.d (.int .i64 ls.length))), (15, (.d (.bool false)))], [.box false (D.arr 64 .leaf (ints .u8 (pad (row m))))]⟩) else some (.ret, ⟨[(6, (.d (.int .i64 1)))], [.hole]⟩)
 | 0, i, hi => by
  obtain rfl : i = ls.length := by omega
  rw [if_pos (by rw [List.drop_length]; exact isSk_nil m)]
  have hL : (ls.map arr8).length = ls.length := List.length_map ..
  refine dn_stop ?_
  generalize pad (row m) = Pm at *
  generalize ls.map arr8 = LD at *
  simp -implicitDefEqProofs [Z3a_L0, dn_cond, hL]
 | k + 1, i, hi => by
  have hlt : i < ls.length := by omega
  have hm1 := List.getElem_mem hlt
  have e1 := hr p m ls[i] hm (h _ hm1).2 (h _ hm1).1
  have hL : (ls.map arr8).length = ls.length := List.length_map ..
  have w4 : IntKind.i64.wrap ((i : Int) + 1) = ((i + 1 : Nat) : Int) := (w64 (x := (i : Int) + 1) (by omega)).trans (by omega)
  have hx2 : ∀ h : i < (ls.map arr8).length, (ls.map arr8)[i]'h = (D.arr 64 .leaf (ints .u8 (ls[i]))) := fun h => by rw [List.getElem_map]
  have hd : ls.drop i = ls[i] :: ls.drop (i + 1) := List.drop_eq_getElem_cons hlt
  have ih := l_sRs hr hm h hl k (i + 1) (by omega)
  rw [hd]
  by_cases hres : IsRes m ls[i]
  ·rw [decide_eq_true hres] at e1
   have hiff : IsSk m (ls[i] :: ls.drop (i + 1)) ↔ IsSk m (ls.drop (i + 1)) := ⟨fun h => (isSk_cons.1 h).2, fun h => isSk_cons.2 ⟨hres, h⟩⟩
   rw [propext hiff]
   refine dn_round ?_ ih
   generalize ls[i] = li at *
   generalize pad (row m) = Pm at *
   generalize ls.map arr8 = LD at *
   simp -implicitDefEqProofs [Z3a_L0, dn_cond, hlt, hx2, hL, e1, w4]
  ·rw [decide_eq_false hres] at e1
   rw [if_neg (fun h => hres (isSk_cons.1 h).1)]
   refine dn_back ?_
   generalize ls[i] = li at *
   generalize pad (row m) = Pm at *
   generalize ls.map arr8 = LD at *
   simp -implicitDefEqProofs [Z3a_L0, dn_cond, hlt, hx2, hL, e1]
open Classical in
theorem c_sRsCode (hT : T F3a = some Z3a) (hf : C_sField (den T A)) (hi : C_sRes (den T A)) : C_resCode (den T A) F3a := by
 intro p l ls hb hl h hlen
 have e1 := hf p l hb hl
 refine ask_of hT rfl ?_
 unfold codeRs
 by_cases hfl : IsFld p l
 ·rw [decide_eq_true hfl] at e1
  obtain ⟨ip, m, rfl, hm⟩ := hfl
  have h5 := hm.five
  have e2 := l_sRs (O := den T A) hi (m := m) (by omega) h hlen ls.length 0 (Nat.zero_add _)
  have e00 : ((0 : Nat) : Int) = 0 := rfl
  rw [e00, List.drop_zero] at e2
  have hc := fld_code hm (Q := fun ip m' => ∀ x ∈ ls, @IsRes p ip m' x)
  by_cases hs : IsSk m ls
  ·rw [if_pos hs] at e2
   rw [if_pos (hc.2 hs)]
   generalize pad (row m) = Pm at *
   generalize ls.map arr8 = LD at *
   simp -implicitDefEqProofs [Z3a, Z3a_B, dn_cond, e1, e2]
  ·rw [if_neg hs] at e2
   rw [if_neg (fun h => hs (hc.1 h))]
   generalize pad (row m) = Pm at *
   generalize ls.map arr8 = LD at *
   simp -implicitDefEqProofs [Z3a, Z3a_B, dn_cond, e1, e2]
 ·rw [decide_eq_false hfl] at e1
  rw [if_neg (fun ⟨ip, m, e, hm, _⟩ => hfl ⟨ip, m, e, hm⟩)]
  generalize ls.map arr8 = LD at *
  simp -implicitDefEqProofs [Z3a, Z3a_B, dn_cond, e1]
theorem l_sSpan {O : Oracle} (hp : K_sPut O) {p : Int} [IsP p] {xs : List (Fp p)} (hx : ∀ x ∈ xs, x.len ≤ 11) (hl : xs.length < 2000000) : ∀ (k i : Nat) (L : List (Fp p)), i + k = xs.length → Desc 11 L →
 dn O 0 (.loop Z3d_L0) ⟨[(0, (.d (.int .i64 p))), (1, .d (.sl (.arr 64 .leaf) (xs.map padD))), (5, .d (.sl (.arr 64 .leaf) (L.map padD))), (6, (.d (.int .i64 i)))], [.hole]⟩ =
  some (.exit 0, ⟨[(0, (.d (.int .i64 p))), (1, .d (.sl (.arr 64 .leaf) (xs.map padD))), (5, .d (.sl (.arr 64 .leaf) ((spanS (xs.drop i) L).map padD))), (6, (.d (.int .i64 xs.length))), (11, (.d (.bool false)))], [.hole]⟩)
 | 0, i, L, hi, hL => by
  obtain rfl : i = xs.length := by omega
  rw [List.drop_length]
  have hX : (xs.map padD).length = xs.length := List.length_map ..
  refine dn_stop ?_
  show _ = some (_, (⟨[_, _, (5, .d (.sl (.arr 64 .leaf) (L.map padD))), _, _], _⟩ : St))
  generalize L.map padD = LD at *
  generalize xs.map padD = XD at *
  simp -implicitDefEqProofs [Z3d_L0, dn_cond, hX]
 | k + 1, i, L, hi, hL => by
  have hlt : i < xs.length := by omega
  have hm1 := List.getElem_mem hlt
  have e1 := hp p L xs[i] hL (hx _ hm1)
  have hX : (xs.map padD).length = xs.length := List.length_map ..
  have w4 : IntKind.i64.wrap ((i : Int) + 1) = ((i + 1 : Nat) : Int) := (w64 (x := (i : Int) + 1) (by omega)).trans (by omega)
  have hx2 : ∀ h : i < (xs.map padD).length, (xs.map padD)[i]'h = (D.arr 64 .leaf (ints .u8 (pad (row xs[i])))) := fun h => by rw [List.getElem_map]
  have hd : spanS (xs.drop i) L = spanS (xs.drop (i + 1)) (putS L xs[i]) := by rw [List.drop_eq_getElem_cons hlt]; rfl
  rw [hd]
  refine dn_round ?_ (l_sSpan hp hx hl k (i + 1) (putS L xs[i]) (by omega) (putS_desc hL (hx _ hm1)))
  generalize pad (row xs[i]) = Pi at *
  generalize (putS L xs[i]).map padD = PD at *
  generalize L.map padD = LD at *
  generalize xs.map padD = XD at *
  simp -implicitDefEqProofs [Z3d_L0, dn_cond, hlt, hX, hx2, e1, w4]
def K_sSpan (O : Oracle) : Prop := ∀ (p : Int) [IsP p] (xs : List (Fp p)), (∀ x ∈ xs, x.len ≤ 11) → xs.length < 2000000 → ask O F3d [(D.int .i64 p), .sl (.arr 64 .leaf) (xs.map padD)] = some (.sl (.arr 64 .leaf) ((spanS xs []).map padD))
theorem k_sSpan (hT : T F3d = some Z3d) (hp : K_sPut (den T A)) : K_sSpan (den T A) := by
 intro p ip xs hx hl
 cases xs with
 | nil =>
  have st := dn_stop (O := den T A) (np := 0) (c := Z3d_L0) (s := ⟨[(0, (.d (.int .i64 p))), (1, .d (.sl (.arr 64 .leaf) [])), (5, .sl 0 [] 0 0 (some 0)), (6, (.d (.int .i64 0)))], [.sl false (.arr 64 .leaf) []]⟩) (s1 := ⟨[(0, (.d (.int .i64 p))), (1, .d (.sl (.arr 64 .leaf) [])), (5, .sl 0 [] 0 0 (some 0)), (6, (.d (.int .i64 0))), (11, (.d (.bool false)))], [.sl false (.arr 64 .leaf) []]⟩) (id := 0) (by simp -implicitDefEqProofs [Z3d_L0, dn_cond])
  refine ask_of hT rfl ?_
  simp -implicitDefEqProofs [Z3d, Z3d_B, st, spanS]
 | cons x xs =>
  have e1 := hp p [] x (Desc.nil 11) (hx x (by simp))
  have e2 := l_sSpan (O := den T A) hp hx hl xs.length 1 (putS [] x) (by rw [List.length_cons]; omega) (putS_desc (Desc.nil 11) (hx x (by simp)))
  have e01 : ((1 : Nat) : Int) = 1 := rfl
  rw [e01, show (x :: xs).drop 1 = xs from rfl, show spanS xs (putS [] x) = spanS (x :: xs) [] from rfl] at e2
  have hX : ((x :: xs).map padD).length = (x :: xs).length := List.length_map ..
  have hx2 : ∀ h : 0 < ((x :: xs).map padD).length, ((x :: xs).map padD)[0]'h = (D.arr 64 .leaf (ints .u8 (pad (row x)))) := fun h => rfl
  have hpos : (0 : Int) < ((x :: xs).length : Int) := by rw [List.length_cons]; omega
  have hpos2 : 0 < (x :: xs).length := by rw [List.length_cons]; omega
  have w1 : IntKind.i64.wrap 1 = 1 := w64 (by omega)
  rw [List.map_nil] at e1
  generalize (putS [] x).map padD = PD at *
  generalize (spanS (x :: xs) []).map padD = SD at *
  generalize pad (row x) = Px at *
  generalize (x :: xs).map padD = XD at *
  generalize (x :: xs).length = n at *
  have st := dn_round (O := den T A) (np := 0) (c := Z3d_L0) (s := ⟨[(0, (.d (.int .i64 p))), (1, .d (.sl (.arr 64 .leaf) XD)), (5, .sl 0 [] 0 0 (some 0)), (6, (.d (.int .i64 0)))], [.sl false (.arr 64 .leaf) []]⟩) (by
   simp -implicitDefEqProofs [Z3d_L0, dn_cond, hX, hx2, hpos2, e1, w1]) e2
  refine ask_of hT rfl ?_
  simp -implicitDefEqProofs [Z3d, Z3d_B, st]
theorem l_toPs {O : Oracle} (hp : C_toPoly O) {ls : List (List Int)} (h : Arrs ls) (hl : ls.length < 2000000) : ∀ (k i : Nat) (Q : List D), i + k = ls.length → Q.length = ls.length → (∀ d ∈ Q, d.sh.beq (.arr 64 .leaf) = true) → Q.take i = (ls.map arr8).take i →
 dn O 0 (.loop Z1j_L0) ⟨[(0, .d (.sl (.arr 64 .leaf) (ls.map arr8))), (3, .sl 0 [] 0 ls.length (some ls.length)), (4, (.d (.int .i64 i)))], [.sl false (.arr 64 .leaf) Q]⟩ =
  some (.exit 0, ⟨[(0, .d (.sl (.arr 64 .leaf) (ls.map arr8))), (3, .sl 0 [] 0 ls.length (some ls.length)), (4, (.d (.int .i64 ls.length))), (11, (.d (.bool false)))], [.sl false (.arr 64 .leaf) (ls.map arr8)]⟩)
 | 0, i, Q, hi, hq, hQ, ht => by
  obtain rfl : i = ls.length := by omega
  have hL : (ls.map arr8).length = ls.length := List.length_map ..
  rw [List.take_of_length_le (by omega), List.take_of_length_le (by omega)] at ht
  subst ht
  refine dn_stop ?_
  generalize ls.map arr8 = LD at *
  simp -implicitDefEqProofs [Z1j_L0, dn_cond, hL]
 | k + 1, i, Q, hi, hq, hQ, ht => by
  have hlt : i < ls.length := by omega
  have hm1 := List.getElem_mem hlt
  have hsh : ∀ h : i < Q.length, (Q[i]'h).sh.beq (.arr 64 .leaf) = true := fun h => hQ _ (List.getElem_mem h)
  have e1 := hp ls[i] (h _ hm1).2 (h _ hm1).1
  have hL : (ls.map arr8).length = ls.length := List.length_map ..
  have hx2 : ∀ h : i < (ls.map arr8).length, (ls.map arr8)[i]'h = (D.arr 64 .leaf (ints .u8 (ls[i]))) := fun h => by rw [List.getElem_map]
  have w4 : IntKind.i64.wrap ((i : Int) + 1) = ((i + 1 : Nat) : Int) := (w64 (x := (i : Int) + 1) (by omega)).trans (by omega)
  refine dn_round ?_ (l_toPs hp h hl k (i + 1) (Q.set i (D.arr 64 .leaf (ints .u8 (ls[i])))) (by omega) (by rw [List.length_set]; exact hq) (fun d hd => by
   rcases List.mem_or_eq_of_mem_set hd with h1 | rfl
   ·exact hQ d h1
   ·rfl) (by
   rw [List.take_succ_eq_append_getElem (show i < (ls.map arr8).length by omega), List.take_succ_eq_append_getElem (by rw [List.length_set]; omega), List.getElem_set_self, List.take_set, List.set_eq_of_length_le (by rw [List.length_take]; omega), ht, hx2]))
  generalize ls[i] = li at *
  generalize ls.map arr8 = LD at *
  simp -implicitDefEqProofs [Z1j_L0, dn_cond, hlt, hL, hx2, hq, hsh, e1, w4]
def C_toPs (O : Oracle) : Prop := ∀ ls : List (List Int), Arrs ls → ls.length < 2000000 → ask O F1j [.sl (.arr 64 .leaf) (ls.map arr8)] = some (.sl (.arr 64 .leaf) (ls.map arr8))
theorem c_toPs (hT : T F1j = some Z1j) (hp : C_toPoly (den T A)) : C_toPs (den T A) := by
 intro ls h hl
 have e := l_toPs (O := den T A) hp h hl ls.length 0 (List.replicate ls.length (D.arr 64 .leaf (ints .u8 (pad [])))) (Nat.zero_add _) (List.length_replicate ..) (fun d hd => by rw [List.eq_of_mem_replicate hd]; rfl) (by rw [List.take_zero, List.take_zero])
 have e00 : ((0 : Nat) : Int) = 0 := rfl
 rw [e00] at e
 have hL : (ls.map arr8).length = ls.length := List.length_map ..
 have htk : (ls.map arr8).take ls.length = ls.map arr8 := List.take_of_length_le (by omega)
 have h64 : ls.length * 64 ≤ 1099511627776 := by omega
 refine ask_of hT rfl ?_
 generalize ls.map arr8 = LD at *
 generalize ls.length = n at *
 simp -implicitDefEqProofs [Z1j, Z1j_B, e, hL, htk, h64]
theorem l_eqPs {O : Oracle} (he : C_eqPoly O) {ls : List (List Int)} (h : ∀ l ∈ ls, l.length = 64) (hl : ls.length < 2000000) : ∀ (k i : Nat), i + k = ls.length →
 dn O 0 (.loop Z1g_L0) ⟨[(0, .d (.sl (.arr 64 .leaf) (ls.map arr8))), (1, .d (.sl (.arr 64 .leaf) (ls.map arr8))), (5, (.d (.int .i64 i)))], []⟩ =
  some (.exit 0, ⟨[(0, .d (.sl (.arr 64 .leaf) (ls.map arr8))), (1, .d (.sl (.arr 64 .leaf) (ls.map arr8))), (5, (.d (.int .i64 ls.length))), (14, (.d (.bool false)))], []⟩)
 | 0, i, hi => by
  obtain rfl : i = ls.length := by omega
  have hL : (ls.map arr8).length = ls.length := List.length_map ..
  refine dn_stop ?_
  generalize ls.map arr8 = LD at *
  simp -implicitDefEqProofs [Z1g_L0, dn_cond, hL]
 | k + 1, i, hi => by
  have hlt : i < ls.length := by omega
  have e1 := he ls[i] (h _ (List.getElem_mem hlt))
  have hL : (ls.map arr8).length = ls.length := List.length_map ..
  have hx2 : ∀ h : i < (ls.map arr8).length, (ls.map arr8)[i]'h = (D.arr 64 .leaf (ints .u8 (ls[i]))) := fun h => by rw [List.getElem_map]
  have w4 : IntKind.i64.wrap ((i : Int) + 1) = ((i + 1 : Nat) : Int) := (w64 (x := (i : Int) + 1) (by omega)).trans (by omega)
  refine dn_round ?_ (l_eqPs he h hl k (i + 1) (by omega))
  generalize ls[i] = li at *
  generalize ls.map arr8 = LD at *
  simp -implicitDefEqProofs [Z1g_L0, dn_cond, hlt, hL, hx2, e1, w4]
def C_eqPs (O : Oracle) : Prop := ∀ ls : List (List Int), (∀ l ∈ ls, l.length = 64) → ls.length < 2000000 → ask O F1g [.sl (.arr 64 .leaf) (ls.map arr8), .sl (.arr 64 .leaf) (ls.map arr8)] = some (D.bool true)
theorem c_eqPs (hT : T F1g = some Z1g) (he : C_eqPoly (den T A)) : C_eqPs (den T A) := by
 intro ls h hl
 have e := l_eqPs (O := den T A) he h hl ls.length 0 (Nat.zero_add _)
 have e00 : ((0 : Nat) : Int) = 0 := rfl
 rw [e00] at e
 refine ask_of hT rfl ?_
 generalize ls.map arr8 = LD at *
 simp -implicitDefEqProofs [Z1g, Z1g_B, dn_cond, e]
def C_szPs (O : Oracle) : Prop := ∀ (L : List D) (left : Int), 0 ≤ left → left ≤ 2000000 → L.length ≤ 9223372036854775807 → ask O F1h [.sl (.arr 64 .leaf) L, (D.int .i64 left)] = some (D.int .i64 (if left < L.length then -1 else left - L.length))
theorem c_szPs (hT : T F1h = some Z1h) : C_szPs (den T A) := by
 intro L left h0 h1 hl
 have w1 : IntKind.i64.wrap (left - L.length) = left - L.length := w64 (by omega)
 refine ask_of hT rfl ?_
 by_cases h : left < L.length
 ·rw [if_pos h]
  have hn : left - (L.length : Int) < 0 := by omega
  simp -implicitDefEqProofs [Z1h, Z1h_B, dn_cond, w1, hn]
 ·rw [if_neg h]
  have hn : ¬ left - (L.length : Int) < 0 := by omega
  simp -implicitDefEqProofs [Z1h, Z1h_B, dn_cond, w1, hn]
end Pe

namespace Pe
open Go Gq
variable {T : Nat → Option Fn} {A : Oracle}
def C_grow (O : Oracle) : Prop := ∀ n : Nat, n < 10000000 → O F1r [.d (.nils (.arr 64 .leaf)), (.d (.int .i64 n))] [] = some (.sl 0 [] 0 0 none, [], [.sl false (.arr 64 .leaf) (List.replicate n (.arr 64 .leaf z64))])
def C_concat (O : Oracle) : Prop := ∀ X Y : List D, X.length < 2000000 → Y.length < 2000000 → ask O F1o [.sl .leaf [.sl (.arr 64 .leaf) X, .sl (.arr 64 .leaf) Y]] = some (.sl (.arr 64 .leaf) (X ++ Y))
theorem c_concat (hT : T F1o = some Z1o) (hg : C_grow (den T A)) : C_concat (den T A) := by
 intro X Y hX hY
 have eg := hg (X.length + Y.length) (by omega)
 obtain ⟨x, hx⟩ : ∃ x : Int, (X.length : Int) = x := ⟨_, rfl⟩
 obtain ⟨y, hy⟩ : ∃ y : Int, ((X.length + Y.length : Nat) : Int) = y := ⟨_, rfl⟩
 rw [hy] at eg
 have w0 : IntKind.i64.wrap x = x := w64 (by omega)
 have hsum : x + (Y.length : Int) = y := by omega
 have w1 : IntKind.i64.wrap y = y := w64 (by omega)
 have w2 : IntKind.i64.wrap 1 = 1 := w64 (by omega)
 have w3 : IntKind.i64.wrap 2 = 2 := w64 (by omega)
 have n1 : ¬ x < 0 := by omega
 have n2 : ¬ y < 0 := by omega
 have b1 : X.length * 64 ≤ 1099511627776 := by omega
 have b2 : (X.length + Y.length) * 64 ≤ 1099511627776 := by omega
 have hXY : (X ++ Y).length = X.length + Y.length := List.length_append
 generalize List.replicate (X.length + Y.length) (D.arr 64 .leaf z64) = ZZ at *
 have st := dn_round (O := den T A) (np := 0) (c := Z1o_L0) (s := ⟨[(0, .d (.sl .leaf [.sl (.arr 64 .leaf) X, .sl (.arr 64 .leaf) Y])), (3, (.d (.int .i64 0))), (9, .d (.sl .leaf [.sl (.arr 64 .leaf) X, .sl (.arr 64 .leaf) Y])), (10, (.d (.int .i64 2))), (11, (.d (.int .i64 0)))], [.hole, .hole]⟩)
  (s1 := ⟨[(0, .d (.sl .leaf [.sl (.arr 64 .leaf) X, .sl (.arr 64 .leaf) Y])), (3, (.d (.int .i64 x))), (9, .d (.sl .leaf [.sl (.arr 64 .leaf) X, .sl (.arr 64 .leaf) Y])), (10, (.d (.int .i64 2))), (11, (.d (.int .i64 1)))], [.hole, .hole]⟩) (by
   simp -implicitDefEqProofs [Z1o_L0, dn_cond, hx, w0, w2, n1])
  (dn_round (s1 := ⟨[(0, .d (.sl .leaf [.sl (.arr 64 .leaf) X, .sl (.arr 64 .leaf) Y])), (3, (.d (.int .i64 y))), (9, .d (.sl .leaf [.sl (.arr 64 .leaf) X, .sl (.arr 64 .leaf) Y])), (10, (.d (.int .i64 2))), (11, (.d (.int .i64 2)))], [.hole, .hole]⟩) (by
   simp -implicitDefEqProofs [Z1o_L0, dn_cond, hsum, w1, w3, n2])
  (dn_stop (id := 0) (s1 := ⟨[(0, .d (.sl .leaf [.sl (.arr 64 .leaf) X, .sl (.arr 64 .leaf) Y])), (3, (.d (.int .i64 y))), (9, .d (.sl .leaf [.sl (.arr 64 .leaf) X, .sl (.arr 64 .leaf) Y])), (10, (.d (.int .i64 2))), (11, (.d (.int .i64 2))), (12, (.d (.bool false)))], [.hole, .hole]⟩) (by
   simp -implicitDefEqProofs [Z1o_L0, dn_cond])))
 have sx := dn_round (O := den T A) (np := 0) (c := Z1o_L1) (s := ⟨[(6, .sl 0 [] 0 0 none), (25, .d (.sl .leaf [.sl (.arr 64 .leaf) X, .sl (.arr 64 .leaf) Y])), (26, (.d (.int .i64 2))), (27, (.d (.int .i64 0)))], [.sl false (.arr 64 .leaf) ZZ, .hole]⟩)
  (s1 := ⟨[(6, .sl 0 [] 0 X.length none), (25, .d (.sl .leaf [.sl (.arr 64 .leaf) X, .sl (.arr 64 .leaf) Y])), (26, (.d (.int .i64 2))), (27, (.d (.int .i64 1)))], [.sl false (.arr 64 .leaf) X, .hole]⟩) (by
   simp -implicitDefEqProofs [Z1o_L1, dn_cond, w2, b1])
  (dn_round (s1 := ⟨[(6, .sl 0 [] 0 (X.length + Y.length) none), (25, .d (.sl .leaf [.sl (.arr 64 .leaf) X, .sl (.arr 64 .leaf) Y])), (26, (.d (.int .i64 2))), (27, (.d (.int .i64 2)))], [.sl false (.arr 64 .leaf) (X ++ Y), .hole]⟩) (by
   simp -implicitDefEqProofs [Z1o_L1, dn_cond, w3, b2])
  (dn_stop (id := 2) (s1 := ⟨[(6, .sl 0 [] 0 (X.length + Y.length) none), (25, .d (.sl .leaf [.sl (.arr 64 .leaf) X, .sl (.arr 64 .leaf) Y])), (26, (.d (.int .i64 2))), (27, (.d (.int .i64 2))), (28, (.d (.bool false)))], [.sl false (.arr 64 .leaf) (X ++ Y), .hole]⟩) (by
   simp -implicitDefEqProofs [Z1o_L1, dn_cond])))
 refine ask_of hT rfl ?_
 have htk : (X ++ Y).take (X.length + Y.length) = X ++ Y := List.take_of_length_le (by omega)
 generalize X ++ Y = XY at *
 generalize X.length + Y.length = n at *
 simp -implicitDefEqProofs [Z1o, Z1o_B, st, sx, eg, hXY, htk, List.idxOf, List.findIdx, List.findIdx.go]
section
variable {p : Int}
variable [IsP p]
end
theorem rsOk_append {p : Int} {l : List Int} {ls ms : List (List Int)} : RsOk p l (ls ++ ms) ↔ RsOk p l ls ∧ RsOk p l ms := by
 constructor
 ·rintro ⟨ip, m, e, hm, hs⟩
  exact ⟨⟨ip, m, e, hm, fun x hx => hs x (by simp [hx])⟩, ⟨ip, m, e, hm, fun x hx => hs x (by simp [hx])⟩⟩
 ·rintro ⟨⟨ip, m, rfl, hm, hs⟩, ⟨ip', m', e', hm', hs'⟩⟩
  have h5 := hm.five
  have h6 := hm'.five
  obtain rfl := (pad_row_inj (by omega) (by omega)).1 e'
  refine ⟨ip, m, rfl, hm, fun x hx => ?_⟩
  rcases List.mem_append.1 hx with h | h
  ·exact hs x h
  ·exact hs' x h
theorem codeRs_not {p : Int} {l : List Int} {ls : List (List Int)} (h : ¬ RsOk p l ls) : codeRs p l ls = 1 := if_neg h
open Classical in
noncomputable def codePl (p : Int) (l : List Int) (ls ms : List (List Int)) (c : Prop) : Int :=
 if h : RsOk p l (ls ++ ms) then
  haveI : IsP p := h.choose
  if ¬ (1 ≤ ls.length ∧ ls.length ≤ 4 ∧ c) then 2 else if (spanS (ls.map (polOf p)) []).length < ls.length then 5 else 0
 else 1
def C_places (O : Oracle) : Prop := ∀ (p : Int) (l : List Int) (ls ms : List (List Int)) (b : Bool), Bytes l → l.length = 64 → Arrs ls → Arrs ms → ls.length + ms.length < 2000000 → ask O Fj [(D.int .i64 p), (D.arr 64 .leaf (ints .u8 l)), .sl (.arr 64 .leaf) (ls.map arr8), .sl (.arr 64 .leaf) (ms.map arr8), (D.bool b)] = some (D.int .i64 (codePl p l ls ms (b = true)))
theorem c_places (hT : T Fj = some Zj) (hcc : C_concat (den T A)) (hr : C_resCode (den T A) F16) (hro : K_rows (den T A)) (hra : K_rank (den T A)) : C_places (den T A) := by
 intro p l ls ms b bl gl ha hb hl
 have e0 := hcc (ls.map arr8) (ms.map arr8) (by rw [List.length_map]; omega) (by rw [List.length_map]; omega)
 rw [← List.map_append] at e0
 have e1 := hr p l (ls ++ ms) bl gl (fun x hx => by
  rcases List.mem_append.1 hx with h | h
  ·exact ha x h
  ·exact hb x h) (by rw [List.length_append]; omega)
 have hL : (ls.map arr8).length = ls.length := List.length_map ..
 unfold codePl
 by_cases h : RsOk p l (ls ++ ms)
 ·rw [codes_rs.2 h] at e1
  rw [dif_pos h]
  obtain ⟨ip, m, rfl, hm, hs⟩ := h
  obtain ⟨S, hS0, hS⟩ := sk_of (m := m) (ls := ls) (fun x hx => hs x (by simp [hx]))
  have h5 := hm.five
  have hSl : ls.length = S.length := by rw [hS0, List.length_map]
  have e2 := hro p S (by omega) (fun x hx => by have := hS x hx; omega)
  have e3 := hra p S (fun x hx => by have := hS x hx; omega) (by omega)
  have hmp : ls.map (polOf p) = S := by rw [hS0]; exact map_polOf (S := S) (fun a ha => by have := hS a ha; omega)
  have hmd : ls.map arr8 = S.map padD := by rw [hS0]; exact map_padD S
  rw [hmp]
  rw [← hmd] at e2
  refine ask_of hT rfl ?_
  obtain ⟨k, hk⟩ : ∃ k : Int, (ls.length : Int) = k := ⟨_, rfl⟩
  have hLk : ((ls.map arr8).length : Int) = k := by rw [hL]; exact hk
  by_cases c1 : k < 1
  ·rw [if_pos (by omega)]
   generalize ls.map arr8 = LD at *
   generalize ms.map arr8 = MD at *
   generalize (ls ++ ms).map arr8 = LM at *
   generalize pad (row m) = Pm at *
   simp -implicitDefEqProofs [Zj, Zj_B, dn_cond, e0, e1, hLk, c1]
  ·by_cases c2 : 4 < k
   ·rw [if_pos (by omega)]
    generalize ls.map arr8 = LD at *
    generalize ms.map arr8 = MD at *
    generalize (ls ++ ms).map arr8 = LM at *
    generalize pad (row m) = Pm at *
    simp -implicitDefEqProofs [Zj, Zj_B, dn_cond, e0, e1, hLk, c1, c2]
   ·cases b with
    | false =>
     rw [if_pos (by simp)]
     generalize ls.map arr8 = LD at *
     generalize ms.map arr8 = MD at *
     generalize (ls ++ ms).map arr8 = LM at *
     generalize pad (row m) = Pm at *
     simp -implicitDefEqProofs [Zj, Zj_B, dn_cond, e0, e1, hLk, c1, c2]
    | true =>
     rw [if_neg (fun h => h ⟨by omega, by omega, rfl⟩)]
     obtain ⟨r, hr⟩ : ∃ r : Int, ((spanS S []).length : Int) = r := ⟨_, rfl⟩
     rw [hr] at e3
     by_cases c3 : r < k
     ·rw [if_pos (by omega)]
      generalize ls.map arr8 = LD at *
      generalize ms.map arr8 = MD at *
      generalize (ls ++ ms).map arr8 = LM at *
      generalize pad (row m) = Pm at *
      generalize S.map rowD = SR at *
      simp -implicitDefEqProofs [Zj, Zj_B, dn_cond, e0, e1, e2, e3, hLk, c1, c2, c3]
     ·rw [if_neg (by omega)]
      generalize ls.map arr8 = LD at *
      generalize ms.map arr8 = MD at *
      generalize (ls ++ ms).map arr8 = LM at *
      generalize pad (row m) = Pm at *
      generalize S.map rowD = SR at *
      simp -implicitDefEqProofs [Zj, Zj_B, dn_cond, e0, e1, e2, e3, hLk, c1, c2, c3]
 ·rw [codeRs_not h] at e1
  rw [dif_neg h]
  refine ask_of hT rfl ?_
  generalize ls.map arr8 = LD at *
  generalize ms.map arr8 = MD at *
  generalize (ls ++ ms).map arr8 = LM at *
  simp -implicitDefEqProofs [Zj, Zj_B, dn_cond, e0, e1]
noncomputable def lrD (p : Int) (l : List Int) (ls : List (List Int)) (k : Int) : D :=
 if codePl p l ls ls (1 ≤ k ∧ k ≤ ls.length) = 0 then .tup [(D.int .i64 ((ls.length : Int) - k + 1)), (D.int .i64 0)] else .tup [(D.int .i64 0), (D.int .i64 (codePl p l ls ls (1 ≤ k ∧ k ≤ ls.length)))]
def K_LeastRank (O : Oracle) (F : Nat) : Prop := ∀ (p : Int) (l : List Int) (ls : List (List Int)) (k : Int), Bytes l → l.length = 64 → Arrs ls → ls.length < 2000000 → ask O F [(D.int .i64 p), (D.arr 64 .leaf (ints .u8 l)), .sl (.arr 64 .leaf) (ls.map arr8), (D.int .i64 k)] = some (lrD p l ls k)
theorem codePl_congr {p : Int} {l : List Int} {ls ms ns : List (List Int)} {c d : Prop} (h : RsOk p l (ls ++ ms) ↔ RsOk p l (ls ++ ns)) (hc : c ↔ d) : codePl p l ls ms c = codePl p l ls ns d := by
 unfold codePl
 rw [propext hc]
 by_cases g : RsOk p l (ls ++ ms)
 ·rw [dif_pos g, dif_pos (h.1 g)]
 ·rw [dif_neg g, dif_neg (fun g' => g (h.2 g'))]
theorem codePl_ok {p : Int} {l : List Int} {ls ms : List (List Int)} {c : Prop} (h : codePl p l ls ms c = 0) : RsOk p l (ls ++ ms) ∧ 1 ≤ ls.length ∧ ls.length ≤ 4 ∧ c := by
 unfold codePl at h
 split at h
 ·rename_i g
  split at h
  ·cases h
  ·rename_i h1
   exact ⟨g, Classical.not_not.1 h1⟩
 ·cases h
theorem k_LeastRank (hT : T F5 = some Z5) (hp : C_places (den T A)) (hw : C_within (den T A)) : K_LeastRank (den T A) F5 := by
 intro p l ls k bl gl ha hl
 have e0 := hw k 1 ls.length
 have e1 := hp p l ls [] (decide (1 ≤ k ∧ k ≤ ls.length)) bl gl ha (fun x h => by cases h) (by rw [List.length_nil]; omega)
 rw [codePl_congr (ns := ls) (d := 1 ≤ k ∧ k ≤ ls.length) (by rw [List.append_nil, rsOk_append]; exact ⟨fun h => ⟨h, h⟩, fun h => h.1⟩) (by simp), List.map_nil] at e1
 have hL : (ls.map arr8).length = ls.length := List.length_map ..
 unfold lrD
 refine ask_of hT rfl ?_
 by_cases h : codePl p l ls ls (1 ≤ k ∧ k ≤ ls.length) = 0
 ·rw [if_pos h]
  rw [h] at e1
  obtain ⟨-, -, h4, h1, h2⟩ := codePl_ok h
  have w1 : IntKind.i64.wrap ((ls.length : Int) - k) = (ls.length : Int) - k := w64 (by omega)
  have w2 : IntKind.i64.wrap ((ls.length : Int) - k + 1) = (ls.length : Int) - k + 1 := w64 (by omega)
  generalize decide (1 ≤ k ∧ k ≤ ls.length) = b at *
  generalize ls.map arr8 = LD at *
  simp -implicitDefEqProofs [Z5, Z5_B, dn_cond, e0, e1, hL, w1, w2]
 ·rw [if_neg h]
  generalize codePl p l ls ls (1 ≤ k ∧ k ≤ ls.length) = c at *
  generalize decide (1 ≤ k ∧ k ≤ ls.length) = b at *
  generalize ls.map arr8 = LD at *
  simp -implicitDefEqProofs [Z5, Z5_B, dn_cond, e0, e1, hL, h]
end Pe

namespace Pe
open Go Gq
variable {T : Nat → Option Fn} {A : Oracle}
section
variable {p : Int} [IsP p]
theorem putS_le (L : List (Fp p)) (x : Fp p) : (putS L x).length ≤ L.length + 1 := by
 by_cases h : redS L x = 0
 ·rw [putS_zero h]; omega
 ·rw [putS_ne h, (insS_perm _ L).length_eq, List.length_append, List.length_map]; exact Nat.le_refl _
theorem spanS_le : ∀ (xs L : List (Fp p)), (spanS xs L).length ≤ xs.length + L.length
 | [], L => by unfold spanS; simp
 | x :: xs, L => by
  have h1 := putS_le L x
  have h2 := spanS_le xs (putS L x)
  rw [spanS, List.length_cons]
  omega
end
section
variable {p : Int} [IsP p]
end
def C_sPlc (O : Oracle) : Prop := ∀ (p : Int) (l : List Int) (ls ms : List (List Int)) (lo hi : Int), Bytes l → l.length = 64 → Arrs ls → Arrs ms → ls.length < 2000000 → ms.length < 2000000 → ask O F3b [(D.int .i64 p), (D.arr 64 .leaf (ints .u8 l)), .sl (.arr 64 .leaf) (ls.map arr8), .sl (.arr 64 .leaf) (ms.map arr8), (D.int .i64 lo), (D.int .i64 hi)] = some (D.int .i64 (codePl p l ls ms (lo ≤ ms.length ∧ ms.length ≤ hi)))
theorem c_sPlc (hT : T F3b = some Z3b) (hr : C_resCode (den T A) F3a) (hsp : K_sSpan (den T A)) : C_sPlc (den T A) := by
 intro p l ls ms lo hi bl gl ha hb hl hl'
 have e0 := hr p l ls bl gl ha (by omega)
 have e1 := hr p l ms bl gl hb (by omega)
 unfold codePl
 by_cases h1 : RsOk p l ls
 ·rw [codes_rs.2 h1] at e0
  by_cases h2 : RsOk p l ms
  ·rw [codes_rs.2 h2] at e1
   have h := rsOk_append.2 ⟨h1, h2⟩
   rw [dif_pos h]
   obtain ⟨ip, m, rfl, hm, hs⟩ := h
   obtain ⟨S, hS0, hS⟩ := sk_of (m := m) (ls := ls) (fun x hx => hs x (by simp [hx]))
   have h5 := hm.five
   have hSl : ls.length = S.length := by rw [hS0, List.length_map]
   have e3 := hsp p S (fun x hx => by have := hS x hx; omega) (by omega)
   have hmp : ls.map (polOf p) = S := by rw [hS0]; exact map_polOf (S := S) (fun a ha => by have := hS a ha; omega)
   have hmd : ls.map arr8 = S.map padD := by rw [hS0]; exact map_padD S
   have hle := spanS_le S []
   rw [List.length_nil, Nat.add_zero] at hle
   rw [hmp]
   rw [← hmd] at e3
   refine ask_of hT rfl ?_
   obtain ⟨k, hk⟩ : ∃ k : Int, (ls.length : Int) = k := ⟨_, rfl⟩
   obtain ⟨j, hj⟩ : ∃ j : Int, (ms.length : Int) = j := ⟨_, rfl⟩
   have hLk : ((ls.map arr8).length : Int) = k := by rw [List.length_map]; exact hk
   have hMj : ((ms.map arr8).length : Int) = j := by rw [List.length_map]; exact hj
   obtain ⟨r, hr⟩ : ∃ r : Int, ((spanS S []).length : Int) = r := ⟨_, rfl⟩
   have hRr : (((spanS S []).map padD).length : Int) = r := by rw [List.length_map]; exact hr
   rw [hj]
   by_cases c1 : k < 1
   ·rw [if_pos (by omega)]
    generalize (spanS S []).map padD = RD at *
    generalize ls.map arr8 = LD at *
    generalize ms.map arr8 = MD at *
    generalize pad (row m) = Pm at *
    simp -implicitDefEqProofs [Z3b, Z3b_B, dn_cond, e0, e1, hLk, c1]
   ·by_cases c2 : 4 < k
    ·rw [if_pos (by omega)]
     generalize (spanS S []).map padD = RD at *
     generalize ls.map arr8 = LD at *
     generalize ms.map arr8 = MD at *
     generalize pad (row m) = Pm at *
     simp -implicitDefEqProofs [Z3b, Z3b_B, dn_cond, e0, e1, hLk, c1, c2]
    ·by_cases c3 : j < lo
     ·rw [if_pos (by omega)]
      generalize (spanS S []).map padD = RD at *
      generalize ls.map arr8 = LD at *
      generalize ms.map arr8 = MD at *
      generalize pad (row m) = Pm at *
      simp -implicitDefEqProofs [Z3b, Z3b_B, dn_cond, e0, e1, hLk, hMj, c1, c2, c3]
     ·by_cases c4 : hi < j
      ·rw [if_pos (by omega)]
       generalize (spanS S []).map padD = RD at *
       generalize ls.map arr8 = LD at *
       generalize ms.map arr8 = MD at *
       generalize pad (row m) = Pm at *
       simp -implicitDefEqProofs [Z3b, Z3b_B, dn_cond, e0, e1, hLk, hMj, c1, c2, c3, c4]
      ·rw [if_neg (by omega)]
       by_cases c5 : r = k
       ·rw [if_neg (by omega)]
        generalize (spanS S []).map padD = RD at *
        generalize ls.map arr8 = LD at *
        generalize ms.map arr8 = MD at *
        generalize pad (row m) = Pm at *
        simp -implicitDefEqProofs [Z3b, Z3b_B, dn_cond, e0, e1, e3, hLk, hMj, hRr, c1, c2, c3, c4, c5]
       ·rw [if_pos (by omega)]
        generalize (spanS S []).map padD = RD at *
        generalize ls.map arr8 = LD at *
        generalize ms.map arr8 = MD at *
        generalize pad (row m) = Pm at *
        simp -implicitDefEqProofs [Z3b, Z3b_B, dn_cond, e0, e1, e3, hLk, hMj, hRr, c1, c2, c3, c4, c5]
  ·rw [codeRs_not h2] at e1
   rw [dif_neg (fun h => h2 (rsOk_append.1 h).2)]
   refine ask_of hT rfl ?_
   generalize ls.map arr8 = LD at *
   generalize ms.map arr8 = MD at *
   simp -implicitDefEqProofs [Z3b, Z3b_B, dn_cond, e0, e1]
 ·rw [codeRs_not h1] at e0
  rw [dif_neg (fun h => h1 (rsOk_append.1 h).1)]
  refine ask_of hT rfl ?_
  generalize ls.map arr8 = LD at *
  generalize ms.map arr8 = MD at *
  simp -implicitDefEqProofs [Z3b, Z3b_B, dn_cond, e0]
theorem codePl_two {p : Int} {l : List Int} {ls ms : List (List Int)} {b c : Prop} (hc : ¬ c) (h : codePl p l ls ms b = 0 ∨ codePl p l ls ms b = 5) : codePl p l ls ms (c ∧ b) = 2 := by
 unfold codePl at h ⊢
 by_cases g : RsOk p l (ls ++ ms)
 ·rw [dif_pos g, if_pos (fun h => hc h.2.2.1)]
 ·rw [dif_neg g] at h
  rcases h with h | h <;> cases h
theorem codePl_same {p : Int} {l : List Int} {ls ms : List (List Int)} {b c : Prop} (h : c ∨ ¬ (codePl p l ls ms b = 0 ∨ codePl p l ls ms b = 5)) : codePl p l ls ms (c ∧ b) = codePl p l ls ms b := by
 by_cases hc : c
 ·exact codePl_congr Iff.rfl ⟨fun h => h.2, fun h => ⟨hc, h⟩⟩
 ·have h1 := h.resolve_left hc
  unfold codePl at h1 ⊢
  by_cases g : RsOk p l (ls ++ ms)
  ·rw [dif_pos g] at h1 ⊢
   rw [dif_pos g, if_pos (fun h => hc h.2.2.1)]
   by_cases g2 : 1 ≤ ls.length ∧ ls.length ≤ 4 ∧ b
   ·rw [if_neg (fun h => h g2)] at h1
    exfalso
    apply h1
    split
    ·exact .inr rfl
    ·exact .inl rfl
   ·rw [if_pos g2]
  ·rw [dif_neg g, dif_neg g]
def C_sSized (O : Oracle) : Prop := ∀ (p : Int) (l : List Int) (ls ms : List (List Int)) (k : Int), Bytes l → l.length = 64 → Arrs ls → Arrs ms → ls.length < 2000000 → ms.length < 2000000 → ask O F3c [(D.int .i64 p), (D.arr 64 .leaf (ints .u8 l)), .sl (.arr 64 .leaf) (ls.map arr8), (D.int .i64 k), .sl (.arr 64 .leaf) (ms.map arr8)] = some (D.int .i64 (codePl p l ls ms ((1 ≤ k ∧ k ≤ ls.length) ∧ ms.length = ls.length)))
theorem c_sSized (hT : T F3c = some Z3c) (hc : C_sPlc (den T A)) (hi : C_sIn (den T A)) : C_sSized (den T A) := by
 intro p l ls ms k bl gl ha hb hl hl'
 have e0 := hc p l ls ms ls.length ls.length bl gl ha hb hl hl'
 rw [codePl_congr (ns := ms) (d := ms.length = ls.length) Iff.rfl (by omega)] at e0
 have e1 := hi k 1 ls.length
 have hL : (ls.map arr8).length = ls.length := List.length_map ..
 refine ask_of hT rfl ?_
 by_cases h1 : 1 ≤ k ∧ k ≤ (ls.length : Int)
 ·rw [codePl_same (.inl h1)]
  rw [decide_eq_true h1] at e1
  generalize codePl p l ls ms (ms.length = ls.length) = c at *
  generalize ls.map arr8 = LD at *
  generalize ms.map arr8 = MD at *
  generalize ls.length = n at *
  by_cases c0 : c = 0
  ·subst c0
   simp -implicitDefEqProofs [Z3c, Z3c_B, dn_cond, e0, e1, hL]
  ·by_cases c5 : c = 5
   ·subst c5
    simp -implicitDefEqProofs [Z3c, Z3c_B, dn_cond, e0, e1, hL]
   ·simp -implicitDefEqProofs [Z3c, Z3c_B, dn_cond, e0, hL, c0, c5]
 ·rw [decide_eq_false h1] at e1
  by_cases h2 : codePl p l ls ms (ms.length = ls.length) = 0 ∨ codePl p l ls ms (ms.length = ls.length) = 5
  ·rw [codePl_two h1 h2]
   generalize codePl p l ls ms (ms.length = ls.length) = c at *
   generalize ls.map arr8 = LD at *
   generalize ms.map arr8 = MD at *
   generalize ls.length = n at *
   rcases h2 with rfl | rfl
   ·simp -implicitDefEqProofs [Z3c, Z3c_B, dn_cond, e0, e1, hL]
   ·simp -implicitDefEqProofs [Z3c, Z3c_B, dn_cond, e0, e1, hL]
  ·rw [codePl_same (.inr h2)]
   generalize codePl p l ls ms (ms.length = ls.length) = c at *
   have c0 : ¬ c = 0 := fun h => h2 (.inl h)
   have c5 : ¬ c = 5 := fun h => h2 (.inr h)
   generalize ls.map arr8 = LD at *
   generalize ms.map arr8 = MD at *
   generalize ls.length = n at *
   simp -implicitDefEqProofs [Z3c, Z3c_B, dn_cond, e0, hL, c0, c5]
theorem k_sLeastRank (hT : T F2o = some Z2o) (hp : C_sSized (den T A)) : K_LeastRank (den T A) F2o := by
 intro p l ls k bl gl ha hl
 have e1 := hp p l ls ls k bl gl ha ha (by omega) (by omega)
 rw [codePl_congr (ns := ls) (d := 1 ≤ k ∧ k ≤ ls.length) Iff.rfl (by simp)] at e1
 have hL : (ls.map arr8).length = ls.length := List.length_map ..
 unfold lrD
 refine ask_of hT rfl ?_
 by_cases h : codePl p l ls ls (1 ≤ k ∧ k ≤ ls.length) = 0
 ·rw [if_pos h]
  rw [h] at e1
  obtain ⟨-, -, h4, h1, h2⟩ := codePl_ok h
  have w1 : IntKind.i64.wrap ((ls.length : Int) - k) = (ls.length : Int) - k := w64 (by omega)
  have w2 : IntKind.i64.wrap ((ls.length : Int) - k + 1) = (ls.length : Int) - k + 1 := w64 (by omega)
  generalize ls.map arr8 = LD at *
  simp -implicitDefEqProofs [Z2o, Z2o_B, dn_cond, e1, hL, w1, w2]
 ·rw [if_neg h]
  generalize codePl p l ls ls (1 ≤ k ∧ k ≤ ls.length) = c at *
  generalize ls.map arr8 = LD at *
  simp -implicitDefEqProofs [Z2o, Z2o_B, dn_cond, e1, h]
end Pe


namespace Pe
open Go Gq
variable {T : Nat → Option Fn} {A : Oracle}
theorem lrD_form (p : Int) (l : List Int) (ls : List (List Int)) (k : Int) : ∃ n c : Int, lrD p l ls k = .tup [(D.int .i64 n), (D.int .i64 c)] := by
 unfold lrD
 split
 ·exact ⟨_, _, rfl⟩
 ·exact ⟨_, _, rfl⟩
def L_LeastRank (O : Oracle) : Prop := ∀ (p : Int) (l : List Int), Bytes l → l.length = 64 → ∀ (ls : List (List Int)), Arrs ls → ls.length ≤ 9223372036854775807 → ∀ k : Int, ask O F1e [(D.int .i64 p), (D.arr 64 .leaf (ints .u8 l)), .sl (.arr 64 .leaf) (ls.map arr8), (D.int .i64 k)] = some (D.bool true)
theorem law_LeastRank (hT : T F1e = some Z1e) (hp : C_toPoly (den T A)) (hk : C_toPs (den T A)) (he : C_eqPs (den T A)) (hsz : C_szPs (den T A)) (hi : K_LeastRank (den T A) F5) (hs : K_LeastRank (den T A) F2o) : L_LeastRank (den T A) := by
 intro p l bl gl ls ha hl k
 have e0 := hsz (ls.map arr8) 1048576 (by omega) (by omega) (by rw [List.length_map]; exact hl)
 rw [List.length_map] at e0
 refine ask_of hT rfl ?_
 by_cases hbig : (1048576 : Int) < ls.length
 ·rw [if_pos hbig] at e0
  generalize ls.map arr8 = LD at *
  simp -implicitDefEqProofs [Z1e, Z1e_B, dn_cond, e0]
 ·rw [if_neg hbig] at e0
  have e1 := hp l bl gl
  have e2 := hk ls ha (by omega)
  have e3 := hi p l ls k bl gl ha (by omega)
  have e4 := hs p l ls k bl gl ha (by omega)
  obtain ⟨n, c, e5⟩ := lrD_form p l ls k
  rw [e5] at e3 e4
  have e6 := he ls (fun l hl => (ha l hl).1) (by omega)
  have hn : ¬ (1048576 : Int) - ls.length < 0 := by omega
  generalize (1048576 : Int) - ls.length = left at *
  generalize ls.map arr8 = LD at *
  simp -implicitDefEqProofs [Z1e, Z1e_B, dn_cond, e0, e1, e2, e3, e4, e6, hn]
end Pe

namespace Pe
open Go
theorem has_polys : ∀ (xs : List D), (∀ x ∈ xs, tyP.has x) → ∃ ls : List (List Int), xs = ls.map arr8 ∧ Arrs ls
 | [], _ => ⟨[], rfl, fun _ h => by cases h⟩
 | x :: xs, h => by
  obtain ⟨ls, rfl, hb⟩ := has_polys xs fun y hy => h y (List.mem_cons_of_mem _ hy)
  obtain ⟨l, rfl, b, g⟩ := has_P (h x (by simp))
  refine ⟨l :: ls, rfl, fun y hy => ?_⟩
  rcases List.mem_cons.1 hy with rfl | hy
  ·exact ⟨g, b⟩
  ·exact hb y hy
abbrev tyPs : Ty := .sl tyP
theorem has_Ps {d : D} (h : tyPs.has d) : ∃ ls : List (List Int), d = .sl (.arr 64 .leaf) (ls.map arr8) ∧ Arrs ls ∧ ls.length ≤ 9223372036854775807 := by
 cases d <;> simp only [Ty.has] at h
 obtain ⟨rfl, h1, h2⟩ := h
 obtain ⟨ls, rfl, hb⟩ := has_polys _ h2
 exact ⟨ls, rfl, hb, by simpa using h1⟩
end Pe
