/-
  A part of the proof: an evaluator for a small form of the code, its soundness, and contracts of functions over it.
-/
import Derived.Test.YtfmkdfhhbejpnaaGreatW1
import Derived.Test.YtfmkdfhhbejpnaaGreatW2
import Derived.Test.YtfmkdfhhbejpnaaGreatW3
import Derived.Test.YtfmkdfhhbejpnaaGreatW4
import Derived.Test.YtfmkdfhhbejpnaaGreatW5

namespace Pe
open Go Gq
variable {T : Nat → Option Fn} {A : Oracle}
theorem beqs_ints (k : IntKind) : ∀ {l m : List Int}, l.length = m.length → D.beqs .int (ints k l) (ints k m) = some (decide (l = m))
 | [], [], _ => by simp [D.beqs, ints]
 | x :: l, y :: m, h => by
  have e : D.beqs .int (ints k (x :: l)) (ints k (y :: m)) = (D.beq .int (.int k x) (.int k y)).bind fun b => if b then D.beqs .int (ints k l) (ints k m) else some false := rfl
  rw [e]
  have e2 : D.beq .int (.int k x) (.int k y) = some (decide (x = y)) := by simp [D.beq]
  rw [e2, Option.bind_some, beqs_ints k (by simpa using h)]
  by_cases h1 : x = y
  ·subst h1; simp
  ·simp [h1]
theorem beq_P {l m : List Int} (hl : l.length = 64) (hm : m.length = 64) : D.beq (.arr 64 .leaf .int) (D.arr 64 .leaf (ints .u8 l)) (D.arr 64 .leaf (ints .u8 m)) = some (decide (l = m)) := by
 have e : D.beq (.arr 64 .leaf .int) (D.arr 64 .leaf (ints .u8 l)) (D.arr 64 .leaf (ints .u8 m)) = if 64 = 64 ∧ 64 = 64 ∧ Sh.beq .leaf .leaf ∧ Sh.beq .leaf .leaf then D.beqs .int (ints .u8 l) (ints .u8 m) else none := rfl
 rw [e, if_pos ⟨rfl, rfl, rfl, rfl⟩, beqs_ints _ (by omega)]
theorem pad_row_inj {p : Int} {a b : Fp p} (ha : a.len ≤ 64) (hb : b.len ≤ 64) : pad (row a) = pad (row b) ↔ a = b := by
 constructor
 ·intro h
  rw [← polOf_pad ha, h, polOf_pad hb]
 ·rintro rfl; rfl
section
variable {p : Int} [IsP p]
structure SInv (a0 : Fp p) (k : Int) (a : Fp p) (out : Facs p) : Prop where
 ne : a ≠ 0
 eq : a0 = a * prodF out
 ok : FacOk out
 so : out.Pairwise fun x y => numOf x.1 < numOf y.1
 lt : ∀ x ∈ out, numOf x.1 < k
 ge : ∀ q, Irr q → Monic q → Dv q a → k ≤ numOf q
 ln : out.length + a.len ≤ 13
structure SEnd (a0 a : Fp p) (out : Facs p) : Prop where
 ne : a ≠ 0
 eq : a0 = a * prodF out
 ok : FacOk out
 so : out.Pairwise fun x y => numOf x.1 < numOf y.1
 irr : 2 ≤ a.len → Irr a ∧ ∀ x ∈ out, numOf x.1 < numOf (mon a)
 ln : out.length + a.len ≤ 13
theorem mon_irr_dv {q a : Fp p} (hq : Irr q) (h : Dv q a) : Dv (mon q) a := (mon_dv hq.ne).2 h
theorem SInv.small {a0 a : Fp p} {n : Nat} {k : Int} {out : Facs p} (h : SInv a0 k a out) (_hn : n ≤ 12) (hk : p ^ n ≤ k) : NoSmall n a := by
 intro q hq hd
 have h1 := h.ge _ hq.mon (mon_monic hq.ne) (mon_irr_dv hq hd)
 have h2 := numOf_in (mon q)
 rw [mon_len hq.ne] at h2
 apply Classical.byContradiction
 intro hx
 have := ipow_mono (p := p) (by have := IsP.pos (p := p); omega) (show q.len ≤ n by omega)
 omega
theorem SInv.step {a0 a : Fp p} {n : Nat} {k : Int} {out : Facs p} (h : SInv a0 k a out) (hn1 : 1 ≤ n) (hn : n ≤ 12) (hk : p ^ n ≤ k) (hk2 : k < 2 * p ^ n) {j : Nat} {r : Fp p} (h1 : a = r * pw (numP p k) j) (h2 : ¬ Dv (numP p k) r) :
 SInv a0 (k + 1) r (if j = 0 then out else out ++ [(numP p k, j)]) := by
 obtain ⟨m1, m2⟩ := numP_monic hn hk hk2
 have hb := ppow_le (p := p) hn
 have hpos := ppow_pos (p := p) n
 have hnum : numOf (numP p k) = k := numOf_numP ⟨by omega, by omega⟩
 have hr0 : r ≠ 0 := fun h0 => h.ne (by rw [h1, h0, Gq.zero_mul])
 have ge' : ∀ q, Irr q → Monic q → Dv q r → k + 1 ≤ numOf q := by
  intro q hq hm hd
  have g1 := h.ge q hq hm (by rw [h1]; exact hd.mul_right _)
  have g2 : numOf q ≠ k := fun e => by
   have : q = numP p k := numOf_inj (by rw [e, hnum])
   exact h2 (this ▸ hd)
  omega
 by_cases hj : j = 0
 ·subst hj
  rw [if_pos rfl]
  rw [pw, Gq.mul_one] at h1
  subst h1
  exact ⟨h.ne, h.eq, h.ok, h.so, fun x hx => by have := h.lt x hx; omega, ge', h.ln⟩
 ·rw [if_neg hj]
  have hda : Dv (numP p k) a := by
   obtain ⟨i, rfl⟩ : ∃ i, j = i + 1 := ⟨j - 1, by omega⟩
   rw [h1, pw]
   exact ((Dv.refl _).mul_left _).mul_left _
  have hi : Irr (numP p k) := by
   refine Irr.of_dv (by omega) fun u hu => ?_
   have hul := hu.len m1.2
   have hu0 : u ≠ 0 := fun h0 => by
    obtain ⟨c, hc⟩ := hu
    exact m1.2 (by rw [hc, h0, Gq.zero_mul])
   have hup := Pol.len_pos hu0
   by_cases hu1 : u.len = 1
   ·exact .inl hu1
   ·right
    obtain ⟨q, q1, q2, q3⟩ := irr_ex u.len u (Nat.le_refl _) (by omega)
    have g1 := h.ge q q1 q2 ((q3.trans hu).trans hda)
    have g2 := q3.len hu0
    apply Classical.byContradiction
    intro hx
    have g3 := numOf_len (a := q) (b := numP p k) (by omega)
    omega
  have hlt : r.len < a.len := by
   obtain ⟨i, rfl⟩ : ∃ i, j = i + 1 := ⟨j - 1, by omega⟩
   have hi0 := pw_ne hi.ne i
   have l1 := Pol.len_mul hi0 hi.ne
   have l2 := Pol.len_mul hr0 (Pol.mul_ne hi0 hi.ne)
   have l3 := Pol.len_pos hi0
   rw [h1, pw]; omega
  refine ⟨hr0, ?_, h.ok.snoc hi m1 (by omega) fun x hx e => ?_, ?_, ?_, ge', ?_⟩
  ·rw [h.eq, prodF_snoc]
   conv => lhs; rw [h1]
   exact ring_of [r, pw (numP p k) j, prodF out] rfl
  ·have := h.lt x hx
   rw [e, hnum] at this; omega
  ·rw [List.pairwise_append]
   refine ⟨h.so, List.pairwise_singleton _ _, fun x hx y hy => ?_⟩
   simp at hy; subst hy
   have := h.lt x hx
   rw [hnum]; exact this
  ·intro x hx
   rcases List.mem_append.1 hx with hx | hx
   ·have := h.lt x hx; omega
   ·simp at hx; subst hx; rw [hnum]; omega
  ·have := h.ln
   simp; omega
theorem SInv.next {a0 a : Fp p} {n : Nat} {out : Facs p} (h : SInv a0 (2 * p ^ n) a out) (hn : n ≤ 11) : SInv a0 (p ^ (n + 1)) a out := by
 refine ⟨h.ne, h.eq, h.ok, h.so, fun x hx => ?_, fun q hq hm hd => ?_, h.ln⟩
 ·have := h.lt x hx
  have := ppow_succ (p := p) n
  omega
 ·have h1 := h.ge q hq hm hd
  have hq0 := Pol.len_pos hm.2
  rcases Nat.lt_or_ge (n + 1) q.len with h2 | h2
  ·obtain ⟨d, hd'⟩ : ∃ d, q.len = d + 1 := ⟨q.len - 1, by omega⟩
   have hl := hd.len h.ne
   have hln := h.ln
   have h3 := numOf_monic (n := d) (by omega) hm hd'
   have := ipow_mono (p := p) (by have := IsP.pos (p := p); omega) (show n + 1 ≤ d by omega)
   omega
  ·exfalso
   obtain ⟨d, hd'⟩ : ∃ d, q.len = d + 1 := ⟨q.len - 1, by omega⟩
   have h3 := numOf_monic (n := d) (by omega) hm hd'
   have := ipow_mono (p := p) (by have := IsP.pos (p := p); omega) (show d ≤ n by omega)
   omega
theorem SInv.init {a : Fp p} (ha : a ≠ 0) (hl : a.len ≤ 13) : SInv a (p ^ 1) a [] :=
 ⟨ha, (Gq.mul_one a).symm, ⟨by simp, .nil⟩, .nil, by simp, fun q hq hm _ => by
  have h1 := hq.len
  obtain ⟨d, hd'⟩ : ∃ d, q.len = d + 1 := ⟨q.len - 1, by omega⟩
  by_cases hd12 : d ≤ 12
  ·have h3 := numOf_monic (n := d) hd12 hm hd'
   have := ipow_mono (p := p) (by have := IsP.pos (p := p); omega) (show 1 ≤ d by omega)
   omega
  ·have h4 := numOf_len (a := numP p (p ^ 1)) (b := q) (by
    have := (numP_monic (p := p) (n := 1) (by omega) (Int.le_refl _) (by have := ppow_pos (p := p) 1; omega)).2
    omega)
   have h5 : numOf (numP p (p ^ 1)) = p ^ 1 := numOf_numP ⟨Int.le_of_lt (ppow_pos 1), by have := ppow_le (p := p) (n := 1) (by omega); omega⟩
   omega, by simpa using hl⟩
theorem SEnd.fac {a0 a : Fp p} {out : Facs p} (h : SEnd a0 a out) (h0 : a0 ≠ 0) : Pe.fac a0 = if 2 ≤ a.len then out ++ [(mon a, 1)] else out := by
 apply fac_eq h0
 have hP := prodF_monic h.ok
 have hld : a0.ld = a.ld := by rw [h.eq, Pol.ld_mul h.ne hP.2, hP.1, Gq.mul_one]
 split
 ·rename_i hl
  obtain ⟨hi, hx⟩ := h.irr hl
  refine ⟨h.ok.snoc hi.mon (mon_monic h.ne) (Nat.le_refl 1) fun x hx' e => ?_, ?_, ?_⟩
  ·have := hx x hx'
   rw [e] at this; omega
  ·rw [List.pairwise_append]
   refine ⟨h.so, List.pairwise_singleton _ _, fun x hx' y hy => ?_⟩
   simp at hy; subst hy; exact hx x hx'
  ·rw [prodF_snoc, hld]
   show a0 = Pol.C a.ld * (prodF out * pw (mon a) 1)
   rw [pw_1, h.eq]
   conv => lhs; rw [eq_mon h.ne]
   exact ring_of [Pol.C a.ld, mon a, prodF out] rfl
 ·rename_i hl
  have hp := Pol.len_pos h.ne
  obtain ⟨c, hc, rfl⟩ := unit_of_len (show a.len = 1 by omega)
  refine ⟨h.ok, h.so, ?_⟩
  rw [hld, Pol.ld_C hc]; exact h.eq
end
end Pe

namespace Pe
open Go Gq
variable {T : Nat → Option Fn} {A : Oracle}
section
variable {p : Int} [IsP p]
end
end Pe


namespace Pe
open Go Gq
variable {T : Nat → Option Fn} {A : Oracle}
section
variable {p : Int} [IsP p]
end
section
variable {p : Int} [IsP p]
end
end Pe

namespace Pe
open Go Gq
variable {T : Nat → Option Fn} {A : Oracle}
end Pe

namespace Pe
open Go Gq
variable {T : Nat → Option Fn} {A : Oracle}
end Pe

namespace Pe
open Go Gq
variable {T : Nat → Option Fn} {A : Oracle}
open Classical in
def K_isIrr (O : Oracle) : Prop := ∀ (p : Int) [IsP p] (a : Fp p), a.len ≤ 13 → ask O F10 [(D.int .i64 p), (D.sl .leaf (ints .i64 (row a)))] = some (D.bool (decide (Monic a ∧ Irr a)))
open Classical in
theorem k_isIrr (hT : T F10 = some Z10) (hld : C_lead (den T A)) (hdg : C_degree (den T A)) (hf : K_fac (den T A)) : K_isIrr (den T A) := by
 intro p i a hal
 have e1 := hld (row a) (by rw [row_length]; omega)
 rw [ld_row] at e1
 have e2 := hdg (row a) (by rw [row_length]; omega)
 rw [row_length] at e2
 refine ask_of hT rfl ?_
 by_cases h1 : a.ld = 1
 ·have h1' := (rep_one_iff a.ld).2 h1
  have hM := (monic_iff a).2 h1
  rw [h1'] at e1
  by_cases h2 : 2 ≤ a.len
  ·obtain ⟨f1, f2, e3⟩ := hf p a hM.2 hal
   have hiff := irr_fac hM f1
   have hlt : ¬ ((a.len : Int) - 1 < 1) := by omega
   have hlt2 : ¬ ((a.len : Int) < 2) := by omega
   have hlt3 : (2 : Int) ≤ a.len := by omega
   have key : (∃ q, fac a = [(q, 1)]) ↔ (Monic a ∧ Irr a) := ⟨fun h => ⟨hM, hiff.1 h⟩, fun h => hiff.2 h.2⟩
   generalize fac a = L at *
   cases L with
   | nil =>
    rw [decide_eq_false (fun h0 => by obtain ⟨q, h⟩ := key.2 h0; cases h)]
    simp -implicitDefEqProofs [Z10, Z10_B, dn_cond, e1, e2, e3, hlt]
   | cons x L =>
    cases L with
    | nil =>
     obtain ⟨q, k⟩ := x
     by_cases hk : k = 1
     ·subst hk
      rw [decide_eq_true (key.1 ⟨q, rfl⟩)]
      simp -implicitDefEqProofs [Z10, Z10_B, dn_cond, e1, e2, e3, hlt, facD]
     ·rw [decide_eq_false (fun h0 => by obtain ⟨q', h⟩ := key.2 h0; simp at h; exact hk h.2)]
      have hk' : ¬ ((k : Int) = 1) := by omega
      simp -implicitDefEqProofs [Z10, Z10_B, dn_cond, e1, e2, e3, hlt, facD, hk']
    | cons y L =>
     rw [decide_eq_false (fun h0 => by obtain ⟨q', h⟩ := key.2 h0; simp at h)]
     have hk' : ¬ (((L.length : Int) + 1 + 1) = 1) := by omega
     simp -implicitDefEqProofs [Z10, Z10_B, dn_cond, e1, e2, e3, hlt, hk']
  ·have hlt : ((a.len : Int) - 1 < 1) := by omega
   have hlt2 : ((a.len : Int) < 2) := by omega
   rw [decide_eq_false (fun h => h2 h.2.len)]
   simp -implicitDefEqProofs [Z10, Z10_B, dn_cond, e1, e2, hlt]
 ·have h1' := mt (rep_one_iff a.ld).1 h1
  rw [decide_eq_false (fun h => h1 h.1.1)]
  simp -implicitDefEqProofs [Z10, Z10_B, dn_cond, e1, h1']
def C_IsPoly (O : Oracle) : Prop := ∀ (p : Int) (l : List Int), Bytes l → l.length = 64 → ask O F5 [(D.int .i64 p), (D.arr 64 .leaf (ints .u8 l))] = some (D.bool (isP p && isPl p l))
theorem c_IsPoly (hT : T F5 = some Z5) (hp : C_isPrime (den T A)) (hi : C_isPoly (den T A)) : C_IsPoly (den T A) := by
 intro p l hb hl
 have e1 := hp p
 have e2 := hi p l hb hl
 refine ask_of hT rfl ?_
 by_cases h : isP p = true
 ·simp -implicitDefEqProofs [Z5, Z5_B, e1, e2, h]
 ·simp -implicitDefEqProofs [Z5, Z5_B, e1, h]
structure Fld {p : Int} [IsP p] (m : Fp p) : Prop where
 mon : Monic m
 two : 2 ≤ m.len
 five : m.len ≤ 5
 irr : Irr m
def IsFld (p : Int) (l : List Int) : Prop := ∃ (_ : IsP p) (m : Fp p), l = pad (row m) ∧ Fld m
theorem isFld_bad {p : Int} {l : List Int} (h : isP p = true → isPl p l = false) : ¬ IsFld p l := by
 rintro ⟨ip, m, rfl, hm⟩
 have := h isP_true
 rw [isPl_row] at this
 cases this
theorem isFld_good {p : Int} [IsP p] {a : Fp p} (hl : a.len ≤ 64) : IsFld p (pad (row a)) ↔ Fld a := by
 constructor
 ·rintro ⟨ip, m, e, hm⟩
  have hml := hm.five
  rw [(pad_row_inj hl (by omega)).1 e]
  exact hm
 ·intro h; exact ⟨_, a, rfl, h⟩
open Classical in
def C_isField (O : Oracle) : Prop := ∀ (p : Int) (l : List Int), Bytes l → l.length = 64 → ask O Fl [(D.int .i64 p), (D.arr 64 .leaf (ints .u8 l))] = some (D.bool (decide (IsFld p l)))
open Classical in
theorem c_isField (hT : T Fl = some Zl) (hro : C_rowOf (den T A)) (hip : C_IsPoly (den T A)) (hdg : C_degree (den T A)) (hwi : C_within (den T A)) (hir : K_isIrr (den T A)) : C_isField (den T A) := by
 intro p l hb hl
 have e1 := hro l hb hl
 have e2 := hip p l hb hl
 refine ask_of hT rfl ?_
 rcases arg1 p hb hl with ⟨h1, h2⟩ | ⟨ip, a, hal, rfl⟩
 ·have h3 : (isP p && isPl p l) = false := by
   cases hx : isP p
   ·rfl
   ·rw [h2 hx]; rfl
  rw [decide_eq_false (isFld_bad h2)]
  rw [h3] at e2
  simp -implicitDefEqProofs [Zl, Zl_B, e1, e2]
 ·rw [isP_true, isPl_row] at e2
  rw [trim_pad a hal] at e1
  have e3 := hdg (row a) (by rw [row_length]; omega)
  rw [row_length] at e3
  have e4 := hwi ((a.len : Int) - 1) 1 4
  by_cases h : 2 ≤ a.len ∧ a.len ≤ 5
  ·have h3 : decide ((1 : Int) ≤ (a.len : Int) - 1 ∧ (a.len : Int) - 1 ≤ 4) = true := decide_eq_true (by omega)
   rw [h3] at e4
   have e5 := hir p a (by omega)
   have h6 : decide (IsFld p (pad (row a))) = decide (Monic a ∧ Irr a) := decide_eq_decide.2 ((isFld_good hal).trans ⟨fun g => ⟨g.mon, g.irr⟩, fun g => ⟨g.1, h.1, h.2, g.2⟩⟩)
   rw [h6]
   generalize decide (Monic a ∧ Irr a) = b at *
   generalize pad (row a) = Pa at *
   simp -implicitDefEqProofs [Zl, Zl_B, e1, e2, e3, e4, e5]
  ·have h3 : decide ((1 : Int) ≤ (a.len : Int) - 1 ∧ (a.len : Int) - 1 ≤ 4) = false := decide_eq_false (by omega)
   rw [h3] at e4
   rw [decide_eq_false (fun g => h ⟨((isFld_good hal).1 g).two, ((isFld_good hal).1 g).five⟩)]
   generalize pad (row a) = Pa at *
   simp -implicitDefEqProofs [Zl, Zl_B, e1, e2, e3, e4]
open Classical in
def C_sField (O : Oracle) : Prop := ∀ (p : Int) (l : List Int), Bytes l → l.length = 64 → ask O F3m [(D.int .i64 p), (D.arr 64 .leaf (ints .u8 l))] = some (D.bool (decide (IsFld p l)))
open Classical in
theorem c_sField (hT : T F3m = some Z3m) (his : C_sIs (den T A)) (hmo : K_sMonic (den T A)) (hdg : K_sDeg (den T A)) (hin : C_sIn (den T A)) (hir : K_sIrr (den T A)) : C_sField (den T A) := by
 intro p l hb hl
 have e1 := his p l hb hl
 refine ask_of hT rfl ?_
 rcases arg1 p hb hl with ⟨h1, h2⟩ | ⟨ip, a, hal, rfl⟩
 ·have h3 : (isPl p l && isP p) = false := by
   cases hx : isP p
   ·rw [Bool.and_false]
   ·rw [h2 hx]; rfl
  rw [decide_eq_false (isFld_bad h2)]
  rw [h3] at e1
  simp -implicitDefEqProofs [Z3m, Z3m_B, e1]
 ·rw [isP_true, isPl_row] at e1
  have e2 := hmo p a hal
  have e3 := hdg p a hal
  have e4 := hin ((a.len : Int) - 1) 1 4
  by_cases hM : Monic a
  ·rw [decide_eq_true hM] at e2
   by_cases h : 2 ≤ a.len ∧ a.len ≤ 5
   ·have h3 : decide ((1 : Int) ≤ (a.len : Int) - 1 ∧ (a.len : Int) - 1 ≤ 4) = true := decide_eq_true (by omega)
    rw [h3] at e4
    have e5 := hir p a hM.2 (by omega)
    have h6 : decide (IsFld p (pad (row a))) = decide (Irr a) := decide_eq_decide.2 ((isFld_good hal).trans ⟨fun g => g.irr, fun g => ⟨hM, h.1, h.2, g⟩⟩)
    rw [h6]
    generalize decide (Irr a) = b at *
    generalize pad (row a) = Pa at *
    simp -implicitDefEqProofs [Z3m, Z3m_B, e1, e2, e3, e4, e5]
   ·have h3 : decide ((1 : Int) ≤ (a.len : Int) - 1 ∧ (a.len : Int) - 1 ≤ 4) = false := decide_eq_false (by omega)
    rw [h3] at e4
    rw [decide_eq_false (fun g => h ⟨((isFld_good hal).1 g).two, ((isFld_good hal).1 g).five⟩)]
    generalize pad (row a) = Pa at *
    simp -implicitDefEqProofs [Z3m, Z3m_B, e1, e2, e3, e4]
  ·rw [decide_eq_false hM] at e2
   rw [decide_eq_false (fun g => hM ((isFld_good hal).1 g).mon)]
   generalize pad (row a) = Pa at *
   simp -implicitDefEqProofs [Z3m, Z3m_B, e1, e2]
def IsRes {p : Int} [IsP p] (m : Fp p) (l : List Int) : Prop := ∃ a : Fp p, a.len < m.len ∧ l = pad (row a)
noncomputable abbrev fldD {p : Int} (m : Fp p) : D := .st [.leaf, .leaf] [.int .i64 p, (D.sl .leaf (ints .i64 (row m)))]
open Classical in
def C_isRes (O : Oracle) : Prop := ∀ (p : Int) [IsP p] (m : Fp p) (l : List Int), m.len ≤ 64 → Bytes l → l.length = 64 → ask O Fh [fldD m, (D.arr 64 .leaf (ints .u8 l))] = some (D.bool (decide (IsRes m l)))
theorem isRes_iff {p : Int} [IsP p] {m a : Fp p} (hm : m.len ≤ 64) (ha : a.len ≤ 64) : IsRes m (pad (row a)) ↔ a.len < m.len := by
 constructor
 ·rintro ⟨b, h1, h2⟩
  rw [(pad_row_inj ha (by omega)).1 h2]; exact h1
 ·intro h; exact ⟨a, h, rfl⟩
open Classical in
theorem c_isRes (hT : T Fh = some Zh) (hi : C_isPoly (den T A)) (hro : C_rowOf (den T A)) (hdg : C_degree (den T A)) : C_isRes (den T A) := by
 intro p ip m l hm hb hl
 have e1 := hi p l hb hl
 refine ask_of hT rfl ?_
 by_cases h : isPl p l = true
 ·obtain ⟨a, hal, rfl⟩ := row_of_isPl hb hl h
  rw [h] at e1
  have e2 := hro _ hb hl
  rw [trim_pad a hal] at e2
  have e3 := hdg (row a) (by rw [row_length]; omega)
  rw [row_length] at e3
  have e4 := hdg (row m) (by rw [row_length]; omega)
  rw [row_length] at e4
  have h5 : decide ((a.len : Int) - 1 < (m.len : Int) - 1) = decide (IsRes m (pad (row a))) := decide_eq_decide.2 ((show _ ↔ a.len < m.len by omega).trans (isRes_iff hm hal).symm)
  rw [← h5]
  generalize pad (row a) = Pa at *
  simp -implicitDefEqProofs [Zh, Zh_B, e1, e2, e3, e4]
 ·rw [decide_eq_false (fun ⟨a, h1, h2⟩ => h (by rw [h2]; exact isPl_row))]
  have h' : isPl p l = false := by simpa using h
  rw [h'] at e1
  simp -implicitDefEqProofs [Zh, Zh_B, e1]
open Classical in
def C_sRes (O : Oracle) : Prop := ∀ (p : Int) [IsP p] (m : Fp p) (l : List Int), m.len ≤ 64 → Bytes l → l.length = 64 → ask O F3r [(D.int .i64 p), (D.arr 64 .leaf (ints .u8 (pad (row m)))), (D.arr 64 .leaf (ints .u8 l))] = some (D.bool (decide (IsRes m l)))
open Classical in
theorem c_sRes (hT : T F3r = some Z3r) (hi : C_sIs (den T A)) (hdg : K_sDeg (den T A)) : C_sRes (den T A) := by
 intro p ip m l hm hb hl
 have e1 := hi p l hb hl
 refine ask_of hT rfl ?_
 by_cases h : isPl p l = true
 ·obtain ⟨a, hal, rfl⟩ := row_of_isPl hb hl h
  rw [h, isP_true] at e1
  have e3 := hdg p a hal
  have e4 := hdg p m hm
  have h5 : decide ((a.len : Int) - 1 < (m.len : Int) - 1) = decide (IsRes m (pad (row a))) := decide_eq_decide.2 ((show _ ↔ a.len < m.len by omega).trans (isRes_iff hm hal).symm)
  rw [← h5]
  generalize pad (row a) = Pa at *
  generalize pad (row m) = Pm at *
  simp -implicitDefEqProofs [Z3r, Z3r_B, e1, e3, e4]
 ·rw [decide_eq_false (fun ⟨a, h1, h2⟩ => h (by rw [h2]; exact isPl_row))]
  have h' : (isPl p l && isP p) = false := by
   have : isPl p l = false := by simpa using h
   rw [this]; rfl
  rw [h'] at e1
  generalize pad (row m) = Pm at *
  simp -implicitDefEqProofs [Z3r, Z3r_B, e1]
def K_fieldOf (O : Oracle) : Prop := ∀ (p : Int) [IsP p] (m : Fp p), m.len ≤ 64 → ask O Fb [(D.int .i64 p), (D.arr 64 .leaf (ints .u8 (pad (row m))))] = some (fldD m)
theorem k_fieldOf (hT : T Fb = some Zb) (hro : K_rowOf (den T A)) : K_fieldOf (den T A) := by
 intro p ip m hm
 have e1 := hro p m hm
 refine ask_of hT rfl ?_
 generalize pad (row m) = Pm at *
 simp -implicitDefEqProofs [Zb, Zb_B, e1, List.replicate]
end Pe



namespace Pe
open Go Gq
variable {T : Nat → Option Fn} {A : Oracle}
end Pe

namespace Pe
open Go Gq
variable {T : Nat → Option Fn} {A : Oracle}
section
variable {p : Int} [IsP p]
noncomputable def frIt (m : Fp p) : Nat → Fp p → Fp p
 | 0, a => a
 | k + 1, a => frIt m k (pw a p.toNat % m)
theorem frIt_len {m : Fp p} (hm : m ≠ 0) : ∀ (k : Nat) (a : Fp p), a.len < m.len → (frIt m k a).len < m.len
 | 0, _, h => h
 | k + 1, _a, _ => frIt_len hm k _ (Pol.len_mod _ hm)
theorem frIt_mk {m : Fp p} : ∀ (k : Nat) (a : Fp p), Quo.mk m (frIt m k a) = pw (Quo.mk m a) (p.toNat ^ k)
 | 0, a => by rw [Nat.pow_zero, pw_1]; rfl
 | k + 1, a => by
  show Quo.mk m (frIt m k (pw a p.toNat % m)) = _
  rw [frIt_mk k, Pol.mk_mod, Quo.mk_pow, pw_pw, Nat.pow_succ, Nat.mul_comm]
theorem frIt_mod {m : Fp p} (hm : Fld m) (k : Nat) {a : Fp p} (ha : a.len < m.len) : frIt m (k % (m.len - 1)) a = frIt m k a := by
 have h2 := hm.two
 have h5 := hm.five
 have small : p ^ (m.len - 1) < 1000000000000 := by
  have h1 := ipow_mono (p := p) (by have := IsP.pos (p := p); omega) (show m.len - 1 ≤ 12 by omega)
  have h7 := ppow_le (p := p) (n := 12) (by omega)
  omega
 have hd : ∀ x : Quo m, pw x (p.toNat ^ (m.len - 1)) = x := fermat_all hm.irr (by omega) small
 have hq : ∀ (q : Nat) (x : Quo m), pw x (p.toNat ^ ((m.len - 1) * q)) = x := by
  intro q
  induction q with
  | zero => intro x; rw [Nat.mul_zero, Nat.pow_zero, pw_1]
  | succ q ih => intro x; rw [Nat.mul_succ, Nat.pow_add, ← pw_pw, ih, hd]
 have h0 : m ≠ 0 := hm.mon.2
 have e : Quo.mk m (frIt m (k % (m.len - 1)) a) = Quo.mk m (frIt m k a) := by
  rw [frIt_mk, frIt_mk]
  have hk : k = (m.len - 1) * (k / (m.len - 1)) + k % (m.len - 1) := (Nat.div_add_mod k (m.len - 1)).symm
  have : p.toNat ^ k = p.toNat ^ ((m.len - 1) * (k / (m.len - 1))) * p.toNat ^ (k % (m.len - 1)) := by rw [← Nat.pow_add, ← hk]
  rw [this, ← pw_pw, hq]
 have e2 := (Pol.mod_eq_iff h0).2 e
 rwa [Pol.mod_small (frIt_len h0 _ _ ha), Pol.mod_small (frIt_len h0 _ _ ha)] at e2
noncomputable def invm (m a : Fp p) : Fp p := (Pol.bezout a m).2.1 % m
theorem invm_len {m : Fp p} (hm : m ≠ 0) (a : Fp p) : (invm m a).len < m.len := Pol.len_mod _ hm
theorem invm_ok {m a : Fp p} (hm : Fld m) (ha : a ≠ 0) (hal : a.len < m.len) : Quo.mk m (invm m a) * Quo.mk m a = 1 := by
 have h0 : m ≠ 0 := hm.mon.2
 have e := Pol.bezout_eq (a := a) (b := m) (.inl ha)
 have hg : Pol.gcd a m = 1 := by
  have h1 := Pol.gcd_monic (a := a) (b := m) (.inl ha)
  have h2 := Pol.gcd_dv_left (a := a) (b := m) (.inl ha)
  have h3 := Pol.gcd_dv_right (a := a) (b := m) (.inl ha)
  refine h1.eq_one ?_
  rcases hm.irr.dv h3 with h | h
  ·exact h
  ·have := h2.len ha
   omega
 rw [hg] at e
 unfold invm
 rw [Pol.mk_mod]
 have : Quo.mk m ((Pol.bezout a m).2.1 * a + (Pol.bezout a m).2.2 * m) = Quo.mk m 1 := by rw [e]
 rw [Quo.mk_add, Quo.mk_mul, Quo.mk_mul] at this
 have hm0 : Quo.mk m m = 0 := dv_iff_mk.1 (Dv.refl m)
 rw [hm0, Gq.mul_zero, Gq.add_zero] at this
 exact this
end
theorem prod_len {p : Int} [IsP p] {a b : Fp p} {n : Nat} (ha : a.len ≤ n) (hb : b.len ≤ n) : (a * b).len ≤ 2 * n := by
 by_cases h : a = 0
 ·rw [h, Gq.zero_mul, Pol.len_zero]; omega
 ·by_cases h2 : b = 0
  ·rw [h2, Gq.mul_zero, Pol.len_zero]; omega
  ·have := Pol.len_mul h h2; omega
def K_product (O : Oracle) : Prop := ∀ (p : Int) [IsP p] (m a b : Fp p), m ≠ 0 → m.len ≤ 64 → a.len ≤ 1000 → b.len ≤ 1000 → ask O Fj [fldD m, (D.sl .leaf (ints .i64 (row a))), (D.sl .leaf (ints .i64 (row b)))] = some (D.sl .leaf (ints .i64 (row (a * b % m))))
theorem k_product (hT : T Fj = some Zj) (ht : K_times (den T A)) (hr : K_rest (den T A)) : K_product (den T A) := by
 intro p ip m a b hm hml ha hb
 have e1 := ht p a b (by omega) (by omega)
 have hl := prod_len (n := 1000) ha hb
 have e2 := hr p (a * b) m hm (by omega) (by omega)
 refine ask_of hT rfl ?_
 simp -implicitDefEqProofs [Zj, Zj_B, e1, e2]
theorem l_frob {O : Oracle} (hpw : K_power O) {p : Int} [IsP p] {m : Fp p} (hm : m ≠ 0) (hml : m.len ≤ 64) {n : Nat} (hn : n < 1000000) : ∀ (k i : Nat) (a : Fp p), i + k = n → a.len ≤ 1000 →
 dn O 0 (.loop Ze_L0) ⟨[(1, (.d (.sl .leaf (ints .i64 (row a))))), (3, .ptr 0 []), (11, (.d (.int .i64 n))), (12, (.d (.int .i64 i)))], [.box false (fldD m)]⟩ =
  some (.exit 0, ⟨[(1, (.d (.sl .leaf (ints .i64 (row (frIt m k a)))))), (3, .ptr 0 []), (11, (.d (.int .i64 n))), (12, (.d (.int .i64 n))), (13, (.d (.bool false)))], [.box false (fldD m)]⟩)
 | 0, i, a, hi, ha => by
  obtain rfl : i = n := by omega
  exact dn_stop (by simp -implicitDefEqProofs [Ze_L0, dn_cond, frIt])
 | k + 1, i, a, hi, ha => by
  have hp := IsP.pos (p := p)
  have hp7 := IsP.le (p := p)
  have hlt : i < n := by omega
  have w4 : IntKind.i64.wrap ((i : Int) + 1) = ((i + 1 : Nat) : Int) := (w64 (x := (i : Int) + 1) (by omega)).trans (by omega)
  have e1 := hpw p a p m hm (by omega) (by omega) (by omega) (by omega)
  have hl := Pol.len_mod (pw a p.toNat) hm
  refine dn_round ?_ (l_frob hpw hm hml hn k (i + 1) (pw a p.toNat % m) (by omega) (by omega))
  simp -implicitDefEqProofs [Ze_L0, dn_cond, hlt, e1, w4]
def K_frob (O : Oracle) : Prop := ∀ (p : Int) [IsP p] (m a : Fp p) (k : Nat), 2 ≤ m.len → m.len ≤ 64 → a.len ≤ 1000 → k < 1000000 → ask O Fe [fldD m, (D.sl .leaf (ints .i64 (row a))), (D.int .i64 k)] = some (D.sl .leaf (ints .i64 (row (frIt m (k % (m.len - 1)) a))))
theorem k_frob (hT : T Fe = some Ze) (hpw : K_power (den T A)) (hdg : C_degree (den T A)) : K_frob (den T A) := by
 intro p ip m a k h2 hml ha hk
 have hm : m ≠ 0 := fun h => by rw [h, Pol.len_zero] at h2; omega
 have e1 := hdg (row m) (by rw [row_length]; omega)
 rw [row_length, show ((m.len : Int) - 1) = ((m.len - 1 : Nat) : Int) by omega] at e1
 have hlt := Nat.mod_lt k (show 0 < m.len - 1 by omega)
 have e2 := l_frob (O := den T A) hpw hm hml (n := k % (m.len - 1)) (by omega) (k % (m.len - 1)) 0 a (Nat.zero_add _) ha
 have e00 : ((0 : Nat) : Int) = 0 := rfl
 rw [e00] at e2
 have w1 : (k : Int).tmod ((m.len - 1 : Nat) : Int) = ((k % (m.len - 1) : Nat) : Int) := by rw [Int.tmod_eq_emod_of_nonneg (by omega)]; rfl
 have h0 : ((m.len - 1 : Nat) : Int) ≠ 0 := by omega
 refine ask_of hT rfl ?_
 generalize row (frIt m (k % (m.len - 1)) a) = R at *
 generalize ((k % (m.len - 1) : Nat) : Int) = n1 at *
 generalize ((m.len - 1 : Nat) : Int) = m1 at *
 simp -implicitDefEqProofs [Ze, Ze_B, e1, e2, w1, h0]
def K_inverted (O : Oracle) : Prop := ∀ (p : Int) [IsP p] (m a : Fp p), m ≠ 0 → m.len ≤ 64 → a.len ≤ 1000 → ask O Fg [fldD m, (D.sl .leaf (ints .i64 (row a)))] = some (D.sl .leaf (ints .i64 (row (invm m a))))
theorem bez_small {p : Int} [IsP p] {a b : Fp p} (h : a ≠ 0 ∨ b ≠ 0) (_ha : a.len ≤ 1000) (hb : b.len ≤ 1000) : (Pol.bezout a b).2.1.len < 5000 := by
 obtain ⟨x, y, hi, _, _⟩ := Pol.bz_spec b.len a b 1 0 0 1 (Nat.le_refl _) (Pol.BzI.init h)
 have h1 := hi.lu
 rw [Pol.len_zero] at h1
 have : (Pol.bezout a b).2.1.len ≤ (Pol.bz b.len a b 1 0 0 1).2.1.len := Pol.len_le (Pol.lt_Cmul _ (Pol.lt_len _))
 omega
theorem k_inverted (hT : T Fg = some Zg) (hb : K_bezout (den T A)) (hr : K_rest (den T A)) : K_inverted (den T A) := by
 intro p ip m a hm hml ha
 have e1 := hb p a m (.inr hm) (by omega) (by omega)
 have hl := bez_small (a := a) (b := m) (.inr hm) ha (by omega)
 have e2 := hr p (Pol.bezout a m).2.1 m hm hl (by omega)
 have e3 : (Pol.bezout a m).2.1 % m = invm m a := rfl
 rw [e3] at e2
 refine ask_of hT rfl ?_
 generalize row (invm m a) = R at *
 generalize row (Pol.bezout a m).1 = R1 at *
 generalize row (Pol.bezout a m).2.1 = R2 at *
 generalize row (Pol.bezout a m).2.2 = R3 at *
 simp -implicitDefEqProofs [Zg, Zg_B, e1, e2]
theorem bez_64 {p : Int} [IsP p] {a b : Fp p} (h : a ≠ 0) (hb : b.len ≤ 63) : (Pol.bezout a b).2.1.len ≤ 64 := by
 obtain ⟨x, y, hi, _, _⟩ := Pol.bz_spec b.len a b 1 0 0 1 (Nat.le_refl _) (Pol.BzI.init (.inl h))
 have h1 := hi.lu
 rw [Pol.len_zero] at h1
 have : (Pol.bezout a b).2.1.len ≤ (Pol.bz b.len a b 1 0 0 1).2.1.len := Pol.len_le (Pol.lt_Cmul _ (Pol.lt_len _))
 omega
end Pe

namespace Pe
open Go Gq
variable {T : Nat → Option Fn} {A : Oracle}
section
variable {p : Int} [IsP p]
theorem one_ne_quo {m : Fp p} (h2 : 2 ≤ m.len) : (1 : Quo m) ≠ 0 := fun h => by
 have : Dv m 1 := dv_iff_mk.2 h
 have := this.len Pol.one_ne
 rw [Pol.len_one] at this
 omega
theorem pw_res {m c : Fp p} (hm : Fld m) (hc : c ≠ 0) (hcl : c.len < m.len) (k : Nat) : pw c k % m ≠ 0 ∧ (pw c k % m).len < m.len := by
 have h0 : m ≠ 0 := hm.mon.2
 refine ⟨fun h => ?_, Pol.len_mod _ h0⟩
 have h1 : Quo.mk m (pw c k) = 0 := by rw [← Pol.mk_mod, h]; rfl
 rw [Quo.mk_pow] at h1
 have h2 := invm_ok hm hc hcl
 have h3 : pw (Quo.mk m (invm m c) * Quo.mk m c) k = 0 := by rw [pw_mul, h1, Gq.mul_zero]
 rw [h2, pw_one] at h3
 exact one_ne_quo hm.two h3
end
end Pe


namespace Pe
open Go Gq
variable {T : Nat → Option Fn} {A : Oracle}
def C_toPoly (O : Oracle) : Prop := ∀ (l : List Int), Bytes l → l.length = 64 → ask O F1w [(D.arr 64 .leaf (ints .u8 l))] = some (D.arr 64 .leaf (ints .u8 l))
theorem l_toPoly {O : Oracle} {l : List Int} (hb : Bytes l) (hl : l.length = 64) {b1 : Blk} : ∀ (m i : Nat) (q : List Int), i + m = 64 → q.length = 64 → q.take i = l.take i →
 dn O 0 (.loop Z1w_L0) ⟨[(1, .ptr 0 []), (2, .ptr 1 []), (3, .ptr 2 []), (4, (.d (.int .i64 i)))], [.box false (D.arr 64 .leaf (ints .u8 l)), b1, .box false (D.arr 64 .leaf (ints .u8 q))]⟩ =
  some (.exit 0, ⟨[(1, .ptr 0 []), (2, .ptr 1 []), (3, .ptr 2 []), (4, (.d (.int .i64 64))), (6, (.d (.bool false)))], [.box false (D.arr 64 .leaf (ints .u8 l)), b1, .box false (D.arr 64 .leaf (ints .u8 l))]⟩)
 | 0, i, q, hi, hq, ht => by
  obtain rfl : i = 64 := by omega
  rw [List.take_of_length_le (by omega), List.take_of_length_le (by omega)] at ht
  subst ht
  exact dn_stop (by simp -implicitDefEqProofs [Z1w_L0, dn_cond])
 | m + 1, i, q, hi, hq, ht => by
  have hlt : i < 64 := by omega
  have hlti : (i : Int) < 64 := by omega
  have hlt' : i < l.length := by omega
  have hltq : i < q.length := by omega
  have hx : l[i] = cf l i := (cf_lt hlt').symm
  have w8' : IntKind.u8.wrap (cf l i) = cf l i := by rw [← hx]; exact w8 (hb _ (List.getElem_mem _))
  have w4 : IntKind.i64.wrap ((i : Int) + 1) = ((i + 1 : Nat) : Int) := (w64 (x := (i : Int) + 1) (by omega)).trans (by omega)
  have hs : ints .u8 (q.set i (cf l i)) = (ints .u8 q).set i (D.int .u8 (cf l i)) := by unfold ints; rw [List.map_set]
  refine dn_round ?_ (l_toPoly hb hl m (i + 1) (q.set i (cf l i)) (by omega) (by rw [List.length_set]; exact hq) (by
   rw [List.take_succ_eq_append_getElem hlt', List.take_succ_eq_append_getElem (by rw [List.length_set]; exact hltq), List.getElem_set_self, List.take_set, List.set_eq_of_length_le (by rw [List.length_take]; omega), ht, hx]))
  rw [hs]
  simp -implicitDefEqProofs [Z1w_L0, dn_cond, hlt, hlti, hx, hl, hq, w4]
theorem c_toPoly (hT : T F1w = some Z1w) : C_toPoly (den T A) := by
 intro l hb hl
 have e := l_toPoly (O := den T A) hb hl (b1 := .box false (.arr 64 .leaf (ints .u8 (pad [])))) 64 0 (List.replicate 64 0) rfl rfl (by simp)
 have e00 : ((0 : Nat) : Int) = 0 := rfl
 rw [e00] at e
 have hz : List.replicate 64 (0 : Int) = pad [] := rfl
 rw [hz] at e
 refine ask_of hT rfl ?_
 simp -implicitDefEqProofs [Z1w, Z1w_B, e]
end Pe

namespace Pe
open Go Gq
variable {T : Nat → Option Fn} {A : Oracle}
theorem l_eqPoly {O : Oracle} {l : List Int} (hl : l.length = 64) : ∀ (k i : Nat), i + k = 64 →
 dn O 0 (.loop Z1s_L0) ⟨[(2, .ptr 0 []), (3, .ptr 1 []), (5, (.d (.int .i64 i)))], [.box false (D.arr 64 .leaf (ints .u8 l)), .box false (D.arr 64 .leaf (ints .u8 l))]⟩ = some (.exit 0, ⟨[(2, .ptr 0 []), (3, .ptr 1 []), (5, (.d (.int .i64 64))), (7, (.d (.bool false)))], [.box false (D.arr 64 .leaf (ints .u8 l)), .box false (D.arr 64 .leaf (ints .u8 l))]⟩)
 | 0, i, hi => by
  obtain rfl : i = 64 := by omega
  exact dn_stop (by simp -implicitDefEqProofs [Z1s_L0, dn_cond])
 | k + 1, i, hi => by
  have hlt : i < 64 := by omega
  have hlti : (i : Int) < 64 := by omega
  have hlt' : i < l.length := by omega
  have hx : l[i] = cf l i := (cf_lt hlt').symm
  have w4 : IntKind.i64.wrap ((i : Int) + 1) = ((i + 1 : Nat) : Int) := (w64 (x := (i : Int) + 1) (by omega)).trans (by omega)
  refine dn_round ?_ (l_eqPoly hl k (i + 1) (by omega))
  simp -implicitDefEqProofs [Z1s_L0, dn_cond, hlt, hlti, hl, hx, w4]
def C_eqPoly (O : Oracle) : Prop := ∀ l : List Int, l.length = 64 → ask O F1s [(D.arr 64 .leaf (ints .u8 l)), (D.arr 64 .leaf (ints .u8 l))] = some (D.bool true)
theorem c_eqPoly (hT : T F1s = some Z1s) : C_eqPoly (den T A) := by
 intro l hl
 have e := l_eqPoly (O := den T A) hl 64 0 rfl
 have e00 : ((0 : Nat) : Int) = 0 := rfl
 rw [e00] at e
 refine ask_of hT rfl ?_
 simp -implicitDefEqProofs [Z1s, Z1s_B, e, List.replicate]
end Pe

namespace Pe
open Go Gq
variable {T : Nat → Option Fn} {A : Oracle}
noncomputable abbrev skD {p : Int} (a : List (Fp p)) : D := .sl .leaf (a.map fun c => (D.sl .leaf (ints .i64 (row c))))
section
variable {p : Int} [IsP p]
noncomputable def svI (m x : Fp p) : Nat → List (Fp p) → Fp p → Fp p
 | _, [], out => out
 | i, c :: cs, out => svI m x (i + 1) cs (out + c * frIt m (i % (m.len - 1)) x % m)
theorem svI_len {m x : Fp p} (hm : m ≠ 0) : ∀ (i : Nat) (a : List (Fp p)) (out : Fp p), out.len < m.len → (svI m x i a out).len < m.len
 | _, [], _, h => h
 | i, c :: cs, out, h => svI_len hm (i + 1) cs _ (by
  have h1 := Pol.len_mod (c * frIt m (i % (m.len - 1)) x) hm
  have := Pol.len_add_le (a := out) (b := c * frIt m (i % (m.len - 1)) x % m) (n := m.len - 1) (by omega) (by omega)
  omega)
end
section
variable {p : Int}
end
theorem l_value {O : Oracle} (hfr : K_frob O) (hpr : K_product O) (hco : K_combine2 O) {p : Int} [IsP p] {m x : Fp p} {a : List (Fp p)} (h2 : 2 ≤ m.len) (hml : m.len ≤ 64) (hx : x.len ≤ 1000) (ha : a.length < 100000) (hal : ∀ c ∈ a, c.len ≤ 1000) : ∀ (k i : Nat) (out : Fp p), i + k = a.length → out.len ≤ 64 →
 dn O 0 (.loop Zk_L0) ⟨[(2, (.d (.sl .leaf (ints .i64 (row x))))), (3, .ptr 0 []), (7, (.d (.sl .leaf (ints .i64 (row out))))), (10, .d (skD a)), (11, (.d (.int .i64 a.length))), (12, (.d (.int .i64 i)))], [.box false (fldD m)]⟩ =
  some (.exit 0, ⟨[(2, (.d (.sl .leaf (ints .i64 (row x))))), (3, .ptr 0 []), (7, (.d (.sl .leaf (ints .i64 (row (svI m x i (a.drop i) out)))))), (10, .d (skD a)), (11, (.d (.int .i64 a.length))), (12, (.d (.int .i64 a.length))), (13, (.d (.bool false)))], [.box false (fldD m)]⟩)
 | 0, i, out, hi, ho => by
  obtain rfl : i = a.length := by omega
  rw [List.drop_length]
  show _ = some (_, (⟨[_, _, (7, (.d (.sl .leaf (ints .i64 (row out))))), _, _, _, _], _⟩ : St))
  exact dn_stop (by simp -implicitDefEqProofs [Zk_L0, dn_cond])
 | k + 1, i, out, hi, ho => by
  have hm : m ≠ 0 := fun h => by rw [h, Pol.len_zero] at h2; omega
  have hlt : i < a.length := by omega
  have hci := hal _ (List.getElem_mem hlt)
  have w4 : IntKind.i64.wrap ((i : Int) + 1) = ((i + 1 : Nat) : Int) := (w64 (x := (i : Int) + 1) (by omega)).trans (by omega)
  have e1 := hfr p m x i h2 hml hx (by omega)
  have hfl : (frIt m (i % (m.len - 1)) x).len ≤ 1000 := by
   by_cases hz : i % (m.len - 1) = 0
   ·rw [hz]; exact hx
   ·obtain ⟨j, hj⟩ := Nat.exists_eq_succ_of_ne_zero hz
    rw [hj]
    have := frIt_len hm j (pw x p.toNat % m) (Pol.len_mod _ hm)
    show (frIt m j (pw x p.toNat % m)).len ≤ 1000
    omega
  have e2 := hpr p m a[i] (frIt m (i % (m.len - 1)) x) hm hml hci hfl
  have hl := Pol.len_mod (a[i] * frIt m (i % (m.len - 1)) x) hm
  have e3 := hco p out (a[i] * frIt m (i % (m.len - 1)) x % m) (by omega) (by omega)
  have hl2 := Pol.len_add_le (a := out) (b := a[i] * frIt m (i % (m.len - 1)) x % m) (n := 64) ho (by omega)
  have ih := l_value hfr hpr hco h2 hml hx ha hal k (i + 1) (out + a[i] * frIt m (i % (m.len - 1)) x % m) (by omega) hl2
  have hsv : svI m x i (a.drop i) out = svI m x (i + 1) (a.drop (i + 1)) (out + a[i] * frIt m (i % (m.len - 1)) x % m) := by
   rw [List.drop_eq_getElem_cons hlt]; rfl
  rw [hsv]
  refine dn_round ?_ ih
  generalize row (out + a[i] * frIt m (i % (m.len - 1)) x % m) = R1 at *
  generalize row (a[i] * frIt m (i % (m.len - 1)) x % m) = R2 at *
  generalize row (frIt m (i % (m.len - 1)) x) = R3 at *
  simp -implicitDefEqProofs [Zk_L0, dn_cond, hlt, e1, e2, e3, w4]
def K_value (O : Oracle) : Prop := ∀ (p : Int) [IsP p] (m x : Fp p) (a : List (Fp p)), 2 ≤ m.len → m.len ≤ 64 → x.len ≤ 1000 → a.length < 100000 → (∀ c ∈ a, c.len ≤ 1000) → ask O Fk [fldD m, skD a, (D.sl .leaf (ints .i64 (row x)))] = some (D.sl .leaf (ints .i64 (row (svI m x 0 a 0))))
theorem k_value (hT : T Fk = some Zk) (hfr : K_frob (den T A)) (hpr : K_product (den T A)) (hco : K_combine2 (den T A)) : K_value (den T A) := by
 intro p ip m x a h2 hml hx ha hal
 have e := l_value (O := den T A) hfr hpr hco h2 hml hx ha hal a.length 0 0 (Nat.zero_add _) (by rw [Pol.len_zero]; omega)
 have e00 : ((0 : Nat) : Int) = 0 := rfl
 rw [e00, row_zero, ints_nil, List.drop_zero] at e
 refine ask_of hT rfl ?_
 generalize row (svI m x 0 a 0) = R at *
 simp -implicitDefEqProofs [Zk, Zk_B, e]
end Pe

namespace Pe
open Go Gq
variable {T : Nat → Option Fn} {A : Oracle}
abbrev skwD (ls : List (List Int)) : D := .arr 8 (.arr 64 .leaf) (ls.map arr8)
theorem fn_isRes {p : Int} [IsP p] {m : Fp p} {ls : List (List Int)} (hm : m.len ≤ 64) (h : Arrs ls) (hi : C_isRes (den T A)) : ∃ P : D → Bool, (∀ l ∈ ls, P (arr8 l) = true ↔ IsRes m l) ∧ FnBool (den T A) Fh [fldD m] [] (ls.map arr8) P := by
 classical
 refine ⟨fun x => decide (IsRes m x.nums), fun l hl => by show decide (IsRes m (arr8 l).nums) = true ↔ _; rw [nums_arr8]; simp, fun x hx => by simp at hx; subst hx; rfl, fun x hx => by simp at hx, fun x hx => ?_, fun x hx => ?_⟩
 ·obtain ⟨n, _, rfl⟩ := List.mem_map.1 hx; rfl
 ·obtain ⟨l, hl, rfl⟩ := List.mem_map.1 hx
  have e := hi p m l hm (h l hl).2 (h l hl).1
  show ask (den T A) _ _ = some (.bool (decide (IsRes m (arr8 l).nums)))
  rw [nums_arr8]
  exact e
def IsSk {p : Int} [IsP p] (m : Fp p) (ls : List (List Int)) : Prop := ∀ l ∈ ls, IsRes m l
open Classical in
noncomputable def codeRs (p : Int) (l : List Int) (ls : List (List Int)) : Int := if ∃ (_ : IsP p) (m : Fp p), l = pad (row m) ∧ Fld m ∧ ∀ x ∈ ls, IsRes m x then 0 else 1
theorem fld_code {p : Int} [IsP p] {m : Fp p} (hm : Fld m) {Q : ∀ (_ : IsP p), Fp p → Prop} : (∃ (ip : IsP p) (m' : Fp p), pad (row m) = pad (row m') ∧ Fld m' ∧ Q ip m') ↔ Q inferInstance m := by
 have h5 := hm.five
 constructor
 ·rintro ⟨ip, m', e, h1, h2⟩
  have h6 := h1.five
  obtain rfl := (pad_row_inj (by omega) (by omega)).1 e
  exact h2
 ·intro h; exact ⟨_, m, rfl, hm, h⟩
def C_resCode (O : Oracle) (F : Nat) : Prop := ∀ (p : Int) (l : List Int) (ls : List (List Int)), Bytes l → l.length = 64 → Arrs ls → ls.length < 2000000 → ask O F [(D.int .i64 p), (D.arr 64 .leaf (ints .u8 l)), .sl (.arr 64 .leaf) (ls.map arr8)] = some (D.int .i64 (codeRs p l ls))
open Classical in
theorem c_resCode (hT : T F1d = some Z1d) (hif : C_isField (den T A)) (hfo : K_fieldOf (den T A)) (his : C_isRes (den T A)) (ha : C_allOf (den T A) F8 (.arr 64 .leaf)) : C_resCode (den T A) F1d := by
 intro p l ls hb hl h hlen
 have e1 := hif p l hb hl
 refine ask_of hT rfl ?_
 unfold codeRs
 by_cases hf : IsFld p l
 ·rw [decide_eq_true hf] at e1
  obtain ⟨ip, m, rfl, hm⟩ := hf
  have h5 := hm.five
  have e2 := hfo p m (by omega)
  obtain ⟨P, hP, hF⟩ := fn_isRes (m := m) (by omega) h his
  have e3 := ha _ _ _ _ _ hF (fun x hx => by obtain ⟨n, _, rfl⟩ := List.mem_map.1 hx; rfl) (by rw [List.length_map]; exact hlen)
  have hall : (ls.map arr8).all P = true ↔ ∀ x ∈ ls, IsRes m x := by
   rw [List.all_eq_true]
   constructor
   ·intro h2 l hl; exact (hP l hl).1 (h2 _ (List.mem_map_of_mem hl))
   ·intro h2 x hx
    obtain ⟨l, hl, rfl⟩ := List.mem_map.1 hx
    exact (hP l hl).2 (h2 l hl)
  have hc := (fld_code hm (Q := fun ip m' => ∀ x ∈ ls, @IsRes p ip m' x)).trans hall.symm
  cases hb1 : (ls.map arr8).all P
  ·rw [hb1] at e3 hc
   rw [if_neg (fun h => by have := hc.1 h; cases this)]
   generalize pad (row m) = Pm at *
   generalize ls.map arr8 = LD at *
   simp -implicitDefEqProofs [Z1d, Z1d_B, dn_cond, e1, e2, e3]
  ·rw [hb1] at e3 hc
   rw [if_pos (hc.2 rfl)]
   generalize pad (row m) = Pm at *
   generalize ls.map arr8 = LD at *
   simp -implicitDefEqProofs [Z1d, Z1d_B, dn_cond, e1, e2, e3]
 ·rw [decide_eq_false hf] at e1
  rw [if_neg (fun ⟨ip, m, e, hm, _⟩ => hf ⟨ip, m, e, hm⟩)]
  generalize ls.map arr8 = LD at *
  simp -implicitDefEqProofs [Z1d, Z1d_B, dn_cond, e1]
end Pe

namespace Pe
open Go Gq
variable {T : Nat → Option Fn} {A : Oracle}
theorem isSk_cons {p : Int} [IsP p] {m : Fp p} {l : List Int} {ls : List (List Int)} : IsSk m (l :: ls) ↔ IsRes m l ∧ IsSk m ls := by simp [IsSk]
theorem isSk_nil {p : Int} [IsP p] (m : Fp p) : IsSk m [] := fun _ h => by cases h
end Pe

namespace Pe
open Go Gq
variable {T : Nat → Option Fn} {A : Oracle}
theorem l_sFrob {O : Oracle} (hpw : K_sPowMod O) {p : Int} [IsP p] {m : Fp p} {z : List Int} (hm : m ≠ 0) (hml : m.len ≤ 64) : ∀ (k : Nat) (a : Fp p), k < 1000000 → a.len ≤ 64 →
 dn O 0 (.loop Z3n_L0) ⟨[(0, (.d (.int .i64 p))), (5, .ptr 0 []), (7, .ptr 1 []), (8, .ptr 2 []), (9, (.d (.int .i64 k)))], [.box false (D.arr 64 .leaf (ints .u8 (pad (row a)))), .box false (D.arr 64 .leaf (ints .u8 (pad (row m)))), .box false (D.arr 64 .leaf (ints .u8 z))]⟩ =
  some (.exit 0, ⟨[(0, (.d (.int .i64 p))), (5, .ptr 0 []), (7, .ptr 1 []), (8, .ptr 2 []), (9, (.d (.int .i64 0))), (15, (.d (.bool false)))], [.box false (D.arr 64 .leaf (ints .u8 (pad (row (frIt m k a))))), .box false (D.arr 64 .leaf (ints .u8 (pad (row m)))), .box false (D.arr 64 .leaf (ints .u8 z))]⟩)
 | 0, a, hk, ha => by
  refine dn_stop ?_
  show _ = some (_, (⟨_, [.box false (D.arr 64 .leaf (ints .u8 (pad (row a)))), _, _]⟩ : St))
  generalize pad (row a) = Pa at *
  generalize pad (row m) = Pm at *
  simp -implicitDefEqProofs [Z3n_L0, dn_cond]
 | k + 1, a, hk, ha => by
  have hp := IsP.pos (p := p)
  have hp7 := IsP.le (p := p)
  have w4 : IntKind.i64.wrap (((k + 1 : Nat) : Int) - 1) = (k : Int) := (w64 (x := ((k + 1 : Nat) : Int) - 1) (by omega)).trans (by omega)
  have hlt : (0 : Int) < ((k + 1 : Nat) : Int) := by omega
  have e1 := hpw p a p m hm ha hml (by omega) (by omega)
  have hl := Pol.len_mod (pw a p.toNat) hm
  refine dn_round ?_ (l_sFrob hpw hm hml k (pw a p.toNat % m) (by omega) (by omega))
  generalize ((k + 1 : Nat) : Int) = k1 at *
  generalize pad (row (pw a p.toNat % m)) = R at *
  generalize pad (row a) = Pa at *
  generalize pad (row m) = Pm at *
  simp -implicitDefEqProofs [Z3n_L0, dn_cond, hlt, e1, w4]
def K_sFrob (O : Oracle) : Prop := ∀ (p : Int) [IsP p] (m a : Fp p) (k : Nat), 2 ≤ m.len → m.len ≤ 64 → a.len ≤ 64 → k < 1000000 → ask O F3n [(D.int .i64 p), (D.arr 64 .leaf (ints .u8 (pad (row a)))), (D.int .i64 k), (D.arr 64 .leaf (ints .u8 (pad (row m))))] = some (D.arr 64 .leaf (ints .u8 (pad (row (frIt m (k % (m.len - 1)) a)))))
theorem k_sFrob (hT : T F3n = some Z3n) (hpw : K_sPowMod (den T A)) (hdg : K_sDeg (den T A)) : K_sFrob (den T A) := by
 intro p ip m a k h2 hml ha hk
 have hm : m ≠ 0 := fun h => by rw [h, Pol.len_zero] at h2; omega
 have e1 := hdg p m hml
 rw [show ((m.len : Int) - 1) = ((m.len - 1 : Nat) : Int) by omega] at e1
 have hlt := Nat.mod_lt k (show 0 < m.len - 1 by omega)
 have e2 := l_sFrob (O := den T A) (z := pad []) hpw hm hml (k % (m.len - 1)) a (by omega) ha
 have w1 : (k : Int).tmod ((m.len - 1 : Nat) : Int) = ((k % (m.len - 1) : Nat) : Int) := by rw [Int.tmod_eq_emod_of_nonneg (by omega)]; rfl
 have h0 : ((m.len - 1 : Nat) : Int) ≠ 0 := by omega
 refine ask_of hT rfl ?_
 generalize pad (row (frIt m (k % (m.len - 1)) a)) = R at *
 generalize ((k % (m.len - 1) : Nat) : Int) = n1 at *
 generalize ((m.len - 1 : Nat) : Int) = m1 at *
 generalize pad (row a) = Pa at *
 generalize pad (row m) = Pm at *
 simp -implicitDefEqProofs [Z3n, Z3n_B, e1, e2, w1, h0, List.replicate]
section
variable {p : Int}
open Classical in
noncomputable def stl (S : List (Fp p)) : Nat → Nat
 | 0 => 0
 | n + 1 => if S[n]? = some 0 then stl S n else n + 1
noncomputable def trimS (S : List (Fp p)) : List (Fp p) := S.take (stl S S.length)
theorem stl_le (S : List (Fp p)) : ∀ n, stl S n ≤ n
 | 0 => Nat.le_refl 0
 | n + 1 => by
  unfold stl
  split
  ·have := stl_le S n; omega
  ·omega
theorem stl_zero (S : List (Fp p)) : ∀ n j, stl S n ≤ j → j < n → S[j]? = some 0
 | 0, j, _, h => by omega
 | n + 1, j, h1, h2 => by
  unfold stl at h1
  split at h1
  ·rename_i h0
   by_cases hj : j = n
   ·rw [hj]; exact h0
   ·exact stl_zero S n j h1 (by omega)
  ·omega
end
section
variable {p : Int} [IsP p]
theorem svI_zeros {m x : Fp p} (hm : m ≠ 0) : ∀ (i : Nat) (S : List (Fp p)) (out : Fp p), (∀ a ∈ S, a = 0) → svI m x i S out = out
 | _, [], _, _ => rfl
 | i, c :: cs, out, h => by
  have hc := h c (by simp)
  subst hc
  show svI m x (i + 1) cs (out + 0 * frIt m (i % (m.len - 1)) x % m) = out
  rw [Gq.zero_mul, Pol.zero_mod hm, Gq.add_zero]
  exact svI_zeros hm (i + 1) cs out fun a ha => h a (by simp [ha])
theorem svI_append {m x : Fp p} : ∀ (i : Nat) (S R : List (Fp p)) (out : Fp p), svI m x i (S ++ R) out = svI m x (i + S.length) R (svI m x i S out)
 | _, [], _, _ => rfl
 | i, c :: cs, R, out => by
  show svI m x (i + 1) (cs ++ R) _ = svI m x (i + (cs.length + 1)) R (svI m x (i + 1) cs _)
  rw [svI_append (i + 1) cs R, show i + (cs.length + 1) = i + 1 + cs.length by omega]
theorem svI_trim {m x : Fp p} (hm : m ≠ 0) (S : List (Fp p)) : svI m x 0 (trimS S) 0 = svI m x 0 S 0 := by
 have e := svI_append (m := m) (x := x) 0 (S.take (stl S S.length)) (S.drop (stl S S.length)) 0
 rw [List.take_append_drop] at e
 have hz : ∀ a ∈ S.drop (stl S S.length), a = 0 := by
  intro a ha
  obtain ⟨j, hj, rfl⟩ := List.getElem_of_mem ha
  rw [List.length_drop] at hj
  have := stl_zero S S.length (stl S S.length + j) (by omega) (by omega)
  rw [List.getElem_drop]
  rw [List.getElem?_eq_getElem (by omega)] at this
  exact Option.some.inj this
 rw [e, svI_zeros hm _ _ _ hz]
 rfl
end
theorem l_sktrim {O : Oracle} {p : Int} [IsP p] {S : List (Fp p)} (hS : S.length < 100000) : ∀ n : Nat, n ≤ S.length →
 dn O 0 (.loop Z1o_L0) ⟨[(0, .d (skD S)), (3, (.d (.int .i64 n)))], []⟩ = some (.exit 0, ⟨[(0, .d (skD S)), (3, (.d (.int .i64 (stl S n)))), (16, (.d (.bool false)))], []⟩)
 | 0, _ => dn_stop (by simp -implicitDefEqProofs [Z1o_L0, dn_cond, stl])
 | n + 1, hn => by
  have hlt : n < S.length := by omega
  have w1 : IntKind.i64.wrap (((n + 1 : Nat) : Int) - 1) = (n : Int) := (w64 (x := ((n + 1 : Nat) : Int) - 1) (by omega)).trans (by omega)
  have h0 : (0 : Int) < ((n + 1 : Nat) : Int) := by omega
  unfold stl
  by_cases hz : S[n]? = some 0
  ·rw [if_pos hz]
   rw [List.getElem?_eq_getElem hlt] at hz
   have hz' : S[n] = 0 := Option.some.inj hz
   have hlen : (S[n]).len = 0 := by rw [hz', Pol.len_zero]
   refine dn_round ?_ (l_sktrim hS n (by omega))
   generalize ((n + 1 : Nat) : Int) = n1 at *
   simp -implicitDefEqProofs [Z1o_L0, dn_cond, hlt, w1, h0, hlen]
  ·rw [if_neg hz]
   rw [List.getElem?_eq_getElem hlt] at hz
   have hlen : (S[n]).len ≠ 0 := fun h => hz (by rw [Pol.len_zero_iff.1 h])
   refine dn_stop ?_
   generalize ((n + 1 : Nat) : Int) = n1 at *
   simp -implicitDefEqProofs [Z1o_L0, dn_cond, hlt, w1, h0, hlen]
def K_sktrim (O : Oracle) : Prop := ∀ (p : Int) [IsP p] (S : List (Fp p)), S.length < 100000 → ask O F1o [skD S] = some (skD (trimS S))
theorem k_sktrim (hT : T F1o = some Z1o) : K_sktrim (den T A) := by
 intro p ip S hS
 have e := l_sktrim (O := den T A) hS S.length (Nat.le_refl _)
 have hle := stl_le S S.length
 have hL : (S.map fun c => (D.sl .leaf (ints .i64 (row c)))).length = S.length := List.length_map ..
 have e9 : skD (trimS S) = .sl .leaf ((S.map fun c => (D.sl .leaf (ints .i64 (row c)))).take (stl S S.length)) := by unfold trimS; rw [← List.map_take]
 have e8 : skD S = .sl .leaf (S.map fun c => (D.sl .leaf (ints .i64 (row c)))) := rfl
 rw [e9]
 rw [e8] at e ⊢
 refine ask_of hT rfl ?_
 generalize stl S S.length = n at *
 generalize (S.map fun c => (D.sl .leaf (ints .i64 (row c)))) = LD at *
 generalize S.length = sl at *
 subst hL
 simp -implicitDefEqProofs [Z1o, Z1o_B, e, hle]
theorem sk_of {p : Int} [IsP p] {m : Fp p} : ∀ {ls : List (List Int)}, IsSk m ls → ∃ S : List (Fp p), ls = S.map (fun a => pad (row a)) ∧ ∀ a ∈ S, a.len < m.len
 | [], _ => ⟨[], rfl, fun _ h => by cases h⟩
 | l :: ls, h => by
  obtain ⟨h1, h2⟩ := isSk_cons.1 h
  obtain ⟨a, ha, rfl⟩ := h1
  obtain ⟨S, rfl, hS⟩ := sk_of h2
  exact ⟨a :: S, rfl, by simpa using ⟨ha, hS⟩⟩
noncomputable abbrev skP {p : Int} (S : List (Fp p)) : List (List Int) := S.map fun a => pad (row a)
end Pe

namespace Pe
open Go Gq
variable {T : Nat → Option Fn} {A : Oracle}
theorem l_sSkVal {O : Oracle} (hfr : K_sFrob O) (hmm : K_sMulMod O) (ha : K_sAdd O) {p : Int} [IsP p] {m x : Fp p} {z : List Int} (h2 : 2 ≤ m.len) (hml : m.len ≤ 64) (hx : x.len < m.len) {S : List (Fp p)} (h8 : S.length = 8) (hS : ∀ a ∈ S, a.len < m.len) : ∀ (k i : Nat) (out : Fp p), i + k = 8 → out.len < m.len →
 dn O 0 (.loop Z3u_L0) ⟨[(0, (.d (.int .i64 p))), (5, .ptr 0 []), (6, .ptr 1 []), (7, .ptr 2 []), (8, .ptr 3 []), (9, .ptr 4 []), (10, (.d (.int .i64 i)))], [.box false (D.arr 64 .leaf (ints .u8 (pad (row m)))), .box false (.arr 8 (.arr 64 .leaf) ((skP S).map arr8)), .box false (D.arr 64 .leaf (ints .u8 (pad (row x)))), .box false (D.arr 64 .leaf (ints .u8 z)), .box false (D.arr 64 .leaf (ints .u8 (pad (row out))))]⟩ =
  some (.exit 0, ⟨[(0, (.d (.int .i64 p))), (5, .ptr 0 []), (6, .ptr 1 []), (7, .ptr 2 []), (8, .ptr 3 []), (9, .ptr 4 []), (10, (.d (.int .i64 8))), (13, (.d (.bool false)))], [.box false (D.arr 64 .leaf (ints .u8 (pad (row m)))), .box false (.arr 8 (.arr 64 .leaf) ((skP S).map arr8)), .box false (D.arr 64 .leaf (ints .u8 (pad (row x)))), .box false (D.arr 64 .leaf (ints .u8 z)), .box false (D.arr 64 .leaf (ints .u8 (pad (row (svI m x i (S.drop i) out)))))]⟩)
 | 0, i, out, hi, ho => by
  obtain rfl : i = 8 := by omega
  rw [List.drop_eq_nil_of_le (by omega)]
  refine dn_stop ?_
  show _ = some (_, (⟨_, [_, _, _, _, .box false (D.arr 64 .leaf (ints .u8 (pad (row out))))]⟩ : St))
  generalize (skP S).map arr8 = LD at *
  generalize pad (row out) = Po at *
  generalize pad (row x) = Px at *
  generalize pad (row m) = Pm at *
  simp -implicitDefEqProofs [Z3u_L0, dn_cond]
 | k + 1, i, out, hi, ho => by
  have hm : m ≠ 0 := fun h => by rw [h, Pol.len_zero] at h2; omega
  have hi8 : i < 8 := by omega
  have hi8' : (i : Int) < 8 := by omega
  have hlt : i < S.length := by omega
  have hm1 := List.getElem_mem hlt
  have hsl := hS _ hm1
  have hL : ((skP S).map arr8).length = 8 := by rw [List.length_map, List.length_map]; exact h8
  have hx2 : ∀ h : i < ((skP S).map arr8).length, ((skP S).map arr8)[i]'h = (D.arr 64 .leaf (ints .u8 (pad (row S[i])))) := fun h => by rw [List.getElem_map, List.getElem_map]
  have w4 : IntKind.i64.wrap ((i : Int) + 1) = ((i + 1 : Nat) : Int) := (w64 (x := (i : Int) + 1) (by omega)).trans (by omega)
  have t3 : pad (row S[i]) = pad [] ↔ S[i] = 0 := by
   rw [← row_zero (p := p), pad_row_inj (by omega) (by rw [Pol.len_zero]; omega)]
  have e4 := beq_P (pad_length (row S[i])) (pad_length [])
  have hd : S.drop i = S[i] :: S.drop (i + 1) := List.drop_eq_getElem_cons hlt
  have hsv : svI m x i (S.drop i) out = svI m x (i + 1) (S.drop (i + 1)) (out + S[i] * frIt m (i % (m.len - 1)) x % m) := by rw [hd]; rfl
  rw [hsv]
  by_cases hz : S[i] = 0
  ·rw [decide_eq_true (t3.2 hz)] at e4
   have hsame : out + S[i] * frIt m (i % (m.len - 1)) x % m = out := by rw [hz, Gq.zero_mul, Pol.zero_mod hm, Gq.add_zero]
   rw [hsame]
   refine dn_round ?_ (l_sSkVal hfr hmm ha h2 hml hx h8 hS k (i + 1) out (by omega) ho)
   generalize (skP S).map arr8 = LD at *
   generalize pad (row S[i]) = Pi at *
   generalize pad (row out) = Po at *
   generalize pad (row x) = Px at *
   generalize pad (row m) = Pm at *
   simp -implicitDefEqProofs [Z3u_L0, dn_cond, hi8, hi8', hL, hx2, e4, w4]
  ·rw [decide_eq_false (fun h => hz (t3.1 h))] at e4
   have e1 := hfr p m x i h2 hml (by omega) (by omega)
   have hfl := frIt_len hm (i % (m.len - 1)) x hx
   have e2 := hmm p S[i] (frIt m (i % (m.len - 1)) x) m hm hml (by omega) (by omega)
   have hl := Pol.len_mod (S[i] * frIt m (i % (m.len - 1)) x) hm
   have e3 := ha p 1 out (S[i] * frIt m (i % (m.len - 1)) x % m) (by omega) (by omega) (by omega) (by omega)
   rw [zp_one, Pol.C_one, Gq.one_mul] at e3
   have hl2 := Pol.len_add_le (a := out) (b := S[i] * frIt m (i % (m.len - 1)) x % m) (n := m.len - 1) (by omega) (by omega)
   refine dn_round ?_ (l_sSkVal hfr hmm ha h2 hml hx h8 hS k (i + 1) _ (by omega) (by omega))
   generalize pad (row (out + S[i] * frIt m (i % (m.len - 1)) x % m)) = P1 at *
   generalize pad (row (S[i] * frIt m (i % (m.len - 1)) x % m)) = P2 at *
   generalize pad (row (frIt m (i % (m.len - 1)) x)) = P3 at *
   generalize (skP S).map arr8 = LD at *
   generalize pad (row S[i]) = Pi at *
   generalize pad (row out) = Po at *
   generalize pad (row x) = Px at *
   generalize pad (row m) = Pm at *
   simp -implicitDefEqProofs [Z3u_L0, dn_cond, hi8, hi8', hL, hx2, e1, e2, e3, e4, w4]
def K_sSkVal (O : Oracle) : Prop := ∀ (p : Int) [IsP p] (m x : Fp p) (S : List (Fp p)), 2 ≤ m.len → m.len ≤ 64 → x.len < m.len → S.length = 8 → (∀ a ∈ S, a.len < m.len) → ask O F3u [(D.int .i64 p), (D.arr 64 .leaf (ints .u8 (pad (row m)))), skwD (skP S), (D.arr 64 .leaf (ints .u8 (pad (row x))))] = some (D.arr 64 .leaf (ints .u8 (pad (row (svI m x 0 S 0)))))
theorem k_sSkVal (hT : T F3u = some Z3u) (hfr : K_sFrob (den T A)) (hmm : K_sMulMod (den T A)) (ha : K_sAdd (den T A)) : K_sSkVal (den T A) := by
 intro p ip m x S h2 hml hx h8 hS
 have e := l_sSkVal (O := den T A) (z := pad []) hfr hmm ha h2 hml hx h8 hS 8 0 0 rfl (by rw [Pol.len_zero]; omega)
 have e00 : ((0 : Nat) : Int) = 0 := rfl
 rw [e00, List.drop_zero, row_zero] at e
 have hsk : skwD (skP S) = .arr 8 (.arr 64 .leaf) ((skP S).map arr8) := rfl
 rw [hsk]
 refine ask_of hT rfl ?_
 generalize (skP S).map arr8 = LD at *
 generalize pad (row (svI m x 0 S 0)) = PR at *
 generalize pad (row x) = Px at *
 generalize pad (row m) = Pm at *
 simp -implicitDefEqProofs [Z3u, Z3u_B, e, List.replicate]
theorem map_polOf {p : Int} {S : List (Fp p)} (hS : ∀ a ∈ S, a.len ≤ 64) : (skP S).map (polOf p) = S := by
 unfold skP
 rw [List.map_map]
 conv => rhs; rw [← List.map_id S]
 exact List.map_congr_left fun a ha => polOf_pad (hS a ha)
theorem flats_arr8 : ∀ ls : List (List Int), D.flats (ls.map arr8) = true
 | [] => rfl
 | l :: ls => by
  show (D.flats (ints .u8 l) && D.flats (ls.map arr8)) = true
  rw [flats_arr8 ls, flats_ints]; rfl
end Pe

namespace Pe
open Go Gq
variable {T : Nat → Option Fn} {A : Oracle}
section
variable {p : Int}
noncomputable def addAt (Q : List (Fp p)) (n : Nat) (v : Fp p) : List (Fp p) := Q.set n ((Q[n]?).getD 0 + v)
theorem addAt_length (Q : List (Fp p)) (n : Nat) (v : Fp p) : (addAt Q n v).length = Q.length := by unfold addAt; rw [List.length_set]
end
section
variable {p : Int} [IsP p]
noncomputable def byIn (m x : Fp p) (i : Nat) : Nat → List (Fp p) → List (Fp p) → List (Fp p)
 | _, [], Q => Q
 | k, y :: ys, Q => byIn m x i (k + 1) ys (addAt Q (i + k) (x * frIt m (i % (m.len - 1)) y % m))
noncomputable def byOut (m : Fp p) (b : List (Fp p)) : Nat → List (Fp p) → List (Fp p) → List (Fp p)
 | _, [], Q => Q
 | i, x :: xs, Q => byOut m b (i + 1) xs (byIn m x i 0 b Q)
theorem byIn_length (m x : Fp p) (i : Nat) : ∀ (k : Nat) (b Q : List (Fp p)), (byIn m x i k b Q).length = Q.length
 | _, [], _ => rfl
 | k, y :: ys, Q => by
  show (byIn m x i (k + 1) ys (addAt Q (i + k) _)).length = _
  rw [byIn_length, addAt_length]
theorem byOut_length (m : Fp p) (b : List (Fp p)) : ∀ (i : Nat) (a Q : List (Fp p)), (byOut m b i a Q).length = Q.length
 | _, [], _ => rfl
 | i, x :: xs, Q => by
  show (byOut m b (i + 1) xs (byIn m x i 0 b Q)).length = _
  rw [byOut_length, byIn_length]
end
theorem l_sSkDeg {O : Oracle} {p : Int} [IsP p] {S : List (Fp p)} (h8 : S.length = 8) (hS : ∀ a ∈ S, a.len ≤ 64) : ∀ n : Nat, n ≤ 8 →
 dn O 0 (.loop Z3l_L0) ⟨[(1, .ptr 0 []), (3, (.d (.int .i64 ((n : Int) - 1))))], [.box false (.arr 8 (.arr 64 .leaf) ((skP S).map arr8))]⟩ =
  some (.exit 0, ⟨[(1, .ptr 0 []), (3, (.d (.int .i64 (((stl S n : Nat) : Int) - 1)))), (12, (.d (.bool false)))], [.box false (.arr 8 (.arr 64 .leaf) ((skP S).map arr8))]⟩)
 | 0, _ => by
  refine dn_stop ?_
  show _ = some (_, (⟨[_, (3, (.d (.int .i64 (((0 : Nat) : Int) - 1)))), _], _⟩ : St))
  generalize (skP S).map arr8 = LD at *
  simp -implicitDefEqProofs [Z3l_L0, dn_cond]
 | n + 1, hn => by
  have hlt : n < S.length := by omega
  have hi8 : n < 8 := by omega
  have hm1 := List.getElem_mem hlt
  have hsl := hS _ hm1
  have hL : ((skP S).map arr8).length = 8 := by rw [List.length_map, List.length_map]; exact h8
  have hx2 : ∀ h : n < ((skP S).map arr8).length, ((skP S).map arr8)[n]'h = (D.arr 64 .leaf (ints .u8 (pad (row S[n])))) := fun h => by rw [List.getElem_map, List.getElem_map]
  have t3 : pad (row S[n]) = pad [] ↔ S[n] = 0 := by
   rw [← row_zero (p := p), pad_row_inj hsl (by rw [Pol.len_zero]; omega)]
  have e4 := beq_P (pad_length (row S[n])) (pad_length [])
  have t0 : ((n + 1 : Nat) : Int) - 1 = (n : Int) := by omega
  have w1 : IntKind.i64.wrap ((n : Int) - 1) = (n : Int) - 1 := w64 (by omega)
  rw [t0]
  unfold stl
  by_cases hz : S[n] = 0
  ·rw [if_pos (by rw [List.getElem?_eq_getElem hlt, hz])]
   rw [decide_eq_true (t3.2 hz)] at e4
   refine dn_round ?_ (l_sSkDeg h8 hS n (by omega))
   generalize (skP S).map arr8 = LD at *
   generalize pad (row S[n]) = Pn at *
   simp -implicitDefEqProofs [Z3l_L0, dn_cond, hi8, hL, hx2, e4, w1]
  ·rw [if_neg (by rw [List.getElem?_eq_getElem hlt]; simpa using hz)]
   rw [decide_eq_false (fun h => hz (t3.1 h))] at e4
   rw [t0]
   refine dn_stop ?_
   generalize (skP S).map arr8 = LD at *
   generalize pad (row S[n]) = Pn at *
   simp -implicitDefEqProofs [Z3l_L0, dn_cond, hi8, hL, hx2, e4]
def K_sSkDeg (O : Oracle) : Prop := ∀ (p : Int) [IsP p] (S : List (Fp p)), S.length = 8 → (∀ a ∈ S, a.len ≤ 64) → ask O F3l [skwD (skP S)] = some (D.int .i64 (((stl S 8 : Nat) : Int) - 1))
theorem k_sSkDeg (hT : T F3l = some Z3l) : K_sSkDeg (den T A) := by
 intro p ip S h8 hS
 have e := l_sSkDeg (O := den T A) h8 hS 8 (Nat.le_refl _)
 have e0 : ((8 : Nat) : Int) - 1 = 7 := rfl
 rw [e0] at e
 have hsk : skwD (skP S) = .arr 8 (.arr 64 .leaf) ((skP S).map arr8) := rfl
 rw [hsk]
 refine ask_of hT rfl ?_
 generalize (skP S).map arr8 = LD at *
 simp -implicitDefEqProofs [Z3l, Z3l_B, e]
def K_skDeg (O : Oracle) : Prop := ∀ (p : Int) [IsP p] (S : List (Fp p)), S.length < 100000 → ask O F1n [skD S] = some (D.int .i64 ((S.length : Int) - 1))
theorem k_skDeg (hT : T F1n = some Z1n) : K_skDeg (den T A) := by
 intro p ip S hS
 have w1 : IntKind.i64.wrap ((S.length : Int) - 1) = (S.length : Int) - 1 := w64 (by omega)
 refine ask_of hT rfl ?_
 simp -implicitDefEqProofs [Z1n, Z1n_B, w1]
noncomputable def pd8 {p : Int} (S : List (Fp p)) : List (Fp p) := S ++ List.replicate (8 - S.length) 0
theorem l_toldSk {O : Oracle} (hpo : K_poly O) {p : Int} [IsP p] {S : List (Fp p)} (h8 : S.length ≤ 8) (hS : ∀ a ∈ S, a.len ≤ 64) {b0 : Blk} : ∀ (k i : Nat), i + k = S.length →
 dn O 0 (.loop ir_impl_toldSkew_L0) ⟨[(2, .ptr 0 []), (4, .ptr 1 []), (11, .d (skD S)), (12, (.d (.int .i64 S.length))), (13, (.d (.int .i64 i)))], [b0, .box false (.arr 8 (.arr 64 .leaf) ((skP (pd8 (S.take i))).map arr8))]⟩ =
  some (.exit 0, ⟨[(2, .ptr 0 []), (4, .ptr 1 []), (11, .d (skD S)), (12, (.d (.int .i64 S.length))), (13, (.d (.int .i64 S.length))), (14, (.d (.bool false)))], [b0, .box false (.arr 8 (.arr 64 .leaf) ((skP (pd8 S)).map arr8))]⟩)
 | 0, i, hi => by
  obtain rfl : i = S.length := by omega
  rw [List.take_length]
  refine dn_stop ?_
  generalize (skP (pd8 S)).map arr8 = LD at *
  simp -implicitDefEqProofs [ir_impl_toldSkew_L0, dn_cond]
 | k + 1, i, hi => by
  have hlt : i < S.length := by omega
  have hi8 : i < 8 := by omega
  have hm1 := List.getElem_mem hlt
  have e1 := hpo p S[i] (hS _ hm1)
  have w4 : IntKind.i64.wrap ((i : Int) + 1) = ((i + 1 : Nat) : Int) := (w64 (x := (i : Int) + 1) (by omega)).trans (by omega)
  have hnew : (skP (pd8 (S.take (i + 1)))).map arr8 = ((skP (pd8 (S.take i))).map arr8).set i (D.arr 64 .leaf (ints .u8 (pad (row S[i])))) := by
   have hp : pd8 (S.take (i + 1)) = (pd8 (S.take i)).set i S[i] := by
    unfold pd8
    have l1 : (S.take i).length = i := by rw [List.length_take]; omega
    have l2 : (S.take (i + 1)).length = i + 1 := by rw [List.length_take]; omega
    rw [l1, l2, List.set_append_right _ _ (by omega), l1, Nat.sub_self, show 8 - i = (8 - (i + 1)) + 1 by omega, List.replicate_succ, List.set_cons_zero, List.take_succ_eq_append_getElem hlt, List.append_assoc]
    rfl
   rw [hp]
   unfold skP
   rw [List.map_set, List.map_set]
  have hL : ((skP (pd8 (S.take i))).map arr8).length = 8 := by
   rw [List.length_map, List.length_map]
   unfold pd8
   rw [List.length_append, List.length_replicate, List.length_take]; omega
  have hsh : ∀ h : i < ((skP (pd8 (S.take i))).map arr8).length, (((skP (pd8 (S.take i))).map arr8)[i]'h).sh.beq (.arr 64 .leaf) = true := fun h => by rw [List.getElem_map]; rfl
  have ih := l_toldSk hpo h8 hS (b0 := b0) k (i + 1) (by omega)
  rw [hnew] at ih
  refine dn_round ?_ ih
  generalize (skP (pd8 (S.take i))).map arr8 = LD at *
  generalize pad (row S[i]) = Pi at *
  simp -implicitDefEqProofs [ir_impl_toldSkew_L0, dn_cond, hlt, hi8, hL, hsh, e1, w4]
noncomputable def toldSkD {p : Int} (S : List (Fp p)) : D := if S.length ≤ 8 then .tup [skwD (skP (pd8 S)), (D.int .i64 0)] else .tup [skwD (skP (pd8 ([] : List (Fp p)))), (D.int .i64 3)]
theorem z8_eq {p : Int} : z8 = (skP (pd8 ([] : List (Fp p)))).map arr8 := by
 unfold pd8 skP
 rw [List.nil_append, List.map_replicate, List.map_replicate, row_zero]
 rfl
def K_toldSk (O : Oracle) : Prop := ∀ (p : Int) [IsP p] (S : List (Fp p)), S.length < 100000 → (∀ a ∈ S, a.len ≤ 64) → ask O F1p [skD S] = some (toldSkD S)
theorem k_toldSk (hT : T F1p = some Z1p) (hdg : K_skDeg (den T A)) (hpo : K_poly (den T A)) : K_toldSk (den T A) := by
 intro p ip S hl hS
 have e1 := hdg p S hl
 unfold toldSkD
 refine ask_of hT rfl ?_
 by_cases h8 : S.length ≤ 8
 ·rw [if_pos h8]
  have e2 := l_toldSk (O := den T A) hpo h8 hS (b0 := .box false (.arr 8 (.arr 64 .leaf) z8)) S.length 0 (Nat.zero_add _)
  have e00 : ((0 : Nat) : Int) = 0 := rfl
  rw [e00, List.take_zero, ← z8_eq] at e2
  have hlt : ¬ ((7 : Int) < (S.length : Int) - 1) := by omega
  have hsk : skwD (skP (pd8 S)) = .arr 8 (.arr 64 .leaf) ((skP (pd8 S)).map arr8) := rfl
  rw [hsk]
  have hsd : skD S = .sl .leaf (S.map fun c => (D.sl .leaf (ints .i64 (row c)))) := rfl
  have hL : (S.map fun c => (D.sl .leaf (ints .i64 (row c)))).length = S.length := List.length_map ..
  rw [hsd] at e1 e2 ⊢
  generalize (skP (pd8 S)).map arr8 = LD at *
  generalize (S.map fun c => (D.sl .leaf (ints .i64 (row c)))) = LR at *
  generalize (S.length : Int) - 1 = m1 at *
  simp -implicitDefEqProofs [Z1p, ir_impl_toldSkew_B, dn_cond, e1, e2, hlt, hL, List.replicate]
 ·rw [if_neg h8]
  have hlt : (7 : Int) < (S.length : Int) - 1 := by omega
  have hsk : skwD (skP (pd8 ([] : List (Fp p)))) = .arr 8 (.arr 64 .leaf) z8 := by rw [z8_eq (p := p)]
  rw [hsk]
  have hsd : skD S = .sl .leaf (S.map fun c => (D.sl .leaf (ints .i64 (row c)))) := rfl
  rw [hsd] at e1 ⊢
  generalize (S.map fun c => (D.sl .leaf (ints .i64 (row c)))) = LR at *
  generalize (S.length : Int) - 1 = m1 at *
  simp -implicitDefEqProofs [Z1p, ir_impl_toldSkew_B, dn_cond, e1, hlt, List.replicate]
end Pe

namespace Pe
open Go Gq
variable {T : Nat → Option Fn} {A : Oracle}
theorem frIt_1000 {p : Int} [IsP p] {m y : Fp p} (hm : m ≠ 0) (hml : m.len ≤ 64) (hy : y.len ≤ 64) (k : Nat) : (frIt m k y).len ≤ 64 := by
 cases k with
 | zero => exact hy
 | succ k =>
  have := frIt_len hm k (pw y p.toNat % m) (Pol.len_mod _ hm)
  show (frIt m k (pw y p.toNat % m)).len ≤ 64
  omega
theorem l_by0 {O : Oracle} (hfr : K_frob O) (hpr : K_product O) (hco : K_combine2 O) {p : Int} [IsP p] {m x : Fp p} {a b : List (Fp p)} (h2 : 2 ≤ m.len) (hml : m.len ≤ 64) (hx : x.len ≤ 64) (hb : ∀ c ∈ b, c.len ≤ 64) {N i : Nat} (hN : N < 100000) (hi : i + b.length ≤ N) {cp : Option Nat} : ∀ (r k : Nat) (Q : List (Fp p)), k + r = b.length → Q.length = N → (∀ c ∈ Q, c.len ≤ 64) →
 (∀ c ∈ byIn m x i k (b.drop k) Q, c.len ≤ 64) ∧
 dn O 0 (.loop Zc_L0) ⟨[(2, .d (skD b)), (3, .ptr 0 []), (7, .sl 1 [] 0 N cp), (8, (.d (.int .i64 i))), (9, (.d (.sl .leaf (ints .i64 (row x))))), (27, .d (skD a)), (28, (.d (.int .i64 a.length))), (29, (.d (.int .i64 i))), (34, .d (skD b)), (35, (.d (.int .i64 b.length))), (36, (.d (.int .i64 k)))], [.box false (fldD m), .sl false .leaf (Q.map fun c => (D.sl .leaf (ints .i64 (row c))))]⟩ =
  some (.exit 2, ⟨[(2, .d (skD b)), (3, .ptr 0 []), (7, .sl 1 [] 0 N cp), (8, (.d (.int .i64 i))), (9, (.d (.sl .leaf (ints .i64 (row x))))), (27, .d (skD a)), (28, (.d (.int .i64 a.length))), (29, (.d (.int .i64 i))), (34, .d (skD b)), (35, (.d (.int .i64 b.length))), (36, (.d (.int .i64 b.length))), (37, (.d (.bool false)))], [.box false (fldD m), .sl false .leaf ((byIn m x i k (b.drop k) Q).map fun c => (D.sl .leaf (ints .i64 (row c))))]⟩)
 | 0, k, Q, hk, hq, hQ => by
  obtain rfl : k = b.length := by omega
  rw [List.drop_length]
  refine ⟨hQ, dn_stop ?_⟩
  show _ = some (_, (⟨_, [_, .sl false .leaf (Q.map fun c => (D.sl .leaf (ints .i64 (row c))))]⟩ : St))
  generalize (Q.map fun c => (D.sl .leaf (ints .i64 (row c)))) = LQ at *
  simp -implicitDefEqProofs [Zc_L0, dn_cond]
 | r + 1, k, Q, hk, hq, hQ => by
  have hm : m ≠ 0 := fun h => by rw [h, Pol.len_zero] at h2; omega
  have hlt : k < b.length := by omega
  have hm1 := List.getElem_mem hlt
  have hbk := hb _ hm1
  have hik : i + k < N := by omega
  have hikQ : i + k < Q.length := by omega
  have hq1 := hQ _ (List.getElem_mem hikQ)
  have w0 : IntKind.i64.wrap ((i : Int) + k) = ((i + k : Nat) : Int) := (w64 (x := (i : Int) + k) (by omega)).trans (by omega)
  have hs0 : (0 : Int) ≤ (i : Int) + k := by omega
  have hs1 : ((i : Int) + k).toNat = i + k := by omega
  have w4 : IntKind.i64.wrap ((k : Int) + 1) = ((k + 1 : Nat) : Int) := (w64 (x := (k : Int) + 1) (by omega)).trans (by omega)
  have e1 := hfr p m b[k] i h2 hml (by omega) (by omega)
  have hfl := frIt_1000 hm hml hbk (i % (m.len - 1))
  have e2 := hpr p m x (frIt m (i % (m.len - 1)) b[k]) hm hml (by omega) (by omega)
  have hl := Pol.len_mod (x * frIt m (i % (m.len - 1)) b[k]) hm
  have e3 := hco p Q[i + k] (x * frIt m (i % (m.len - 1)) b[k] % m) (by omega) (by omega)
  have hl2 := Pol.len_add_le (a := Q[i + k]) (b := x * frIt m (i % (m.len - 1)) b[k] % m) (n := 64) hq1 (by omega)
  have hadd : addAt Q (i + k) (x * frIt m (i % (m.len - 1)) b[k] % m) = Q.set (i + k) (Q[i + k] + x * frIt m (i % (m.len - 1)) b[k] % m) := by
   unfold addAt; rw [List.getElem?_eq_getElem hikQ]; rfl
  have hQ' : ∀ c ∈ addAt Q (i + k) (x * frIt m (i % (m.len - 1)) b[k] % m), c.len ≤ 64 := fun c hc => by
   rw [hadd] at hc
   rcases List.mem_or_eq_of_mem_set hc with h | rfl
   ·exact hQ c h
   ·exact hl2
  obtain ⟨g1, ih⟩ := l_by0 hfr hpr hco (a := a) h2 hml hx hb hN hi (cp := cp) r (k + 1) (addAt Q (i + k) (x * frIt m (i % (m.len - 1)) b[k] % m)) (by omega) (by rw [addAt_length]; exact hq) hQ'
  have hby : byIn m x i k (b.drop k) Q = byIn m x i (k + 1) (b.drop (k + 1)) (addAt Q (i + k) (x * frIt m (i % (m.len - 1)) b[k] % m)) := by
   rw [List.drop_eq_getElem_cons hlt]; rfl
  rw [hby]
  refine ⟨g1, dn_round ?_ ih⟩
  have hset : ((addAt Q (i + k) (x * frIt m (i % (m.len - 1)) b[k] % m)).map fun c => (D.sl .leaf (ints .i64 (row c)))) = (Q.map fun c => (D.sl .leaf (ints .i64 (row c)))).set (i + k) (D.sl .leaf (ints .i64 (row (Q[i + k] + x * frIt m (i % (m.len - 1)) b[k] % m)))) := by
   rw [hadd, List.map_set]
  rw [hset]
  have hLQ : (Q.map fun c => (D.sl .leaf (ints .i64 (row c)))).length = N := by rw [List.length_map]; exact hq
  have hx2 : ∀ h : i + k < (Q.map fun c => (D.sl .leaf (ints .i64 (row c)))).length, (Q.map fun c => (D.sl .leaf (ints .i64 (row c))))[i + k]'h = (D.sl .leaf (ints .i64 (row Q[i + k]))) := fun h => by rw [List.getElem_map]
  generalize row (Q[i + k] + x * frIt m (i % (m.len - 1)) b[k] % m) = R1 at *
  generalize row (x * frIt m (i % (m.len - 1)) b[k] % m) = R2 at *
  generalize row (frIt m (i % (m.len - 1)) b[k]) = R3 at *
  generalize row Q[i + k] = R4 at *
  generalize (Q.map fun c => (D.sl .leaf (ints .i64 (row c)))) = LQ at *
  simp -implicitDefEqProofs [Zc_L0, dn_cond, hlt, hik, hs0, hs1, hLQ, hx2, e1, e2, e3, w0, w4]
theorem l_by1 {O : Oracle} (hfr : K_frob O) (hpr : K_product O) (hco : K_combine2 O) {p : Int} [IsP p] {m : Fp p} {a b : List (Fp p)} (h2 : 2 ≤ m.len) (hml : m.len ≤ 64) (ha : ∀ c ∈ a, c.len ≤ 64) (hb : ∀ c ∈ b, c.len ≤ 64) {N : Nat} (hN : N < 100000) (hab : a.length + b.length ≤ N + 1) (hb1 : 1 ≤ b.length) {cp : Option Nat} : ∀ (r i : Nat) (Q : List (Fp p)), i + r = a.length → Q.length = N → (∀ c ∈ Q, c.len ≤ 64) →
 (∀ c ∈ byOut m b i (a.drop i) Q, c.len ≤ 64) ∧
 dn O 0 (.loop Zc_L1) ⟨[(2, .d (skD b)), (3, .ptr 0 []), (7, .sl 1 [] 0 N cp), (27, .d (skD a)), (28, (.d (.int .i64 a.length))), (29, (.d (.int .i64 i)))], [.box false (fldD m), .sl false .leaf (Q.map fun c => (D.sl .leaf (ints .i64 (row c))))]⟩ =
  some (.exit 0, ⟨[(2, .d (skD b)), (3, .ptr 0 []), (7, .sl 1 [] 0 N cp), (27, .d (skD a)), (28, (.d (.int .i64 a.length))), (29, (.d (.int .i64 a.length))), (30, (.d (.bool false)))], [.box false (fldD m), .sl false .leaf ((byOut m b i (a.drop i) Q).map fun c => (D.sl .leaf (ints .i64 (row c))))]⟩)
 | 0, i, Q, hi, hq, hQ => by
  obtain rfl : i = a.length := by omega
  rw [List.drop_length]
  refine ⟨hQ, dn_stop ?_⟩
  show _ = some (_, (⟨_, [_, .sl false .leaf (Q.map fun c => (D.sl .leaf (ints .i64 (row c))))]⟩ : St))
  generalize (Q.map fun c => (D.sl .leaf (ints .i64 (row c)))) = LQ at *
  simp -implicitDefEqProofs [Zc_L1, dn_cond]
 | r + 1, i, Q, hi, hq, hQ => by
  have hlt : i < a.length := by omega
  have hm1 := List.getElem_mem hlt
  have w4 : IntKind.i64.wrap ((i : Int) + 1) = ((i + 1 : Nat) : Int) := (w64 (x := (i : Int) + 1) (by omega)).trans (by omega)
  obtain ⟨g1, e1⟩ := l_by0 hfr hpr hco (a := a) h2 hml (ha _ hm1) hb hN (i := i) (by omega) (cp := cp) b.length 0 Q (Nat.zero_add _) hq hQ
  have e00 : ((0 : Nat) : Int) = 0 := rfl
  rw [e00, List.drop_zero] at e1
  rw [List.drop_zero] at g1
  obtain ⟨g2, ih⟩ := l_by1 hfr hpr hco h2 hml ha hb hN hab hb1 (cp := cp) r (i + 1) (byIn m a[i] i 0 b Q) (by omega) (by rw [byIn_length]; exact hq) g1
  have hby : byOut m b i (a.drop i) Q = byOut m b (i + 1) (a.drop (i + 1)) (byIn m a[i] i 0 b Q) := by
   rw [List.drop_eq_getElem_cons hlt]; rfl
  rw [hby]
  refine ⟨g2, dn_round ?_ ih⟩
  generalize ((byIn m a[i] i 0 b Q).map fun c => (D.sl .leaf (ints .i64 (row c)))) = LQ2 at *
  generalize (Q.map fun c => (D.sl .leaf (ints .i64 (row c)))) = LQ at *
  simp -implicitDefEqProofs [Zc_L1, dn_cond, hlt, e1, w4]
noncomputable def mulS {p : Int} [IsP p] (m : Fp p) (a b : List (Fp p)) : List (Fp p) := byOut m b 0 a (List.replicate (a.length + b.length - 1) 0)
def K_by (O : Oracle) : Prop := ∀ (p : Int) [IsP p] (m : Fp p) (a b : List (Fp p)), 2 ≤ m.len → m.len ≤ 64 → (∀ c ∈ a, c.len ≤ 64) → (∀ c ∈ b, c.len ≤ 64) → a.length < 10000 → b.length < 10000 →
 ask O Fc [fldD m, skD a, skD b] = some (if a.length = 0 ∨ b.length = 0 then skD ([] : List (Fp p)) else skD (trimS (mulS m a b)))
theorem k_by (hT : T Fc = some Zc) (hfr : K_frob (den T A)) (hpr : K_product (den T A)) (hco : K_combine2 (den T A)) (htr : K_sktrim (den T A)) : K_by (den T A) := by
 intro p ip m a b h2 hml ha hb hal hbl
 have hsa : skD a = .sl .leaf (a.map fun c => (D.sl .leaf (ints .i64 (row c)))) := rfl
 have hsb : skD b = .sl .leaf (b.map fun c => (D.sl .leaf (ints .i64 (row c)))) := rfl
 have hLa : (a.map fun c => (D.sl .leaf (ints .i64 (row c)))).length = a.length := List.length_map ..
 have hLb : (b.map fun c => (D.sl .leaf (ints .i64 (row c)))).length = b.length := List.length_map ..
 by_cases h0 : a.length = 0 ∨ b.length = 0
 ·rw [if_pos h0, hsa, hsb]
  refine ask_of hT rfl ?_
  generalize (a.map fun c => (D.sl .leaf (ints .i64 (row c)))) = LA at *
  generalize (b.map fun c => (D.sl .leaf (ints .i64 (row c)))) = LB at *
  rcases h0 with h0 | h0
  ·rw [h0] at hLa
   simp -implicitDefEqProofs [Zc, Zc_B, dn_cond, hLa, List.replicate]
  ·rw [h0] at hLb
   by_cases h1 : LA.length = 0
   ·simp -implicitDefEqProofs [Zc, Zc_B, dn_cond, h1, List.replicate]
   ·simp -implicitDefEqProofs [Zc, Zc_B, dn_cond, h1, hLb, List.replicate]
 ·rw [if_neg h0]
  have ha1 : 1 ≤ a.length := by omega
  have hb1 : 1 ≤ b.length := by omega
  have hz : ((List.replicate (a.length + b.length - 1) (0 : Fp p)).map fun c => (D.sl .leaf (ints .i64 (row c)))) = List.replicate (a.length + b.length - 1) (.sl .leaf []) := by rw [List.map_replicate, row_zero, ints_nil]
  have hl0 : ∀ c ∈ List.replicate (a.length + b.length - 1) (0 : Fp p), c.len ≤ 64 := fun c hc => by rw [List.eq_of_mem_replicate hc, Pol.len_zero]; omega
  obtain ⟨g1, e1⟩ := l_by1 (O := den T A) hfr hpr hco h2 hml ha hb (N := a.length + b.length - 1) (by omega) (by omega) hb1 (cp := some (a.length + b.length - 1)) a.length 0 (List.replicate (a.length + b.length - 1) 0) (Nat.zero_add _) (List.length_replicate ..) hl0
  have e00 : ((0 : Nat) : Int) = 0 := rfl
  have em : byOut m b 0 (a.drop 0) (List.replicate (a.length + b.length - 1) 0) = mulS m a b := by rw [List.drop_zero]; rfl
  rw [e00, em, hz] at e1
  have hml2 : (mulS m a b).length = a.length + b.length - 1 := by unfold mulS; rw [byOut_length, List.length_replicate]
  have e2 := htr p (mulS m a b) (by omega)
  have hsm : skD (mulS m a b) = .sl .leaf ((mulS m a b).map fun c => (D.sl .leaf (ints .i64 (row c)))) := rfl
  have hLm : ((mulS m a b).map fun c => (D.sl .leaf (ints .i64 (row c)))).length = a.length + b.length - 1 := by rw [List.length_map]; exact hml2
  have ht : ((mulS m a b).map fun c => (D.sl .leaf (ints .i64 (row c)))).take (a.length + b.length - 1) = ((mulS m a b).map fun c => (D.sl .leaf (ints .i64 (row c)))) := List.take_of_length_le (by omega)
  rw [hsm] at e2
  have n1 : ¬ ((a.length : Int) = 0) := by omega
  have n2 : ¬ ((b.length : Int) = 0) := by omega
  have n1' : a.length ≠ 0 := by omega
  have n2' : b.length ≠ 0 := by omega
  have w1 : IntKind.i64.wrap ((a.length : Int) + b.length) = (a.length : Int) + b.length := w64 (by omega)
  have w2 : IntKind.i64.wrap ((a.length : Int) + b.length - 1) = ((a.length + b.length - 1 : Nat) : Int) := (w64 (by omega)).trans (by omega)
  have h24 : (a.length + b.length - 1) * 24 ≤ 1099511627776 := by omega
  generalize skD (trimS (mulS m a b)) = TD at *
  rw [hsa, hsb] at e1 ⊢
  refine ask_of hT rfl ?_
  generalize ((mulS m a b).map fun c => (D.sl .leaf (ints .i64 (row c)))) = LM at *
  generalize (a.map fun c => (D.sl .leaf (ints .i64 (row c)))) = LA at *
  generalize (b.map fun c => (D.sl .leaf (ints .i64 (row c)))) = LB at *
  generalize a.length + b.length - 1 = N at *
  simp -implicitDefEqProofs [Zc, Zc_B, dn_cond, hLa, hLb, n1', n2', w1, w2, h24, e1, e2, hLm, ht, List.replicate]
end Pe

namespace Pe
open Go Gq
variable {T : Nat → Option Fn} {A : Oracle}
theorem skP_get {p : Int} {S : List (Fp p)} {i : Nat} (hi : i < S.length) : ∀ h : i < ((skP S).map arr8).length, ((skP S).map arr8)[i]'h = (D.arr 64 .leaf (ints .u8 (pad (row S[i])))) := fun h => by rw [List.getElem_map, List.getElem_map]
theorem skP_len {p : Int} (S : List (Fp p)) : ((skP S).map arr8).length = S.length := by rw [List.length_map, List.length_map]
theorem l_sBy0 {O : Oracle} (hfr : K_sFrob O) (hmm : K_sMulMod O) (had : K_sAdd O) {p : Int} [IsP p] {m : Fp p} {S R : List (Fp p)} {z : List D} {vn : V} (hvn : vn.refs = []) (h2 : 2 ≤ m.len) (hml : m.len ≤ 64) (hS8 : S.length = 8) (hR8 : R.length = 8) (hS : ∀ c ∈ S, c.len < m.len) (hR : ∀ c ∈ R, c.len < m.len) {i nb : Nat} (hi : i < 8) (hnb : i + nb ≤ 8) (hnb1 : 1 ≤ nb) {x : Fp p} (hx : S[i]? = some x) : ∀ (r j : Nat) (Q : List (Fp p)), j + r = nb → Q.length = 8 → (∀ c ∈ Q, c.len < m.len) →
 (∀ c ∈ byIn m x i j ((R.take nb).drop j) Q, c.len < m.len) ∧
 dn O 0 (.loop Z3t_L0) ⟨[(0, (.d (.int .i64 p))), (5, .ptr 0 []), (6, .ptr 1 []), (7, .ptr 2 []), (8, .ptr 3 []), (10, vn), (11, (.d (.int .i64 (((nb - 1 : Nat) : Int))))), (12, .ptr 4 []), (13, (.d (.int .i64 i))), (14, (.d (.int .i64 j)))], [.box false (D.arr 64 .leaf (ints .u8 (pad (row m)))), .box false (.arr 8 (.arr 64 .leaf) ((skP S).map arr8)), .box false (.arr 8 (.arr 64 .leaf) ((skP R).map arr8)), .box false (.arr 8 (.arr 64 .leaf) z), .box false (.arr 8 (.arr 64 .leaf) ((skP Q).map arr8)), .hole]⟩ =
  some (.exit 2, ⟨[(0, (.d (.int .i64 p))), (5, .ptr 0 []), (6, .ptr 1 []), (7, .ptr 2 []), (8, .ptr 3 []), (10, vn), (11, (.d (.int .i64 (((nb - 1 : Nat) : Int))))), (12, .ptr 4 []), (13, (.d (.int .i64 i))), (14, (.d (.int .i64 nb))), (40, (.d (.bool false)))], [.box false (D.arr 64 .leaf (ints .u8 (pad (row m)))), .box false (.arr 8 (.arr 64 .leaf) ((skP S).map arr8)), .box false (.arr 8 (.arr 64 .leaf) ((skP R).map arr8)), .box false (.arr 8 (.arr 64 .leaf) z), .box false (.arr 8 (.arr 64 .leaf) ((skP (byIn m x i j ((R.take nb).drop j) Q)).map arr8)), .hole]⟩)
 | 0, j, Q, hj, hq, hQ => by
  obtain rfl : j = nb := by omega
  rw [List.drop_eq_nil_of_le (by rw [List.length_take]; omega)]
  have hlt : ¬ (j : Int) ≤ ((j - 1 : Nat) : Int) := by omega
  refine ⟨hQ, dn_stop ?_⟩
  show _ = some (_, (⟨_, [_, _, _, _, .box false (.arr 8 (.arr 64 .leaf) ((skP Q).map arr8)), _]⟩ : St))
  generalize ((j - 1 : Nat) : Int) = k1 at *
  generalize (skP S).map arr8 = LS at *
  generalize (skP R).map arr8 = LR at *
  generalize (skP Q).map arr8 = LQ at *
  generalize pad (row m) = Pm at *
  simp -implicitDefEqProofs [Z3t_L0, dn_cond, hlt, hvn]
 | r + 1, j, Q, hj, hq, hQ => by
  have hm : m ≠ 0 := fun h => by rw [h, Pol.len_zero] at h2; omega
  have hj8 : j < 8 := by omega
  have hij : i + j < 8 := by omega
  have hjR : j < R.length := by omega
  have hiS : i < S.length := by omega
  have hikQ : i + j < Q.length := by omega
  have hRj := hR _ (List.getElem_mem hjR)
  have hxe : S[i] = x := by rw [List.getElem?_eq_getElem hiS] at hx; exact Option.some.inj hx
  have hxl : x.len < m.len := by rw [← hxe]; exact hS _ (List.getElem_mem hiS)
  have hq1 := hQ _ (List.getElem_mem hikQ)
  have hle : (j : Int) ≤ ((nb - 1 : Nat) : Int) := by omega
  have w0 : IntKind.i64.wrap ((i : Int) + j) = ((i + j : Nat) : Int) := (w64 (x := (i : Int) + j) (by omega)).trans (by omega)
  have hs0 : (0 : Int) ≤ (i : Int) + j := by omega
  have hs1 : ((i : Int) + j).toNat = i + j := by omega
  have w4 : IntKind.i64.wrap ((j : Int) + 1) = ((j + 1 : Nat) : Int) := (w64 (x := (j : Int) + 1) (by omega)).trans (by omega)
  have e1 := hfr p m R[j] i h2 hml (by omega) (by omega)
  have hfl := frIt_len hm (i % (m.len - 1)) R[j] hRj
  have e2 := hmm p x (frIt m (i % (m.len - 1)) R[j]) m hm hml (by omega) (by omega)
  have hl := Pol.len_mod (x * frIt m (i % (m.len - 1)) R[j]) hm
  have e3 := had p 1 Q[i + j] (x * frIt m (i % (m.len - 1)) R[j] % m) (by omega) (by omega) (by omega) (by omega)
  rw [zp_one, Pol.C_one, Gq.one_mul] at e3
  have hl2 := Pol.len_add_le (a := Q[i + j]) (b := x * frIt m (i % (m.len - 1)) R[j] % m) (n := m.len - 1) (by omega) (by omega)
  have hadd : addAt Q (i + j) (x * frIt m (i % (m.len - 1)) R[j] % m) = Q.set (i + j) (Q[i + j] + x * frIt m (i % (m.len - 1)) R[j] % m) := by
   unfold addAt; rw [List.getElem?_eq_getElem hikQ]; rfl
  have hQ' : ∀ c ∈ addAt Q (i + j) (x * frIt m (i % (m.len - 1)) R[j] % m), c.len < m.len := fun c hc => by
   rw [hadd] at hc
   rcases List.mem_or_eq_of_mem_set hc with h | rfl
   ·exact hQ c h
   ·omega
  obtain ⟨g1, ih⟩ := l_sBy0 hfr hmm had (z := z) hvn h2 hml hS8 hR8 hS hR hi hnb hnb1 hx r (j + 1) (addAt Q (i + j) (x * frIt m (i % (m.len - 1)) R[j] % m)) (by omega) (by rw [addAt_length]; exact hq) hQ'
  have hby : byIn m x i j ((R.take nb).drop j) Q = byIn m x i (j + 1) ((R.take nb).drop (j + 1)) (addAt Q (i + j) (x * frIt m (i % (m.len - 1)) R[j] % m)) := by
   rw [List.drop_eq_getElem_cons (by rw [List.length_take]; omega), List.getElem_take]; rfl
  rw [hby]
  refine ⟨g1, dn_round ?_ ih⟩
  have hset : (skP (addAt Q (i + j) (x * frIt m (i % (m.len - 1)) R[j] % m))).map arr8 = ((skP Q).map arr8).set (i + j) (D.arr 64 .leaf (ints .u8 (pad (row (Q[i + j] + x * frIt m (i % (m.len - 1)) R[j] % m))))) := by
   rw [hadd]; unfold skP; rw [List.map_set, List.map_set]
  rw [hset]
  have hLS := skP_len S
  have hLR := skP_len R
  have hLQ := skP_len Q
  rw [hS8] at hLS
  rw [hR8] at hLR
  rw [hq] at hLQ
  have hxS := skP_get hiS
  rw [hxe] at hxS
  have hxR := skP_get hjR
  have hxQ := skP_get hikQ
  generalize pad (row (Q[i + j] + x * frIt m (i % (m.len - 1)) R[j] % m)) = P1 at *
  generalize pad (row (x * frIt m (i % (m.len - 1)) R[j] % m)) = P2 at *
  generalize pad (row (frIt m (i % (m.len - 1)) R[j])) = P3 at *
  generalize pad (row Q[i + j]) = P4 at *
  generalize pad (row R[j]) = P5 at *
  generalize pad (row x) = P6 at *
  generalize (skP S).map arr8 = LS at *
  generalize (skP R).map arr8 = LR at *
  generalize (skP Q).map arr8 = LQ at *
  generalize pad (row m) = Pm at *
  generalize ((nb - 1 : Nat) : Int) = k1 at *
  simp -implicitDefEqProofs [Z3t_L0, dn_cond, hle, hi, hj8, hij, hs0, hs1, hLS, hLR, hLQ, hxS, hxR, hxQ, e1, e2, e3, w0, w4, hvn]
end Pe

namespace Pe
open Go Gq
variable {T : Nat → Option Fn} {A : Oracle}
theorem l_sBy1 {O : Oracle} (hfr : K_sFrob O) (hmm : K_sMulMod O) (had : K_sAdd O) {p : Int} [IsP p] {m : Fp p} {S R : List (Fp p)} {z : List D} (h2 : 2 ≤ m.len) (hml : m.len ≤ 64) (hS8 : S.length = 8) (hR8 : R.length = 8) (hS : ∀ c ∈ S, c.len < m.len) (hR : ∀ c ∈ R, c.len < m.len) {na nb : Nat} (hna : 1 ≤ na) (hnb : 1 ≤ nb) (hab : na + nb ≤ 9) : ∀ (r i : Nat) (Q : List (Fp p)), i + r = na → Q.length = 8 → (∀ c ∈ Q, c.len < m.len) →
 (∀ c ∈ byOut m (R.take nb) i ((S.take na).drop i) Q, c.len < m.len) ∧
 dn O 0 (.loop Z3t_L1) ⟨[(0, (.d (.int .i64 p))), (5, .ptr 0 []), (6, .ptr 1 []), (7, .ptr 2 []), (8, .ptr 3 []), (10, (.d (.int .i64 (((na - 1 : Nat) : Int))))), (11, (.d (.int .i64 (((nb - 1 : Nat) : Int))))), (12, .ptr 4 []), (13, (.d (.int .i64 i)))], [.box false (D.arr 64 .leaf (ints .u8 (pad (row m)))), .box false (.arr 8 (.arr 64 .leaf) ((skP S).map arr8)), .box false (.arr 8 (.arr 64 .leaf) ((skP R).map arr8)), .box false (.arr 8 (.arr 64 .leaf) z), .box false (.arr 8 (.arr 64 .leaf) ((skP Q).map arr8)), .hole]⟩ =
  some (.exit 0, ⟨[(0, (.d (.int .i64 p))), (5, .ptr 0 []), (6, .ptr 1 []), (7, .ptr 2 []), (8, .ptr 3 []), (10, (.d (.int .i64 (((na - 1 : Nat) : Int))))), (11, (.d (.int .i64 (((nb - 1 : Nat) : Int))))), (12, .ptr 4 []), (13, (.d (.int .i64 na))), (35, (.d (.bool false)))], [.box false (D.arr 64 .leaf (ints .u8 (pad (row m)))), .box false (.arr 8 (.arr 64 .leaf) ((skP S).map arr8)), .box false (.arr 8 (.arr 64 .leaf) ((skP R).map arr8)), .box false (.arr 8 (.arr 64 .leaf) z), .box false (.arr 8 (.arr 64 .leaf) ((skP (byOut m (R.take nb) i ((S.take na).drop i) Q)).map arr8)), .hole]⟩)
 | 0, i, Q, hi, hq, hQ => by
  obtain rfl : i = na := by omega
  rw [List.drop_eq_nil_of_le (by rw [List.length_take]; omega)]
  have hlt : ¬ (i : Int) ≤ ((i - 1 : Nat) : Int) := by omega
  refine ⟨hQ, dn_stop ?_⟩
  show _ = some (_, (⟨_, [_, _, _, _, .box false (.arr 8 (.arr 64 .leaf) ((skP Q).map arr8)), _]⟩ : St))
  generalize ((i - 1 : Nat) : Int) = k1 at *
  generalize ((nb - 1 : Nat) : Int) = k2 at *
  generalize (skP S).map arr8 = LS at *
  generalize (skP R).map arr8 = LR at *
  generalize (skP Q).map arr8 = LQ at *
  generalize pad (row m) = Pm at *
  simp -implicitDefEqProofs [Z3t_L1, dn_cond, hlt]
 | r + 1, i, Q, hi, hq, hQ => by
  have hin : i < (S.take na).length := by rw [List.length_take]; omega
  have hiS : i < S.length := by omega
  have hle : (i : Int) ≤ ((na - 1 : Nat) : Int) := by omega
  have w4 : IntKind.i64.wrap ((i : Int) + 1) = ((i + 1 : Nat) : Int) := (w64 (x := (i : Int) + 1) (by omega)).trans (by omega)
  obtain ⟨g1, e1⟩ := l_sBy0 (O := O) hfr hmm had (z := z) (vn := (.d (.int .i64 (((na - 1 : Nat) : Int))))) rfl h2 hml hS8 hR8 hS hR (i := i) (nb := nb) (by omega) (by omega) hnb (x := S[i]) (List.getElem?_eq_getElem hiS) nb 0 Q (Nat.zero_add _) hq hQ
  have e00 : ((0 : Nat) : Int) = 0 := rfl
  rw [e00, List.drop_zero] at e1
  rw [List.drop_zero] at g1
  obtain ⟨g2, ih⟩ := l_sBy1 hfr hmm had (z := z) h2 hml hS8 hR8 hS hR hna hnb hab r (i + 1) (byIn m S[i] i 0 (R.take nb) Q) (by omega) (by rw [byIn_length]; exact hq) g1
  have hby : byOut m (R.take nb) i ((S.take na).drop i) Q = byOut m (R.take nb) (i + 1) ((S.take na).drop (i + 1)) (byIn m S[i] i 0 (R.take nb) Q) := by
   rw [List.drop_eq_getElem_cons hin, List.getElem_take]; rfl
  rw [hby]
  refine ⟨g2, dn_round ?_ ih⟩
  generalize (skP (byIn m S[i] i 0 (R.take nb) Q)).map arr8 = LQ2 at *
  generalize (skP S).map arr8 = LS at *
  generalize (skP R).map arr8 = LR at *
  generalize (skP Q).map arr8 = LQ at *
  generalize pad (row m) = Pm at *
  generalize ((nb - 1 : Nat) : Int) = k1 at *
  generalize ((na - 1 : Nat) : Int) = k2 at *
  simp -implicitDefEqProofs [Z3t_L1, dn_cond, hle, e1, w4]
noncomputable def zs8 {p : Int} : List (Fp p) := List.replicate 8 0
noncomputable def timesD {p : Int} [IsP p] (m : Fp p) (S R : List (Fp p)) : D :=
 if (trimS S).length = 0 ∨ (trimS R).length = 0 then .tup [skwD (skP (zs8 (p := p))), (D.bool true)]
 else if 9 < (trimS S).length + (trimS R).length then .tup [skwD (skP (zs8 (p := p))), (D.bool false)]
 else .tup [skwD (skP (byOut m (trimS R) 0 (trimS S) zs8)), (D.bool true)]
theorem trimS_8 {p : Int} {S : List (Fp p)} (h : S.length = 8) : trimS S = S.take (stl S 8) := by unfold trimS; rw [h]
theorem trimS_len8 {p : Int} {S : List (Fp p)} (h : S.length = 8) : (trimS S).length = stl S 8 := by
 rw [trimS_8 h, List.length_take]; have := stl_le S 8; omega
def K_sTimes3 (O : Oracle) : Prop := ∀ (p : Int) [IsP p] (m : Fp p) (S R : List (Fp p)), 2 ≤ m.len → m.len ≤ 64 → S.length = 8 → R.length = 8 → (∀ c ∈ S, c.len < m.len) → (∀ c ∈ R, c.len < m.len) → ask O F3t [(D.int .i64 p), (D.arr 64 .leaf (ints .u8 (pad (row m)))), skwD (skP S), skwD (skP R)] = some (timesD m S R)
theorem z8_zs {p : Int} : (skP (zs8 (p := p))).map arr8 = z8 := by
 unfold skP zs8
 rw [List.map_replicate, List.map_replicate, row_zero]
 rfl
theorem k_sTimes3 (hT : T F3t = some Z3t) (hdg : K_sSkDeg (den T A)) (hfr : K_sFrob (den T A)) (hmm : K_sMulMod (den T A)) (had : K_sAdd (den T A)) : K_sTimes3 (den T A) := by
 intro p ip m S R h2 hml hS8 hR8 hS hR
 have e1 := hdg p S hS8 (fun a ha => by have := hS a ha; omega)
 have e2 := hdg p R hR8 (fun a ha => by have := hR a ha; omega)
 unfold timesD
 rw [trimS_len8 hS8, trimS_len8 hR8, trimS_8 hS8, trimS_8 hR8]
 have l1 := stl_le S 8
 have l2 := stl_le R 8
 generalize stl S 8 = na at *
 generalize stl R 8 = nb at *
 have hskS : skwD (skP S) = .arr 8 (.arr 64 .leaf) ((skP S).map arr8) := rfl
 have hskR : skwD (skP R) = .arr 8 (.arr 64 .leaf) ((skP R).map arr8) := rfl
 have hskZ : skwD (skP (zs8 (p := p))) = .arr 8 (.arr 64 .leaf) z8 := by rw [← z8_zs (p := p)]
 have w1 : IntKind.i64.wrap ((na : Int) - 1 + (nb - 1)) = (na : Int) - 1 + (nb - 1) := w64 (by omega)
 rw [hskS] at e1 ⊢
 rw [hskR] at e2 ⊢
 by_cases h0 : na = 0 ∨ nb = 0
 ·rw [if_pos h0, hskZ]
  refine ask_of hT rfl ?_
  rcases h0 with rfl | rfl
  ·generalize (skP S).map arr8 = LS at *
   generalize (skP R).map arr8 = LR at *
   generalize pad (row m) = Pm at *
   simp -implicitDefEqProofs [Z3t, Z3t_B, dn_cond, e1, e2, List.replicate]
  ·generalize (skP S).map arr8 = LS at *
   generalize (skP R).map arr8 = LR at *
   generalize pad (row m) = Pm at *
   by_cases hn : na = 0
   ·subst hn
    simp -implicitDefEqProofs [Z3t, Z3t_B, dn_cond, e1, e2, List.replicate]
   ·have hlt : ¬ ((na : Int) - 1 < 0) := by omega
    have hlt2 : na ≠ 0 := hn
    have hlt3 : (1 : Int) ≤ na := by omega
    have hlt4 : ¬ ((na : Int) < 1) := by omega
    simp -implicitDefEqProofs [Z3t, Z3t_B, dn_cond, e1, e2, hlt, List.replicate]
 ·rw [if_neg h0]
  have a1 : ((na : Int) - 1) = ((na - 1 : Nat) : Int) := by omega
  have a2 : ((nb : Int) - 1) = ((nb - 1 : Nat) : Int) := by omega
  rw [a1, a2] at w1
  rw [a1] at e1
  rw [a2] at e2
  have hn1 : ¬ ((na - 1 : Nat) : Int) < 0 := by omega
  have hn2 : ¬ ((nb - 1 : Nat) : Int) < 0 := by omega
  by_cases h9 : 9 < na + nb
  ·rw [if_pos h9, hskZ]
   have hgt : (7 : Int) < ((na - 1 : Nat) : Int) + ((nb - 1 : Nat) : Int) := by omega
   refine ask_of hT rfl ?_
   generalize (skP S).map arr8 = LS at *
   generalize (skP R).map arr8 = LR at *
   generalize pad (row m) = Pm at *
   generalize na - 1 = k1 at *
   generalize nb - 1 = k2 at *
   simp -implicitDefEqProofs [Z3t, Z3t_B, dn_cond, e1, e2, w1, hgt, hn1, hn2, List.replicate]
  ·rw [if_neg h9]
   have hgt : ¬ (7 : Int) < ((na - 1 : Nat) : Int) + ((nb - 1 : Nat) : Int) := by omega
   obtain ⟨_, e3⟩ := l_sBy1 (O := den T A) hfr hmm had (z := z8) h2 hml hS8 hR8 hS hR (na := na) (nb := nb) (by omega) (by omega) (by omega) na 0 zs8 (Nat.zero_add _) rfl (fun c hc => by rw [List.eq_of_mem_replicate hc, Pol.len_zero]; omega)
   have e00 : ((0 : Nat) : Int) = 0 := rfl
   rw [e00, List.drop_zero, z8_zs] at e3
   have hskQ : skwD (skP (byOut m (R.take nb) 0 (S.take na) zs8)) = .arr 8 (.arr 64 .leaf) ((skP (byOut m (R.take nb) 0 (S.take na) zs8)).map arr8) := rfl
   rw [hskQ]
   refine ask_of hT rfl ?_
   generalize (skP (byOut m (R.take nb) 0 (S.take na) zs8)).map arr8 = LQ at *
   generalize (skP S).map arr8 = LS at *
   generalize (skP R).map arr8 = LR at *
   generalize pad (row m) = Pm at *
   generalize na - 1 = k1 at *
   generalize nb - 1 = k2 at *
   simp -implicitDefEqProofs [Z3t, Z3t_B, dn_cond, e1, e2, e3, w1, hgt, hn1, hn2, List.replicate]
section
variable {p : Int}
theorem addAt_get_ne {Q : List (Fp p)} {n j : Nat} {v : Fp p} (h : n ≠ j) : (addAt Q n v)[j]? = Q[j]? := by
 unfold addAt; rw [List.getElem?_set_ne h]
theorem addAt_app {Q Z : List (Fp p)} {n : Nat} {v : Fp p} (h : n < Q.length) : addAt (Q ++ Z) n v = addAt Q n v ++ Z := by
 unfold addAt
 rw [List.getElem?_append_left h, List.set_append_left _ _ h]
theorem pd8_nil : pd8 ([] : List (Fp p)) = zs8 := rfl
end
section
variable {p : Int} [IsP p]
theorem byIn_get_ge {m x : Fp p} {i n : Nat} : ∀ (k : Nat) (b Q : List (Fp p)), i + k + b.length ≤ n → (byIn m x i k b Q)[n]? = Q[n]?
 | _, [], _, _ => rfl
 | k, y :: ys, Q, h => by
  rw [List.length_cons] at h
  show (byIn m x i (k + 1) ys (addAt Q (i + k) _))[n]? = _
  rw [byIn_get_ge (k + 1) ys _ (by omega), addAt_get_ne (by omega)]
theorem byOut_get_ge {m : Fp p} {b : List (Fp p)} {n : Nat} : ∀ (i : Nat) (a Q : List (Fp p)), i + a.length + b.length ≤ n + 1 → (byOut m b i a Q)[n]? = Q[n]?
 | _, [], _, _ => rfl
 | i, x :: xs, Q, h => by
  rw [List.length_cons] at h
  show (byOut m b (i + 1) xs (byIn m x i 0 b Q))[n]? = _
  rw [byOut_get_ge (i + 1) xs _ (by omega), byIn_get_ge 0 b Q (by omega)]
theorem byIn_snoc {m x y : Fp p} {i : Nat} : ∀ (k : Nat) (b Q : List (Fp p)), byIn m x i k (b ++ [y]) Q = addAt (byIn m x i k b Q) (i + (k + b.length)) (x * frIt m (i % (m.len - 1)) y % m)
 | _, [], _ => rfl
 | k, z :: zs, Q => by
  show byIn m x i (k + 1) (zs ++ [y]) (addAt Q (i + k) _) = addAt (byIn m x i (k + 1) zs (addAt Q (i + k) _)) _ _
  rw [byIn_snoc (k + 1) zs, List.length_cons, show i + (k + 1 + zs.length) = i + (k + (zs.length + 1)) by omega]
theorem byOut_snoc {m x : Fp p} {b : List (Fp p)} : ∀ (i : Nat) (a Q : List (Fp p)), byOut m b i (a ++ [x]) Q = byIn m x (i + a.length) 0 b (byOut m b i a Q)
 | _, [], _ => rfl
 | i, z :: zs, Q => by
  show byOut m b (i + 1) (zs ++ [x]) (byIn m z i 0 b Q) = byIn m x _ 0 b (byOut m b (i + 1) zs (byIn m z i 0 b Q))
  rw [byOut_snoc (i + 1) zs, List.length_cons, show i + 1 + zs.length = i + (zs.length + 1) by omega]
theorem byIn_app {m x : Fp p} {i : Nat} {Z : List (Fp p)} : ∀ (k : Nat) (b Q : List (Fp p)), i + k + b.length ≤ Q.length → byIn m x i k b (Q ++ Z) = byIn m x i k b Q ++ Z
 | _, [], _, _ => rfl
 | k, y :: ys, Q, h => by
  rw [List.length_cons] at h
  show byIn m x i (k + 1) ys (addAt (Q ++ Z) (i + k) _) = byIn m x i (k + 1) ys (addAt Q (i + k) _) ++ Z
  rw [addAt_app (by omega), byIn_app (k + 1) ys _ (by rw [addAt_length]; omega)]
theorem byOut_app {m : Fp p} {b Z : List (Fp p)} : ∀ (i : Nat) (a Q : List (Fp p)), i + a.length + b.length ≤ Q.length + 1 → byOut m b i a (Q ++ Z) = byOut m b i a Q ++ Z
 | _, [], _, _ => rfl
 | i, x :: xs, Q, h => by
  rw [List.length_cons] at h
  show byOut m b (i + 1) xs (byIn m x i 0 b (Q ++ Z)) = byOut m b (i + 1) xs (byIn m x i 0 b Q) ++ Z
  rw [byIn_app 0 b Q (by omega), byOut_app (i + 1) xs _ (by rw [byIn_length]; omega)]
theorem mul_mod_ne {m x y : Fp p} (hi : Irr m) (hx : x ≠ 0) (hxl : x.len < m.len) (hy : y ≠ 0) (hyl : y.len < m.len) : x * y % m ≠ 0 := fun h => by
 rcases hi.prime ((dv_iff_mod hi.ne).2 h) with h | h
 ·have := Dv.len h hx; omega
 ·have := Dv.len h hy; omega
theorem frIt_ne {m : Fp p} (hm : Fld m) : ∀ (k : Nat) (y : Fp p), y ≠ 0 → y.len < m.len → frIt m k y ≠ 0
 | 0, _, h, _ => h
 | k + 1, y, h, hl => by
  obtain ⟨h1, h2⟩ := pw_res hm h hl p.toNat
  exact frIt_ne hm k _ h1 h2
end
section
variable {p : Int}
theorem stl_last {S : List (Fp p)} : ∀ (n k : Nat), stl S n = k + 1 → S[k]? ≠ some 0
 | 0, k, h => by cases h
 | n + 1, k, h => by
  unfold stl at h
  split at h
  ·exact stl_last n k h
  ·rename_i h0
   obtain rfl : n = k := by omega
   exact h0
theorem stl_top {S : List (Fp p)} {n : Nat} (h : S[n]? ≠ some 0) : stl S (n + 1) = n + 1 := by
 unfold stl; rw [if_neg h]
theorem trimS_form {S : List (Fp p)} (h : (trimS S).length ≠ 0) : ∃ a x, trimS S = a ++ [x] ∧ x ≠ 0 := by
 have hle := stl_le S S.length
 have hl : (trimS S).length = stl S S.length := by unfold trimS; rw [List.length_take]; omega
 obtain ⟨k, hk⟩ : ∃ k, stl S S.length = k + 1 := ⟨stl S S.length - 1, by omega⟩
 have h1 := stl_last _ _ hk
 have hlt : k < S.length := by omega
 rw [List.getElem?_eq_getElem hlt] at h1
 refine ⟨S.take k, S[k], ?_, fun h => h1 (by rw [h])⟩
 unfold trimS
 rw [hk, List.take_succ_eq_append_getElem hlt]
theorem trimS_top {S : List (Fp p)} {n : Nat} (hl : S.length = n + 1) (h : S[n]? ≠ some 0) : trimS S = S := by
 unfold trimS
 rw [hl, stl_top h, ← hl, List.take_length]
end
section
variable {p : Int} [IsP p]
theorem mulS_top {m x y : Fp p} (hm : Fld m) {a b : List (Fp p)} (hx : x ≠ 0) (hxl : x.len < m.len) (hy : y ≠ 0) (hyl : y.len < m.len) : trimS (mulS m (a ++ [x]) (b ++ [y])) = mulS m (a ++ [x]) (b ++ [y]) := by
 have hl : (mulS m (a ++ [x]) (b ++ [y])).length = a.length + b.length + 1 := by
  unfold mulS
  rw [byOut_length, List.length_replicate, List.length_append, List.length_append]
  simp only [List.length_cons, List.length_nil]; omega
 refine trimS_top hl ?_
 have hfy : frIt m (a.length % (m.len - 1)) y ≠ 0 := frIt_ne hm _ y hy hyl
 have hfl := frIt_len hm.mon.2 (a.length % (m.len - 1)) y hyl
 have hne := mul_mod_ne hm.irr hx hxl hfy hfl
 unfold mulS
 rw [byOut_snoc, byIn_snoc]
 unfold addAt
 rw [byIn_get_ge _ _ _ (by omega), byOut_get_ge _ _ _ (by rw [List.length_append, List.length_cons, List.length_nil]; omega)]
 have hN : 0 + a.length + (0 + b.length) = a.length + b.length := by omega
 rw [hN, List.getElem?_set_self (by rw [byIn_length, byOut_length, List.length_replicate, List.length_append, List.length_append]; simp only [List.length_cons, List.length_nil]; omega)]
 rw [List.getElem?_replicate, if_pos (by rw [List.length_append, List.length_append]; simp only [List.length_cons, List.length_nil]; omega)]
 show some ((0 : Fp p) + _) ≠ some 0
 rw [Gq.zero_add, show 0 + a.length = a.length by omega]
 exact fun h => hne (Option.some.inj h)
noncomputable def prodS (m : Fp p) (a b : List (Fp p)) : List (Fp p) := if a.length = 0 ∨ b.length = 0 then [] else trimS (mulS m a b)
theorem pd8_mulS {m : Fp p} {a b : List (Fp p)} (ha : 1 ≤ a.length) (hb : 1 ≤ b.length) (h : a.length + b.length ≤ 9) : pd8 (mulS m a b) = byOut m b 0 a zs8 := by
 unfold pd8 mulS zs8
 rw [byOut_length, List.length_replicate, ← byOut_app _ _ _ (by rw [List.length_replicate]; omega), List.replicate_append_replicate, show a.length + b.length - 1 + (8 - (a.length + b.length - 1)) = 8 by omega]
end
end Pe

namespace Pe
open Go Gq
variable {T : Nat → Option Fn} {A : Oracle}
section
variable {p : Int} [IsP p]
theorem addAt_lens {N n : Nat} {Q : List (Fp p)} {v : Fp p} (hQ : ∀ c ∈ Q, c.len ≤ N) (hv : v.len ≤ N) : ∀ c ∈ addAt Q n v, c.len ≤ N := fun c hc => by
 unfold addAt at hc
 rcases List.mem_or_eq_of_mem_set hc with h | rfl
 ·exact hQ c h
 ·refine Pol.len_add_le ?_ hv
  cases he : Q[n]? with
  | none => show (0 : Fp p).len ≤ N; rw [Pol.len_zero]; omega
  | some w => exact hQ w (List.mem_of_getElem? he)
end
theorem z8_pad : skwD (List.replicate 8 (pad [])) = .arr 8 (.arr 64 .leaf) z8 := rfl
def Sh8 (ls : List (List Int)) : Prop := ls.length = 8 ∧ ∀ l ∈ ls, l.length = 64
theorem sh8_skP {p : Int} {S : List (Fp p)} (h : S.length = 8) : Sh8 (skP S) := ⟨by unfold skP; rw [List.length_map]; exact h, fun l hl => by
 obtain ⟨a, _, rfl⟩ := List.mem_map.1 hl
 exact pad_length _⟩
theorem l_eqSk {O : Oracle} (he : C_eqPoly O) {ls : List (List Int)} (h : Sh8 ls) : ∀ (k i : Nat), i + k = 8 →
 dn O 0 (.loop ir_laws_eqSkew_L0) ⟨[(2, .ptr 0 []), (3, .ptr 1 []), (5, (.d (.int .i64 i)))], [.box false (.arr 8 (.arr 64 .leaf) (ls.map arr8)), .box false (.arr 8 (.arr 64 .leaf) (ls.map arr8))]⟩ =
  some (.exit 0, ⟨[(2, .ptr 0 []), (3, .ptr 1 []), (5, (.d (.int .i64 8))), (7, (.d (.bool false)))], [.box false (.arr 8 (.arr 64 .leaf) (ls.map arr8)), .box false (.arr 8 (.arr 64 .leaf) (ls.map arr8))]⟩)
 | 0, i, hi => by
  obtain rfl : i = 8 := by omega
  refine dn_stop ?_
  generalize ls.map arr8 = LD at *
  simp -implicitDefEqProofs [ir_laws_eqSkew_L0, dn_cond]
 | k + 1, i, hi => by
  have hi8 : i < 8 := by omega
  have hi8' : (i : Int) < 8 := by omega
  have hlt : i < ls.length := by rw [h.1]; exact hi8
  have e1 := he ls[i] (h.2 _ (List.getElem_mem hlt))
  have hL : (ls.map arr8).length = 8 := by rw [List.length_map]; exact h.1
  have hx2 : ∀ h : i < (ls.map arr8).length, (ls.map arr8)[i]'h = (D.arr 64 .leaf (ints .u8 (ls[i]))) := fun h => by rw [List.getElem_map]
  have w4 : IntKind.i64.wrap ((i : Int) + 1) = ((i + 1 : Nat) : Int) := (w64 (x := (i : Int) + 1) (by omega)).trans (by omega)
  refine dn_round ?_ (l_eqSk he h k (i + 1) (by omega))
  generalize ls[i] = li at *
  generalize ls.map arr8 = LD at *
  simp -implicitDefEqProofs [ir_laws_eqSkew_L0, dn_cond, hi8, hi8', hL, hx2, e1, w4]
def C_eqSk (O : Oracle) : Prop := ∀ ls : List (List Int), Sh8 ls → ask O F1u [skwD ls, skwD ls] = some (D.bool true)
theorem c_eqSk (hT : T F1u = some Z1u) (he : C_eqPoly (den T A)) : C_eqSk (den T A) := by
 intro ls h
 have e := l_eqSk (O := den T A) he h 8 0 rfl
 have e00 : ((0 : Nat) : Int) = 0 := rfl
 rw [e00] at e
 have hskd : skwD ls = .arr 8 (.arr 64 .leaf) (ls.map arr8) := rfl
 rw [hskd]
 refine ask_of hT rfl ?_
 generalize ls.map arr8 = LD at *
 simp -implicitDefEqProofs [Z1u, ir_laws_eqSkew_B, e]
theorem sh8_zero : Sh8 (List.replicate 8 (pad [])) := ⟨rfl, fun l hl => by rw [List.eq_of_mem_replicate hl]; rfl⟩
end Pe



namespace Pe
open Go Gq
variable {T : Nat → Option Fn} {A : Oracle}
abbrev z6 : List Int := List.replicate 6 0
section
variable {p : Int} [IsP p]
noncomputable def mono (p : Int) (i : Nat) : Fp p := numP p (p ^ i)
end
end Pe

namespace Pe
open Go Gq
variable {T : Nat → Option Fn} {A : Oracle}
section
variable {O : Oracle} {g : Nat} {first caps : List D}
structure CmpRow (O : Oracle) (g : Nat) (first caps : List D) (f : D → Int) (s : Sh) (cs : List D) : Prop where
 nf : noTup first
 nc : noTup caps
 nx : noTup cs
 sh : AllSh s cs
 ask : ∀ x ∈ cs, ∀ y ∈ cs, ∃ v : Int, ask O g (first ++ [x, y] ++ caps) = some (D.int .i64 v) ∧ (v < 0 ↔ f x < f y)
theorem CmpRow.perm {f : D → Int} {s : Sh} {cs ds : List D} (h : CmpRow O g first caps f s cs) (p : ds.Perm cs) : CmpRow O g first caps f s ds :=
 ⟨h.nf, h.nc, fun x hx => h.nx x (p.subset hx), fun x hx => h.sh x (p.subset hx), fun x hx y hy => h.ask x (p.subset hx) y (p.subset hy)⟩
theorem CmpRow.call {f : D → Int} {s : Sh} {cs : List D} (h : CmpRow O g first caps f s cs) {hp : Heap} {np : Nat} {news : List Nat} {x y : D} (hx : x ∈ cs) (hy : y ∈ cs) :
 ∃ v : Int, kCall O np hp .flat news (g, first.map .d, caps.map .d) [.d x, .d y] = some (.d (D.int .i64 v), hp) ∧ (v < 0 ↔ f x < f y) := by
 have e : toDs hp (first.map .d ++ [.d x, .d y] ++ caps.map .d) = some (first ++ [x, y] ++ caps) :=
  toDs_app hp (toDs_app hp (toDs_map hp h.nf) (toDs_map hp (ds := [x, y]) (by intro z hz; simp at hz; rcases hz with rfl | rfl; exact h.nx _ hx; exact h.nx _ hy))) (toDs_map hp h.nc)
 obtain ⟨v, e1, e2⟩ := h.ask x hx y hy
 refine ⟨v, ?_, e2⟩
 rw [kCall_flat, e, Option.bind_some, kAsk_ask, e1, Option.bind_some, kAns_flat, show (D.int IntKind.i64 v).flat = true from rfl, if_pos rfl]
theorem l_insR {f : D → Int} {n : Nat} {cp : Option Nat} (hn : n ≤ 1000) {i : Nat} : ∀ (L : List D) (x : D) (R : List D), (L.reverse ++ x :: R).length = n → CmpRow O g first caps f .leaf (L.reverse ++ x :: R) → ∃ j : Int,
 dn O 1 (.loop ir_slices_insertionSortCmpFunc_impl_row_L0) ⟨[(0, .sl 0 [] 0 n cp), (1, (.d (.int .i64 0))), (2, (.d (.int .i64 n))), (3, .d (.fn g first caps)), (8, (.d (.int .i64 i))), (9, (.d (.int .i64 L.length)))], [.sl false .leaf (L.reverse ++ x :: R)]⟩ =
  some (.exit 2, ⟨[(0, .sl 0 [] 0 n cp), (1, (.d (.int .i64 0))), (2, (.d (.int .i64 n))), (3, .d (.fn g first caps)), (8, (.d (.int .i64 i))), (9, (.d (.int .i64 j))), (34, (.d (.bool false)))], [.sl false .leaf (insG f L x R)]⟩)
 | [], x, R, hl, ok => by
  refine ⟨0, dn_stop ?_⟩
  simp -implicitDefEqProofs [ir_slices_insertionSortCmpFunc_impl_row_L0, dn_cond, insG]
 | y :: L, x, R, hl, ok => by
  have hj : (y :: L).length = L.length + 1 := rfl
  have hlen : ((y :: L).reverse ++ x :: R).length = L.length + 1 + (R.length + 1) := by simp; omega
  have e1 : ((y :: L).reverse ++ x :: R)[L.length + 1]? = some x := by
   rw [List.getElem?_append_right (by simp)]; simp
  have e2 : ((y :: L).reverse ++ x :: R)[L.length]? = some y := by
   rw [List.getElem?_append_left (by simp)]; simp
  have m1 : x ∈ (y :: L).reverse ++ x :: R := by simp
  have m2 : y ∈ (y :: L).reverse ++ x :: R := by simp
  obtain ⟨cv, c, cneg⟩ := ok.call (hp := [.sl false .leaf ((y :: L).reverse ++ x :: R)]) (np := 1) (news := []) m1 m2
  have s1 := ok.sh x m1
  have s2 := ok.sh y m2
  have n1 := ok.nx x m1
  have n2 := ok.nx y m2
  have e3 : (((y :: L).reverse ++ x :: R).set (L.length + 1) y).set L.length x = L.reverse ++ x :: y :: R := by
   rw [List.set_append_right _ _ (by simp), List.set_append_left _ _ (by simp)]
   simp
  have hp : ((y :: L).reverse ++ x :: R).Perm (L.reverse ++ x :: y :: R) := by
   simp
   exact (List.Perm.swap x y R).append_left _
  have w1 : IntKind.i64.wrap (L.length : Int) = L.length := w64 (by omega)
  have h0 : (0 : Int) < (L.length : Int) + 1 := by omega
  have h00 : (0 : Int) ≤ (L.length : Int) + 1 := by omega
  have h1 : L.length + 1 < n := by omega
  have h2 : L.length < n := by omega
  have h3 : L.length < ((y :: L).reverse ++ x :: R).length := by omega
  have h4 : L.length + 1 < ((y :: L).reverse ++ x :: R).length := by omega
  have e4 : (((y :: L).reverse ++ x :: R).set (L.length + 1) y)[L.length]? = some y := by
   rw [List.getElem?_set_ne (by omega), e2]
  unfold insG
  rw [hj, show ((L.length + 1 : Nat) : Int) = (L.length : Int) + 1 by omega]
  generalize (y :: L).reverse ++ x :: R = cs at *
  have e1' : cs[L.length + 1] = x := by rw [List.getElem?_eq_getElem h4] at e1; exact Option.some.inj e1
  have e2' : cs[L.length] = y := by rw [List.getElem?_eq_getElem h3] at e2; exact Option.some.inj e2
  by_cases hlt : f x < f y
  ·rw [if_pos hlt]
   obtain ⟨j, e⟩ := l_insR hn L x (y :: R) (by rw [← hp.length_eq]; omega) (ok.perm hp.symm)
   have hc := cneg.2 hlt
   refine ⟨j, dn_round ?_ e⟩
   simp -implicitDefEqProofs [ir_slices_insertionSortCmpFunc_impl_row_L0, dn_cond, h0, h00, h1, h2, h3, h4, e1', e2', c, s1, s2, n1, n2, w1, hc, e3]
  ·rw [if_neg hlt]
   have hc := mt cneg.1 hlt
   refine ⟨(L.length : Int) + 1, dn_stop ?_⟩
   simp -implicitDefEqProofs [ir_slices_insertionSortCmpFunc_impl_row_L0, dn_cond, h0, h00, h1, h2, h3, h4, e1', e2', c, s1, s2, w1, hc]
end
theorem l_srtR {O : Oracle} {g : Nat} {first caps : List D} {f : D → Int} {n : Nat} {cp : Option Nat} (hn : n ≤ 1000) : ∀ (r P : List D), P.length + r.length = n → 0 < P.length → CmpRow O g first caps f .leaf (P ++ r) →
 dn O 1 (.loop ir_slices_insertionSortCmpFunc_impl_row_L1) ⟨[(0, .sl 0 [] 0 n cp), (1, (.d (.int .i64 0))), (2, (.d (.int .i64 n))), (3, .d (.fn g first caps)), (8, (.d (.int .i64 P.length)))], [.sl false .leaf (P ++ r)]⟩ =
  some (.exit 0, ⟨[(0, .sl 0 [] 0 n cp), (1, (.d (.int .i64 0))), (2, (.d (.int .i64 n))), (3, .d (.fn g first caps)), (8, (.d (.int .i64 n))), (14, (.d (.bool false)))], [.sl false .leaf (srtG f P r)]⟩)
 | [], P, hl, hP, ok => by
  have hl' : P.length = n := by simpa using hl
  refine dn_stop ?_
  simp -implicitDefEqProofs [ir_slices_insertionSortCmpFunc_impl_row_L1, dn_cond, srtG, hl']
 | x :: r, P, hl, hP, ok => by
  simp at hl
  have e0 : P.reverse.reverse ++ x :: r = P ++ x :: r := by simp
  obtain ⟨j, e⟩ := l_insR (O := O) (g := g) (first := first) (caps := caps) (f := f) (n := n) (cp := cp) hn (i := P.length) P.reverse x r (by simp; omega) (by rw [e0]; exact ok)
  rw [e0, List.length_reverse, ← List.nil_append r, insG_app, List.nil_append] at e
  have hlen := insG_len f P.reverse x []
  rw [List.length_reverse, List.length_nil, Nat.add_zero] at hlen
  have hperm : (insG f P.reverse x [] ++ r).Perm (P ++ x :: r) := by
   refine (List.Perm.append_right r (insG_perm f P.reverse x [])).trans ?_
   simp
   exact List.perm_middle.symm
  have ih := l_srtR (O := O) (g := g) (first := first) (caps := caps) (f := f) (cp := cp) hn r (insG f P.reverse x []) (by rw [hlen]; omega) (by omega) (ok.perm hperm)
  have hlt : P.length < n := by omega
  have w1 : IntKind.i64.wrap ((P.length : Int) + 1) = ((P.length + 1 : Nat) : Int) := (w64 (x := (P.length : Int) + 1) (by omega)).trans (by omega)
  rw [hlen] at ih
  unfold srtG
  refine dn_round ?_ ih
  simp -implicitDefEqProofs [ir_slices_insertionSortCmpFunc_impl_row_L1, dn_cond, hlt, e, w1]
def H_sortR (O : Oracle) (F : Nat) (args : V → List V → List V) : Prop := ∀ (g : Nat) (first caps : List D) (f : D → Int) (cs : List D) (cp : Option Nat), cs.length ≤ 12 → CmpRow O g first caps f .leaf cs →
 ∃ ds : List D, ds.Perm cs ∧ Asc f ds ∧ O F (args (.sl 0 [] 0 cs.length cp) [(.d (.int .i64 cs.length)), .d (.fn g first caps)]) [.sl false .leaf cs] = some (.tup [], [.sl false .leaf ds], [])
def H_insRow (O : Oracle) : Prop := H_sortR O F2h fun s l => [s, (.d (.int .i64 0))] ++ l
theorem h_insRow (hT : T F2h = some Z2h) : H_insRow (den T A) := by
 intro g first caps f cs cp hl ok
 cases cs with
 | nil =>
  refine ⟨[], .refl _, List.Pairwise.nil, den_of hT rfl ?_⟩
  have st := dn_stop (O := den T A) (np := 1) (c := ir_slices_insertionSortCmpFunc_impl_row_L1) (s := ⟨[(0, .sl 0 [] 0 0 cp), (1, (.d (.int .i64 0))), (2, (.d (.int .i64 0))), (3, .d (.fn g first caps)), (8, (.d (.int .i64 1)))], [.sl false .leaf []]⟩) (s1 := ⟨[(0, .sl 0 [] 0 0 cp), (1, (.d (.int .i64 0))), (2, (.d (.int .i64 0))), (3, .d (.fn g first caps)), (8, (.d (.int .i64 1))), (14, (.d (.bool false)))], [.sl false .leaf []]⟩) (id := 0) (by simp -implicitDefEqProofs [ir_slices_insertionSortCmpFunc_impl_row_L1, dn_cond])
  have w1 : IntKind.i64.wrap 1 = 1 := w64 (by omega)
  simp -implicitDefEqProofs [Z2h, ir_slices_insertionSortCmpFunc_impl_row_B, st, w1]
 | cons x r =>
  have e := l_srtR (O := den T A) (g := g) (first := first) (caps := caps) (f := f) (n := (x :: r).length) (cp := cp) (by omega) r [x] (by simp; omega) (by simp) ok
  have e1 : (([x] : List D).length : Int) = 1 := rfl
  rw [e1] at e
  refine ⟨srtG f [x] r, srtG_perm f r [x], srtG_asc f r [x] (List.pairwise_singleton _ _), den_of hT rfl ?_⟩
  have w1 : IntKind.i64.wrap 1 = 1 := w64 (by omega)
  rw [List.singleton_append] at e
  generalize x :: r = cs at *
  simp -implicitDefEqProofs [Z2h, ir_slices_insertionSortCmpFunc_impl_row_B, e, w1]
theorem h_pdqRow (hT : T F2w = some Z2w) (hi : H_insRow (den T A)) : ∀ (g : Nat) (first caps : List D) (f : D → Int) (cs : List D) (cp : Option Nat) (v : Int), cs.length ≤ 12 → CmpRow (den T A) g first caps f .leaf cs →
 ∃ ds : List D, ds.Perm cs ∧ Asc f ds ∧ den T A F2w [.sl 0 [] 0 cs.length cp, (.d (.int .i64 0)), (.d (.int .i64 cs.length)), (.d (.int .i64 v)), .d (.fn g first caps)] [.sl false .leaf cs] = some (.tup [], [.sl false .leaf ds], []) := by
 intro g first caps f cs cp v hl ok
 obtain ⟨ds, h1, h2, e⟩ := hi g first caps f cs cp hl ok
 refine ⟨ds, h1, h2, den_of hT rfl ?_⟩
 have w1 : IntKind.i64.wrap (cs.length : Int) = cs.length := w64 (by omega)
 have h12 : (cs.length : Int) ≤ 12 := by omega
 have lp := dn_back (O := den T A) (np := 1) (c := ir_slices_pdqsortCmpFunc_impl_row_L0) (s := ⟨[(0, .sl 0 [] 0 cs.length cp), (1, (.d (.int .i64 0))), (2, (.d (.int .i64 cs.length))), (3, (.d (.int .i64 v))), (4, .d (.fn g first caps)), (10, (.d (.bool true))), (11, (.d (.bool true)))], [.sl false .leaf cs]⟩) (s1 := ⟨[], [.sl false .leaf ds]⟩) (by
  simp at e
  simp -implicitDefEqProofs [ir_slices_pdqsortCmpFunc_impl_row_L0, dn_cond, w1, h12, e, List.idxOf, List.findIdx, List.findIdx.go])
 simp -implicitDefEqProofs [Z2w, ir_slices_pdqsortCmpFunc_impl_row_B, lp]
def H_sortRow (O : Oracle) : Prop := ∀ (g : Nat) (first caps : List D) (f : D → Int) (cs : List D) (cp : Option Nat), cs.length ≤ 12 → CmpRow O g first caps f .leaf cs →
 ∃ ds : List D, ds.Perm cs ∧ Asc f ds ∧ O F29 [.sl 0 [] 0 cs.length cp, .d (.fn g first caps)] [.sl false .leaf cs] = some (.tup [], [.sl false .leaf ds], [])
theorem h_sortRow (hT : T F29 = some Z29) (hTp : T F2w = some Z2w) (hi : H_insRow (den T A)) (hl : C_len64 (den T A) F1y) : H_sortRow (den T A) := by
 intro g first caps f cs cp hl12 ok
 obtain ⟨v, ev⟩ := hl cs.length hl12
 obtain ⟨ds, h1, h2, e⟩ := h_pdqRow hTp hi g first caps f cs cp v hl12 ok
 refine ⟨ds, h1, h2, den_of hT rfl ?_⟩
 have w1 : IntKind.u64.wrap (cs.length : Int) = cs.length := by
  simp [IntKind.wrap, IntKind.bits, IntKind.signed]; omega
 simp -implicitDefEqProofs [Z29, ir_slices_SortFunc_impl_row_impl_row_B, w1, ev, e, List.idxOf, List.findIdx, List.findIdx.go]
end Pe

namespace Pe
open Go Gq
variable {T : Nat → Option Fn} {A : Oracle}
section
variable {p : Int}
noncomputable def elim (a b : Fp p) : Fp p := b + Pol.C (-(b.c (a.len - 1))) * a
noncomputable def redS : List (Fp p) → Fp p → Fp p
 | [], a => a
 | b :: bs, a => redS bs (elim b a)
noncomputable def insS (a : Fp p) : List (Fp p) → List (Fp p)
 | [] => [a]
 | b :: bs => if b.len < a.len then a :: (b :: bs).map (elim a) else elim a b :: insS a bs
theorem insS_perm (a : Fp p) : ∀ L : List (Fp p), (insS a L).Perm (L.map (elim a) ++ [a])
 | [] => .refl _
 | b :: bs => by
  unfold insS
  split
  ·exact (List.perm_append_singleton a ((b :: bs).map (elim a))).symm
  ·exact (insS_perm a bs).cons _
theorem c_ge {a : Fp p} {n : Nat} (h : a.len ≤ n) : a.c n = 0 := a.lt_len n h
theorem elim_c (a b : Fp p) (n : Nat) : (elim a b).c n = b.c n + -(b.c (a.len - 1)) * a.c n := by
 unfold elim; rw [Pol.c_add, Pol.c_Cmul]
theorem insS_mem {a c : Fp p} : ∀ {L : List (Fp p)}, c ∈ insS a L → c = a ∨ ∃ b ∈ L, c = elim a b := fun {L} h => by
 have := (insS_perm a L).subset h
 rcases List.mem_append.1 this with h | h
 ·obtain ⟨b, hb, rfl⟩ := List.mem_map.1 h; exact .inr ⟨b, hb, rfl⟩
 ·exact .inl (by simpa using h)
noncomputable abbrev rowD (a : Fp p) : D := (D.sl .leaf (ints .i64 (row a)))
def lenK : D → Int
 | .sl _ cs => -(cs.length : Int)
 | _ => 0
theorem lenK_row (a : Fp p) : lenK (rowD a) = -(a.len : Int) := by
 show -((ints .i64 (row a)).length : Int) = _
 rw [ints_length, row_length]
theorem sorted_is {L M : List (Fp p)} (hp : M.Perm L) (hL : L.Pairwise fun x y => y.len < x.len) (hM : M.Pairwise fun x y => y.len ≤ x.len) : M = L := by
 refine List.Perm.eq_of_pairwise (le := fun x y : Fp p => y.len ≤ x.len) (fun a b ha hb h1 h2 => ?_) hM (hL.imp fun h => by omega) hp
 have ha' := hp.subset ha
 have e : a.len = b.len := Nat.le_antisymm h2 h1
 clear h1 h2 hM
 induction L generalizing M with
 | nil => cases hb
 | cons c L ih =>
  obtain ⟨g1, g2⟩ := List.pairwise_cons.1 hL
  rcases List.mem_cons.1 ha' with rfl | ha1
  ·rcases List.mem_cons.1 hb with rfl | hb1
   ·rfl
   ·have := g1 b hb1; omega
  ·rcases List.mem_cons.1 hb with rfl | hb1
   ·have := g1 a ha1; omega
   ·exact ih (M := L) (.refl _) g2 ha1 hb1 ha1
theorem redS_keep {n : Nat} : ∀ {L : List (Fp p)} {a : Fp p}, (∀ b ∈ L, b.len ≤ n) → (redS L a).c n = a.c n
 | [], _, _ => rfl
 | b :: L, a, h => by
  show (redS L (elim b a)).c n = _
  rw [redS_keep (L := L) (fun c hc => h c (by simp [hc])), elim_c, c_ge (a := b) (h b (by simp)), Gq.mul_zero, Gq.add_zero]
end
section
variable {p : Int} [IsP p]
structure Desc (N : Nat) (L : List (Fp p)) : Prop where
 pw : L.Pairwise fun x y => y.len < x.len
 mon : ∀ b ∈ L, Monic b
 le : ∀ b ∈ L, b.len ≤ N
theorem Desc.nil (N : Nat) : Desc N ([] : List (Fp p)) := ⟨List.Pairwise.nil, (fun _ h => by cases h), (fun _ h => by cases h)⟩
theorem Desc.tail {N : Nat} {b : Fp p} {L : List (Fp p)} (h : Desc N (b :: L)) : Desc N L ∧ ∀ c ∈ L, c.len < b.len :=
 ⟨⟨h.pw.tail, fun c hc => h.mon c (by simp [hc]), fun c hc => h.le c (by simp [hc])⟩, (List.pairwise_cons.1 h.pw).1⟩
theorem Desc.length : ∀ {N : Nat} {L : List (Fp p)}, Desc N L → L.length ≤ N
 | N, [], _ => Nat.zero_le _
 | N, b :: L, h => by
  obtain ⟨h1, h2⟩ := h.tail
  have hb := Pol.len_pos (h.mon b (by simp)).2
  have hle := h.le b (by simp)
  have := Desc.length (N := b.len - 1) ⟨h1.pw, h1.mon, fun c hc => by have := h2 c hc; omega⟩
  rw [List.length_cons]; omega
theorem elim_le {N : Nat} {a b : Fp p} (ha : a.len ≤ N) (hb : b.len ≤ N) : (elim a b).len ≤ N := by
 unfold elim
 refine Pol.len_add_le hb (Pol.len_le fun i hi => ?_)
 rw [Pol.c_Cmul, c_ge (a := a) (by omega), Gq.mul_zero]
theorem elim_at {a : Fp p} (ha : Monic a) (b : Fp p) : (elim a b).c (a.len - 1) = 0 := by
 rw [elim_c, show a.c (a.len - 1) = 1 from ha.1, Gq.mul_one]
 exact Gq.add_neg _
theorem redS_le {N : Nat} : ∀ {L : List (Fp p)} {a : Fp p}, (∀ b ∈ L, b.len ≤ N) → a.len ≤ N → (redS L a).len ≤ N
 | [], _, _, ha => ha
 | b :: L, a, h, ha => redS_le (L := L) (fun c hc => h c (by simp [hc])) (elim_le (h b (by simp)) ha)
theorem redS_zero {N : Nat} : ∀ {L : List (Fp p)} {a : Fp p}, Desc N L → ∀ b ∈ L, (redS L a).c (b.len - 1) = 0
 | b :: L, a, h, c, hc => by
  obtain ⟨h1, h2⟩ := h.tail
  show (redS L (elim b a)).c _ = 0
  rcases List.mem_cons.1 hc with rfl | hc
  ·rw [redS_keep (L := L) (fun d hd => by have := h2 d hd; omega), elim_at (h.mon c (by simp))]
  ·exact redS_zero h1 c hc
theorem redS_ne {N : Nat} {L : List (Fp p)} {a : Fp p} (h : Desc N L) (h0 : redS L a ≠ 0) : ∀ b ∈ L, b.len ≠ (redS L a).len := fun b hb e => by
 have h1 := redS_zero (a := a) h b hb
 rw [e] at h1
 exact Pol.ld_ne h0 h1
theorem elim_mon {a b : Fp p} (hb : Monic b) (hne : b.len ≠ a.len) : Monic (elim a b) ∧ (elim a b).len = b.len := by
 have hbp := Pol.len_pos hb.2
 rcases Nat.lt_or_ge b.len a.len with h | h
 ·have : elim a b = b := by
   unfold elim
   rw [c_ge (by omega), Gq.neg_zero, Pol.C_zero, Gq.zero_mul, Gq.add_zero]
  rw [this]; exact ⟨hb, rfl⟩
 ·have hc : (elim a b).c (b.len - 1) = 1 := by
   rw [elim_c, c_ge (a := a) (by omega), Gq.mul_zero, Gq.add_zero]; exact hb.1
  have hl : (elim a b).len = b.len := by
   have h1 : (elim a b).len = (b.len - 1) + 1 := Pol.len_eq (Pol.lt_iff.2 (by
    rw [Nat.sub_add_cancel hbp]; exact elim_le h (Nat.le_refl _))) (by rw [hc]; exact Fd.one_ne)
   omega
  refine ⟨⟨by unfold Pol.ld; rw [hl]; exact hc, fun h0 => ?_⟩, hl⟩
  rw [h0, Pol.len_zero] at hl
  omega
theorem insS_desc {N : Nat} {a : Fp p} (ha : Monic a) (hal : a.len ≤ N) : ∀ {L : List (Fp p)}, Desc N L → (∀ b ∈ L, b.len ≠ a.len) → Desc N (insS a L)
 | [], _, _ => ⟨List.pairwise_singleton _ _, fun b hb => by simp [insS] at hb; rw [hb]; exact ha, fun b hb => by simp [insS] at hb; rw [hb]; exact hal⟩
 | b :: L, h, hne => by
  obtain ⟨h1, h2⟩ := h.tail
  have hall : ∀ c ∈ b :: L, Monic (elim a c) ∧ (elim a c).len = c.len := fun c hc => elim_mon (h.mon c hc) (hne c hc)
  refine ⟨?_, fun c hc => ?_, fun c hc => ?_⟩
  ·unfold insS
   split
   ·rename_i hlt
    refine List.pairwise_cons.2 ⟨fun c hc => ?_, ?_⟩
    ·obtain ⟨d, hd, rfl⟩ := List.mem_map.1 hc
     rw [(hall d hd).2]
     rcases List.mem_cons.1 hd with rfl | hd
     ·exact hlt
     ·have := h2 d hd; omega
    ·rw [List.pairwise_map]
     refine h.pw.imp_of_mem fun {x y} hx hy hxy => ?_
     rw [(hall x hx).2, (hall y hy).2]; exact hxy
   ·rename_i hge
    refine List.pairwise_cons.2 ⟨fun c hc => ?_, (insS_desc ha hal h1 fun c hc => hne c (by simp [hc])).pw⟩
    rw [(hall b (by simp)).2]
    rcases insS_mem hc with rfl | ⟨d, hd, rfl⟩
    ·have := hne b (by simp); omega
    ·rw [(hall d (by simp [hd])).2]; exact h2 d hd
  ·rcases insS_mem hc with rfl | ⟨d, hd, rfl⟩
   ·exact ha
   ·exact (hall d hd).1
  ·rcases insS_mem hc with rfl | ⟨d, hd, rfl⟩
   ·exact hal
   ·rw [(hall d hd).2]; exact h.le d hd
noncomputable def putS (L : List (Fp p)) (x : Fp p) : List (Fp p) := by
 classical exact if redS L x = 0 then L else insS (Gq.mon (redS L x)) L
theorem putS_zero {L : List (Fp p)} {x : Fp p} (h : redS L x = 0) : putS L x = L := by unfold putS; rw [if_pos h]
theorem putS_ne {L : List (Fp p)} {x : Fp p} (h : redS L x ≠ 0) : putS L x = insS (Gq.mon (redS L x)) L := by unfold putS; rw [if_neg h]
noncomputable def spanS : List (Fp p) → List (Fp p) → List (Fp p)
 | [], L => L
 | x :: xs, L => spanS xs (putS L x)
theorem putS_desc {N : Nat} {L : List (Fp p)} {x : Fp p} (h : Desc N L) (hx : x.len ≤ N) : Desc N (putS L x) := by
 by_cases h0 : redS L x = 0
 ·rw [putS_zero h0]; exact h
 ·rw [putS_ne h0]
  exact insS_desc (mon_monic h0) (by rw [mon_len h0]; exact redS_le h.le hx) h fun b hb => by rw [mon_len h0]; exact redS_ne h h0 b hb
end
section
variable {p : Int}
theorem sort_row {a : Fp p} {L : List (Fp p)} {ds : List D} (hd : (insS a L).Pairwise fun x y => y.len < x.len) (hp : ds.Perm ((L.map (elim a) ++ [a]).map rowD)) (hs : Asc lenK ds) : ds = (insS a L).map rowD := by
 obtain ⟨M, p1, p2⟩ := perm_map_ex rowD hp.symm (L.map (elim a) ++ [a]) rfl
 subst p2
 have : M = insS a L := sorted_is (p1.trans (insS_perm a L).symm) hd (by
  unfold Asc at hs
  rw [List.pairwise_map] at hs
  exact hs.imp fun h => by rw [lenK_row, lenK_row] at h; omega)
 rw [this]
end
end Pe

namespace Pe
open Go Gq
variable {T : Nat → Option Fn} {A : Oracle}
section
variable {p : Int} [IsP p]
theorem rep_small (x : Zp p) : 0 ≤ rep x ∧ rep x ≤ 7 := by
 have h1 := rep_in x
 have h2 := IsP.le (p := p)
 omega
theorem k_elim {O : Oracle} (hc : K_combine O) {a b : Fp p} (ha : a.len ≤ 64) (hb : b.len ≤ 64) : ask O Fu [(D.int .i64 p), (D.sl .leaf (ints .i64 (row b))), (D.sl .leaf (ints .i64 (row a))), (D.int .i64 (-rep (b.c (a.len - 1))))] = some (D.sl .leaf (ints .i64 (row (elim a b)))) := by
 have h := rep_small (b.c (a.len - 1))
 have := hc p (-rep (b.c (a.len - 1))) b a (by omega) (by omega) (by omega) (by omega)
 rw [zp_neg, zp_rep] at this
 exact this
theorem l_red0 {O : Oracle} (hat : C_at O) (hc : K_combine O) {L : List (Fp p)} {N : Nat} (hN : N ≤ 12) (hL : Desc N L) {xs : List D} {nx i : Int} {n : Nat} (hn : L.length = n) {cp cp2 : Option Nat} : ∀ (r j : Nat) (a : Fp p), j + r = n → a.len ≤ N →
 dn O 0 (.loop Z16_L0) ⟨[(0, (.d (.int .i64 p))), (5, .sl 0 [] 0 n cp), (7, (.d (.sl .leaf (ints .i64 (row a))))), (12, .d (.sl .leaf xs)), (13, (.d (.int .i64 nx))), (14, (.d (.int .i64 i))), (18, .sl 0 [] 0 n cp2), (19, (.d (.int .i64 n))), (20, (.d (.int .i64 j)))], [.sl false .leaf (L.map rowD), .hole, .hole]⟩ =
  some (.exit 2, ⟨[(0, (.d (.int .i64 p))), (5, .sl 0 [] 0 n cp), (7, (.d (.sl .leaf (ints .i64 (row (redS (L.drop j) a)))))), (12, .d (.sl .leaf xs)), (13, (.d (.int .i64 nx))), (14, (.d (.int .i64 i))), (18, .sl 0 [] 0 n cp2), (19, (.d (.int .i64 n))), (20, (.d (.int .i64 n))), (21, (.d (.bool false)))], [.sl false .leaf (L.map rowD), .hole, .hole]⟩)
 | 0, j, a, hj, ha => by
  obtain rfl : j = n := by omega
  rw [List.drop_eq_nil_of_le (by omega)]
  refine dn_stop ?_
  show _ = some (_, (⟨[_, _, (7, (.d (.sl .leaf (ints .i64 (row a))))), _, _, _, _, _, _, _], _⟩ : St))
  generalize L.map rowD = LD at *
  simp -implicitDefEqProofs [Z16_L0, dn_cond]
 | r + 1, j, a, hj, ha => by
  have hlt : j < L.length := by omega
  have hll := hL.length
  have hjn : j < n := by omega
  have hm := List.getElem_mem hlt
  have hbl := hL.le _ hm
  have hbp := Pol.len_pos (hL.mon _ hm).2
  have e1 := hat (row a) (L[j].len - 1) (by omega)
  rw [row_cf] at e1
  have e2 := k_elim (O := O) hc (a := L[j]) (b := a) (by omega) (by omega)
  have w1 : IntKind.i64.wrap (((row L[j]).length : Int) - 1) = ((L[j].len - 1 : Nat) : Int) := by rw [row_length]; exact (w64 (by omega)).trans (by omega)
  have hr := rep_small (a.c (L[j].len - 1))
  have w2' : IntKind.i64.wrap (-rep (a.c (L[j].len - 1))) = -rep (a.c (L[j].len - 1)) := w64 (by omega)
  have w4 : IntKind.i64.wrap ((j : Int) + 1) = ((j + 1 : Nat) : Int) := (w64 (x := (j : Int) + 1) (by omega)).trans (by omega)
  have hx : ∀ h : j < (L.map rowD).length, (L.map rowD)[j]'h = (D.sl .leaf (ints .i64 (row L[j]))) := fun h => by rw [List.getElem_map]
  have hLD : (L.map rowD).length = n := by rw [List.length_map]; exact hn
  have hd : redS (L.drop j) a = redS (L.drop (j + 1)) (elim L[j] a) := by rw [List.drop_eq_getElem_cons hlt]; rfl
  have hjl : (j : Int) < n := by omega
  rw [hd]
  refine dn_round ?_ (l_red0 hat hc hN hL hn r (j + 1) (elim L[j] a) (by omega) (elim_le hbl ha))
  generalize rep (a.c (L[j].len - 1)) = k at *
  generalize row (elim L[j] a) = R1 at *
  generalize row a = R2 at *
  generalize row L[j] = R3 at *
  generalize L[j].len - 1 = d at *
  generalize L.map rowD = LD at *
  simp -implicitDefEqProofs [Z16_L0, dn_cond, hjl, hjn, hLD, hx, e1, e2, w1, w2', w4]
theorem l_red1 {O : Oracle} (hat : C_at O) (hc : K_combine O) {a : Fp p} (ha : a ≠ 0) (hal : a.len ≤ 12) {xs : List D} {nx i : Int} {n : Nat} {cp cp2 : Option Nat} : ∀ (r j : Nat) (Q : List (Fp p)), j + r = n → Q.length = n → (∀ b ∈ Q, b.len ≤ 12) → n ≤ 12 →
 dn O 0 (.loop Z16_L1) ⟨[(0, (.d (.int .i64 p))), (5, .sl 0 [] 0 n cp), (7, (.d (.sl .leaf (ints .i64 (row a))))), (12, .d (.sl .leaf xs)), (13, (.d (.int .i64 nx))), (14, (.d (.int .i64 i))), (45, .sl 0 [] 0 n cp2), (46, (.d (.int .i64 n))), (47, (.d (.int .i64 j)))], [.sl false .leaf (Q.map rowD), .hole, .hole]⟩ =
  some (.exit 4, ⟨[(0, (.d (.int .i64 p))), (5, .sl 0 [] 0 n cp), (7, (.d (.sl .leaf (ints .i64 (row a))))), (12, .d (.sl .leaf xs)), (13, (.d (.int .i64 nx))), (14, (.d (.int .i64 i))), (45, .sl 0 [] 0 n cp2), (46, (.d (.int .i64 n))), (47, (.d (.int .i64 n))), (48, (.d (.bool false)))], [.sl false .leaf ((Q.take j ++ (Q.drop j).map (elim a)).map rowD), .hole, .hole]⟩)
 | 0, j, Q, hj, hq, hQ, hn => by
  obtain rfl : j = n := by omega
  have : Q.take j ++ (Q.drop j).map (elim a) = Q := by rw [List.drop_eq_nil_of_le (by omega), List.take_of_length_le (by omega)]; simp
  rw [this]
  refine dn_stop ?_
  generalize Q.map rowD = LD at *
  simp -implicitDefEqProofs [Z16_L1, dn_cond]
 | r + 1, j, Q, hj, hq, hQ, hn => by
  have hlt : j < Q.length := by omega
  have hjn : j < n := by omega
  have hm := List.getElem_mem hlt
  have hbl := hQ _ hm
  have hap := Pol.len_pos ha
  have e1 := hat (row Q[j]) (a.len - 1) (by omega)
  rw [row_cf] at e1
  have e2 := k_elim (O := O) hc (a := a) (b := Q[j]) (by omega) (by omega)
  have w1 : IntKind.i64.wrap (((row a).length : Int) - 1) = ((a.len - 1 : Nat) : Int) := by rw [row_length]; exact (w64 (by omega)).trans (by omega)
  have hr := rep_small (Q[j].c (a.len - 1))
  have w2' : IntKind.i64.wrap (-rep (Q[j].c (a.len - 1))) = -rep (Q[j].c (a.len - 1)) := w64 (by omega)
  have w4 : IntKind.i64.wrap ((j : Int) + 1) = ((j + 1 : Nat) : Int) := (w64 (x := (j : Int) + 1) (by omega)).trans (by omega)
  have hx : ∀ h : j < (Q.map rowD).length, (Q.map rowD)[j]'h = (D.sl .leaf (ints .i64 (row Q[j]))) := fun h => by rw [List.getElem_map]
  have hLD : (Q.map rowD).length = n := by rw [List.length_map]; exact hq
  have hset : (Q.set j (elim a Q[j])).take (j + 1) ++ ((Q.set j (elim a Q[j])).drop (j + 1)).map (elim a) = Q.take j ++ (Q.drop j).map (elim a) := by
   rw [List.drop_set_of_lt (by omega), List.take_succ_eq_append_getElem (by rw [List.length_set]; exact hlt), List.getElem_set_self, List.take_set, List.set_eq_of_length_le (by rw [List.length_take]; omega), List.drop_eq_getElem_cons hlt, List.map_cons, List.append_assoc]
   rfl
  rw [← hset]
  refine dn_round ?_ (l_red1 hat hc ha hal r (j + 1) (Q.set j (elim a Q[j])) (by omega) (by rw [List.length_set]; exact hq) (fun b hb => by
   rcases List.mem_or_eq_of_mem_set hb with h | rfl
   ·exact hQ b h
   ·exact elim_le hal hbl) hn)
  have hms : (Q.set j (elim a Q[j])).map rowD = (Q.map rowD).set j (D.sl .leaf (ints .i64 (row (elim a Q[j])))) := List.map_set
  rw [hms]
  have hjl : (j : Int) < n := by omega
  generalize rep (Q[j].c (a.len - 1)) = k at *
  generalize row (elim a Q[j]) = R1 at *
  generalize row Q[j] = R2 at *
  generalize row a = R3 at *
  generalize a.len - 1 = d at *
  generalize Q.map rowD = LD at *
  simp -implicitDefEqProofs [Z16_L1, dn_cond, hjl, hjn, hLD, hx, e1, e2, w1, w2', w4]
theorem l_red2 {O : Oracle} (hat : C_at O) (hc : K_combine O) (hld : C_lead O) (hinv : C_inverse O) (hsc : K_scale O) (hsort : H_sortRow O) (hcmp : ∀ L : List (Fp p), (∀ x ∈ L, x.len ≤ 1000) → CmpRow O F17 [] [] lenK .leaf (L.map rowD)) {xs : List (Fp p)} {N : Nat} (hN : N ≤ 11) (hxs : ∀ x ∈ xs, x.len ≤ N) (hxl : xs.length < 2000000) : ∀ (r i : Nat) (L : List (Fp p)) (cp : Option Nat), i + r = xs.length → Desc N L → ∃ cp' : Option Nat,
 dn O 0 (.loop Z16_L2) ⟨[(0, (.d (.int .i64 p))), (5, .sl 0 [] 0 L.length cp), (12, .d (.sl .leaf (xs.map rowD))), (13, (.d (.int .i64 xs.length))), (14, (.d (.int .i64 i)))], [.sl false .leaf (L.map rowD), .hole, .hole]⟩ =
  some (.exit 0, ⟨[(0, (.d (.int .i64 p))), (5, .sl 0 [] 0 (spanS (xs.drop i) L).length cp'), (12, .d (.sl .leaf (xs.map rowD))), (13, (.d (.int .i64 xs.length))), (14, (.d (.int .i64 xs.length))), (15, (.d (.bool false)))], [.sl false .leaf ((spanS (xs.drop i) L).map rowD), .hole, .hole]⟩)
 | 0, i, L, cp, hi, hL => by
  obtain rfl : i = xs.length := by omega
  rw [List.drop_length]
  refine ⟨cp, dn_stop ?_⟩
  show _ = some (_, (⟨[_, (5, .sl 0 [] 0 L.length cp), _, _, _, _], [.sl false .leaf (L.map rowD), _, _]⟩ : St))
  generalize L.map rowD = LD at *
  generalize xs.map rowD = XD at *
  simp -implicitDefEqProofs [Z16_L2, dn_cond]
 | r + 1, i, L, cp, hi, hL => by
  have hlt : i < xs.length := by omega
  have hm := List.getElem_mem hlt
  have hxi := hxs _ hm
  have hll := hL.length
  have hd : spanS (xs.drop i) L = spanS (xs.drop (i + 1)) (putS L xs[i]) := by rw [List.drop_eq_getElem_cons hlt]; rfl
  have hx : ∀ h : i < (xs.map rowD).length, (xs.map rowD)[i]'h = (D.sl .leaf (ints .i64 (row xs[i]))) := fun h => by rw [List.getElem_map]
  have hXD : (xs.map rowD).length = xs.length := List.length_map ..
  have hLD : (L.map rowD).length = L.length := List.length_map ..
  have w4 : IntKind.i64.wrap ((i : Int) + 1) = ((i + 1 : Nat) : Int) := (w64 (x := (i : Int) + 1) (by omega)).trans (by omega)
  have e0 := l_red0 (O := O) hat hc (by omega) hL (xs := xs.map rowD) (nx := xs.length) (i := i) rfl (cp := cp) (cp2 := cp) L.length 0 xs[i] (Nat.zero_add _) hxi
  have e00 : ((0 : Nat) : Int) = 0 := rfl
  rw [e00, List.drop_zero] at e0
  have hrl := redS_le (L := L) hL.le hxi
  rw [hd]
  by_cases h0 : redS L xs[i] = 0
  ·rw [putS_zero h0]
   obtain ⟨cp', ih⟩ := l_red2 hat hc hld hinv hsc hsort hcmp hN hxs hxl r (i + 1) L cp (by omega) hL
   refine ⟨cp', dn_round ?_ ih⟩
   rw [h0, row_zero] at e0
   generalize row xs[i] = R1 at *
   generalize L.map rowD = LD at *
   generalize xs.map rowD = XD at *
   simp -implicitDefEqProofs [Z16_L2, dn_cond, hlt, hXD, hx, e0, w4, ints_nil]
  ·have hap := Pol.len_pos h0
   have hml := mon_len h0
   have hmm := mon_monic h0
   have hld0 := Pol.ld_ne h0
   have hri := rep_in (redS L xs[i]).ld
   have hp7 := IsP.le (p := p)
   have hp2 := IsP.ge (p := p)
   have hr0 : rep (redS L xs[i]).ld ≠ 0 := fun h => hld0 (rep_eq_zero.1 h)
   have e2 := hld (row (redS L xs[i])) (by rw [row_length]; omega)
   rw [ld_row] at e2
   have e3 := hinv p (rep (redS L xs[i]).ld) (by omega) (by omega) (by omega) (by omega)
   have hin := inv_in (p := p) (rep (redS L xs[i]).ld)
   have e4 := hsc p (inv p (rep (redS L xs[i]).ld)) (redS L xs[i]) (by omega) (by omega) (by omega)
   rw [finv_rep _ hld0, show Pol.C (Fd.inv (redS L xs[i]).ld) * redS L xs[i] = Gq.mon (redS L xs[i]) from rfl] at e4
   have e5 := l_red1 (O := O) hat hc hmm.2 (by omega) (xs := xs.map rowD) (nx := xs.length) (i := i) (n := L.length) (cp := cp) (cp2 := cp) L.length 0 L (Nat.zero_add _) rfl (fun b hb => by have := hL.le b hb; omega) (by omega)
   rw [e00, List.take_zero, List.nil_append, List.drop_zero] at e5
   have hne : ∀ b ∈ L, b.len ≠ (Gq.mon (redS L xs[i])).len := fun b hb => by rw [hml]; exact redS_ne hL h0 b hb
   have hins := insS_desc hmm (by omega) hL hne
   obtain ⟨ds, s1, s2, s3⟩ := hsort F17 [] [] lenK ((L.map (elim (Gq.mon (redS L xs[i]))) ++ [Gq.mon (redS L xs[i])]).map rowD) none (by rw [List.length_map, List.length_append, List.length_map, List.length_singleton]; omega) (hcmp _ fun x hx => by
    rcases List.mem_append.1 hx with h | h
    ·obtain ⟨b, hb, rfl⟩ := List.mem_map.1 h
     have := elim_le (N := N) (a := Gq.mon (redS L xs[i])) (by omega) (hL.le b hb)
     omega
    ·obtain rfl : x = _ := by simpa using h
     omega)
   rw [sort_row hins.pw s1 s2] at s3
   have hpl := (insS_perm (Gq.mon (redS L xs[i])) L).length_eq
   rw [List.length_append, List.length_map, List.length_singleton] at hpl
   rw [putS_ne h0]
   obtain ⟨cp', ih⟩ := l_red2 hat hc hld hinv hsc hsort hcmp hN hxs hxl r (i + 1) (insS (Gq.mon (redS L xs[i])) L) none (by omega) hins
   refine ⟨cp', dn_round ?_ ih⟩
   rw [hpl]
   have hsl : ((L.map (elim (Gq.mon (redS L xs[i]))) ++ [Gq.mon (redS L xs[i])]).map rowD).length = L.length + 1 := by rw [List.length_map, List.length_append, List.length_map, List.length_singleton]
   rw [hsl] at s3
   have hmap : (L.map (elim (Gq.mon (redS L xs[i]))) ++ [Gq.mon (redS L xs[i])]).map rowD = (L.map (elim (Gq.mon (redS L xs[i])))).map rowD ++ [(D.sl .leaf (ints .i64 (row (Gq.mon (redS L xs[i])))))] := by rw [List.map_append]; rfl
   rw [hmap] at s3
   have hLE : ((L.map (elim (Gq.mon (redS L xs[i])))).map rowD).length = L.length := by rw [List.length_map, List.length_map]
   have h24 : (L.length + 1) * 24 ≤ 1099511627776 := by omega
   have hrl0 : (row (redS L xs[i])).length ≠ 0 := by rw [row_length]; omega
   have htk : ((L.map (elim (Gq.mon (redS L xs[i])))).map rowD).take L.length = (L.map (elim (Gq.mon (redS L xs[i])))).map rowD := List.take_of_length_le (by omega)
   generalize (insS (Gq.mon (redS L xs[i])) L).map rowD = LI at *
   generalize (L.map (elim (Gq.mon (redS L xs[i])))).map rowD = LE at *
   generalize inv p (rep (redS L xs[i]).ld) = k1 at *
   generalize rep (redS L xs[i]).ld = k2 at *
   generalize row (Gq.mon (redS L xs[i])) = R2 at *
   generalize row (redS L xs[i]) = R3 at *
   generalize row xs[i] = R1 at *
   generalize L.map rowD = LD at *
   generalize xs.map rowD = XD at *
   simp -implicitDefEqProofs [Z16_L2, dn_cond, hlt, hXD, hx, e0, e2, e3, e4, e5, s3, w4, hrl0, hLE, h24, htk, List.replicate, List.idxOf, List.findIdx, List.findIdx.go]
def K_redList (O : Oracle) : Prop := ∀ (p : Int) [IsP p] (xs : List (Fp p)), (∀ x ∈ xs, x.len ≤ 11) → xs.length < 2000000 → ask O F16 [(D.int .i64 p), .sl .leaf (xs.map rowD)] = some (.sl .leaf ((spanS xs []).map rowD))
end
theorem row_cmp {p : Int} (hT : T F17 = some Z17) {L : List (Fp p)} (hl : ∀ x ∈ L, x.len ≤ 1000) : CmpRow (den T A) F17 [] [] lenK .leaf (L.map rowD) := by
 refine ⟨fun x hx => by simp at hx, fun x hx => by simp at hx, fun x hx => ?_, fun x hx => ?_, fun x hx y hy => ?_⟩
 ·obtain ⟨a, _, rfl⟩ := List.mem_map.1 hx; rfl
 ·obtain ⟨a, _, rfl⟩ := List.mem_map.1 hx; rfl
 ·obtain ⟨a, ha, rfl⟩ := List.mem_map.1 hx
  obtain ⟨b, hb, rfl⟩ := List.mem_map.1 hy
  have h1 := hl a ha
  have h2 := hl b hb
  have w1 : IntKind.i64.wrap ((b.len : Int) - a.len) = (b.len : Int) - a.len := w64 (by omega)
  refine ⟨(b.len : Int) - a.len, ask_of hT rfl ?_, by rw [lenK_row, lenK_row]; omega⟩
  simp -implicitDefEqProofs [Z17, Z17_B, w1]
theorem k_redList (hT : T F16 = some Z16) (hT1 : T F17 = some Z17) (hat : C_at (den T A)) (hc : K_combine (den T A)) (hld : C_lead (den T A)) (hinv : C_inverse (den T A)) (hsc : K_scale (den T A)) (hsort : H_sortRow (den T A)) : K_redList (den T A) := by
 intro p ip xs hxs hxl
 obtain ⟨cp, e⟩ := l_red2 (O := den T A) hat hc hld hinv hsc hsort (fun L hl => row_cmp hT1 hl) (Nat.le_refl 11) hxs hxl xs.length 0 [] (some 0) (Nat.zero_add _) (Desc.nil 11)
 have e00 : ((0 : Nat) : Int) = 0 := rfl
 rw [e00, List.drop_zero, List.map_nil, List.length_nil] at e
 have hL : ((spanS xs []).map rowD).length = (spanS xs []).length := List.length_map ..
 have hX : (xs.map rowD).length = xs.length := List.length_map ..
 have htk : ((spanS xs []).map rowD).take (spanS xs []).length = (spanS xs []).map rowD := List.take_of_length_le (by omega)
 refine ask_of hT rfl ?_
 generalize (spanS xs []).map rowD = LD at *
 generalize xs.map rowD = XD at *
 simp -implicitDefEqProofs [Z16, Z16_B, hX, hL, htk, e]
end Pe

namespace Pe
open Go Gq
variable {T : Nat → Option Fn} {A : Oracle}
noncomputable abbrev padD {p : Int} (a : Fp p) : D := (D.arr 64 .leaf (ints .u8 (pad (row a))))
theorem map_padD {p : Int} (xs : List (Fp p)) : (skP xs).map arr8 = xs.map padD := by unfold skP; rw [List.map_map]; rfl
section
variable {p : Int} [IsP p]
theorem l_rows {O : Oracle} (hro : K_rowOf O) {xs : List (Fp p)} (hl : xs.length < 2000000) (hx : ∀ x ∈ xs, x.len ≤ 64) : ∀ (r i : Nat) (cp : Option Nat), i + r = xs.length → ∃ cp' : Option Nat,
 dn O 0 (.loop Z1k_L0) ⟨[(3, .sl 0 [] 0 i cp), (6, .d (.sl (.arr 64 .leaf) (xs.map padD))), (7, (.d (.int .i64 xs.length))), (8, (.d (.int .i64 i)))], [.sl false .leaf ((xs.take i).map rowD), .hole, .hole, .hole]⟩ =
  some (.exit 0, ⟨[(3, .sl 0 [] 0 xs.length cp'), (6, .d (.sl (.arr 64 .leaf) (xs.map padD))), (7, (.d (.int .i64 xs.length))), (8, (.d (.int .i64 xs.length))), (9, (.d (.bool false)))], [.sl false .leaf (xs.map rowD), .hole, .hole, .hole]⟩)
 | 0, i, cp, hi => by
  obtain rfl : i = xs.length := by omega
  rw [List.take_length]
  refine ⟨cp, dn_stop ?_⟩
  generalize xs.map padD = XD at *
  generalize xs.map rowD = RD at *
  simp -implicitDefEqProofs [Z1k_L0, dn_cond]
 | r + 1, i, cp, hi => by
  have hlt : i < xs.length := by omega
  have hm := List.getElem_mem hlt
  have e1 := hro p xs[i] (hx _ hm)
  have hXD : (xs.map padD).length = xs.length := List.length_map ..
  have hxi : ∀ h : i < (xs.map padD).length, (xs.map padD)[i]'h = (D.arr 64 .leaf (ints .u8 (pad (row xs[i])))) := fun h => by rw [List.getElem_map]
  have w4 : IntKind.i64.wrap ((i : Int) + 1) = ((i + 1 : Nat) : Int) := (w64 (x := (i : Int) + 1) (by omega)).trans (by omega)
  have h24 : (i + 1) * 24 ≤ 1099511627776 := by omega
  have htk : (xs.take (i + 1)).map rowD = (xs.take i).map rowD ++ [(D.sl .leaf (ints .i64 (row xs[i])))] := by rw [List.take_succ_eq_append_getElem hlt, List.map_append]; rfl
  have hL : ((xs.take i).map rowD).length = i := by rw [List.length_map, List.length_take]; omega
  have htt : ((xs.take i).map rowD).take i = (xs.take i).map rowD := List.take_of_length_le (by omega)
  obtain ⟨cp', ih⟩ := l_rows hro hl hx r (i + 1) none (by omega)
  refine ⟨cp', dn_round ?_ ih⟩
  rw [htk]
  generalize pad (row xs[i]) = Pi at *
  generalize row xs[i] = Ri at *
  generalize (xs.take i).map rowD = TD at *
  generalize xs.map padD = XD at *
  simp -implicitDefEqProofs [Z1k_L0, dn_cond, hlt, hXD, hxi, e1, h24, hL, htt, w4, List.replicate]
def K_rows (O : Oracle) : Prop := ∀ (p : Int) [IsP p] (xs : List (Fp p)), xs.length < 2000000 → (∀ x ∈ xs, x.len ≤ 64) → ask O F1k [.sl (.arr 64 .leaf) (xs.map padD)] = some (.sl .leaf (xs.map rowD))
end
theorem k_rows (hT : T F1k = some Z1k) (hro : K_rowOf (den T A)) : K_rows (den T A) := by
 intro p ip xs hl hx
 obtain ⟨cp, e⟩ := l_rows (O := den T A) hro hl hx xs.length 0 (some 0) (Nat.zero_add _)
 have e00 : ((0 : Nat) : Int) = 0 := rfl
 rw [e00, List.take_zero, List.map_nil] at e
 have h1 : (xs.map rowD).length = xs.length := List.length_map ..
 have h2 : (xs.map padD).length = xs.length := List.length_map ..
 have htk : (xs.map rowD).take xs.length = xs.map rowD := List.take_of_length_le (by omega)
 refine ask_of hT rfl ?_
 generalize xs.map padD = XD at *
 generalize xs.map rowD = RD at *
 simp -implicitDefEqProofs [Z1k, Z1k_B, h1, h2, htk, e]
def K_rank (O : Oracle) : Prop := ∀ (p : Int) [IsP p] (xs : List (Fp p)), (∀ x ∈ xs, x.len ≤ 11) → xs.length < 2000000 → ask O F14 [(D.int .i64 p), .sl .leaf (xs.map rowD)] = some (D.int .i64 ((spanS xs []).length))
theorem k_rank (hT : T F14 = some Z14) (hr : K_redList (den T A)) : K_rank (den T A) := by
 intro p ip xs hx hl
 have e := hr p xs hx hl
 have h1 : ((spanS xs []).map rowD).length = (spanS xs []).length := List.length_map ..
 refine ask_of hT rfl ?_
 generalize (spanS xs []).map rowD = SD at *
 generalize xs.map rowD = RD at *
 simp -implicitDefEqProofs [Z14, Z14_B, e, h1]
def RsOk (p : Int) (l : List Int) (ls : List (List Int)) : Prop := ∃ (_ : IsP p) (m : Fp p), l = pad (row m) ∧ Fld m ∧ IsSk m ls
theorem codes_rs {p : Int} {l : List Int} {ls : List (List Int)} : codeRs p l ls = 0 ↔ RsOk p l ls := by
 unfold codeRs
 constructor
 ·intro h1
  split at h1
  ·rename_i g; exact g
  ·cases h1
 ·intro h; exact if_pos h
end Pe

namespace Pe
open Go Gq
variable {T : Nat → Option Fn} {A : Oracle}
section
variable {p : Int}
theorem pad_row_at {a : Fp p} (ha : a.len ≤ 64) {n : Nat} : ∀ h : n < (pad (row a)).length, (pad (row a))[n]'h = rep (a.c n) := fun h => by
 rw [← cf_lt h, pad_row_cf ha]
end
section
variable {p : Int} [IsP p]
theorem k_selim {O : Oracle} (hadd : K_sAdd O) {a b : Fp p} (ha : a.len ≤ 64) (hb : b.len ≤ 64) : ask O F33 [(D.int .i64 p), (D.arr 64 .leaf (ints .u8 (pad (row b)))), (D.arr 64 .leaf (ints .u8 (pad (row a)))), (D.int .i64 (-rep (b.c (a.len - 1))))] = some (D.arr 64 .leaf (ints .u8 (pad (row (elim a b))))) := by
 have h := rep_small (b.c (a.len - 1))
 have := hadd p (-rep (b.c (a.len - 1))) b a (by omega) (by omega) hb ha
 rw [zp_neg, zp_rep] at this
 exact this
theorem l_put0 {O : Oracle} (hdg : K_sDeg O) (hadd : K_sAdd O) {L : List (Fp p)} {N : Nat} (hN : N ≤ 11) (hL : Desc N L) : ∀ (r i : Nat) (a : Fp p), i + r = L.length → a.len ≤ N →
 dn O 0 (.loop Z3q_L0) ⟨[(0, (.d (.int .i64 p))), (1, .d (.sl (.arr 64 .leaf) (L.map padD))), (5, .ptr 0 []), (7, (.d (.int .i64 i)))], [.box false (D.arr 64 .leaf (ints .u8 (pad (row a)))), .hole, .hole, .hole, .hole, .hole, .hole, .hole]⟩ =
  some (.exit 0, ⟨[(0, (.d (.int .i64 p))), (1, .d (.sl (.arr 64 .leaf) (L.map padD))), (5, .ptr 0 []), (7, (.d (.int .i64 L.length))), (16, (.d (.bool false)))], [.box false (D.arr 64 .leaf (ints .u8 (pad (row (redS (L.drop i) a))))), .hole, .hole, .hole, .hole, .hole, .hole, .hole]⟩)
 | 0, i, a, hi, ha => by
  obtain rfl : i = L.length := by omega
  have hLD : (L.map padD).length = L.length := List.length_map ..
  rw [List.drop_length]
  refine dn_stop ?_
  show _ = some (_, (⟨_, [.box false (D.arr 64 .leaf (ints .u8 (pad (row a)))), _, _, _, _, _, _, _]⟩ : St))
  generalize pad (row a) = Pa at *
  generalize L.map padD = LD at *
  simp -implicitDefEqProofs [Z3q_L0, dn_cond, hLD]
 | r + 1, i, a, hi, ha => by
  have hlt : i < L.length := by omega
  have hm := List.getElem_mem hlt
  have hbl := hL.le _ hm
  have hbp := Pol.len_pos (hL.mon _ hm).2
  have hll := hL.length
  have hLD : (L.map padD).length = L.length := List.length_map ..
  have hx : ∀ h : i < (L.map padD).length, (L.map padD)[i]'h = (D.arr 64 .leaf (ints .u8 (pad (row L[i])))) := fun h => by rw [List.getElem_map]
  have e1 := hdg p L[i] (by omega)
  rw [show (L[i].len : Int) - 1 = ((L[i].len - 1 : Nat) : Int) by omega] at e1
  have e2 := k_selim hadd (a := L[i]) (b := a) (by omega) (by omega)
  have hat := pad_row_at (a := a) (by omega) (n := L[i].len - 1)
  have hPl := pad_length (row a)
  have hd64 : L[i].len - 1 < 64 := by omega
  have hr := rep_small (a.c (L[i].len - 1))
  have w1 : IntKind.i64.wrap (rep (a.c (L[i].len - 1))) = rep (a.c (L[i].len - 1)) := w64 (by omega)
  have w2 : IntKind.i64.wrap (-rep (a.c (L[i].len - 1))) = -rep (a.c (L[i].len - 1)) := w64 (by omega)
  have w4 : IntKind.i64.wrap ((i : Int) + 1) = ((i + 1 : Nat) : Int) := (w64 (x := (i : Int) + 1) (by omega)).trans (by omega)
  have hd : redS (L.drop i) a = redS (L.drop (i + 1)) (elim L[i] a) := by rw [List.drop_eq_getElem_cons hlt]; rfl
  rw [hd]
  refine dn_round ?_ (l_put0 hdg hadd hN hL r (i + 1) (elim L[i] a) (by omega) (elim_le hbl ha))
  by_cases h0 : rep (a.c (L[i].len - 1)) = 0
  ·have hz : elim L[i] a = a := by
    unfold elim
    rw [rep_eq_zero.1 h0, Gq.neg_zero, Pol.C_zero, Gq.zero_mul, Gq.add_zero]
   rw [hz]
   rw [h0] at hat
   generalize pad (row a) = Pa at *
   generalize pad (row L[i]) = Pi at *
   generalize L[i].len - 1 = d at *
   generalize L.map padD = LD at *
   simp -implicitDefEqProofs [Z3q_L0, dn_cond, hlt, hLD, hx, e1, hat, hPl, hd64, w4]
  ·generalize rep (a.c (L[i].len - 1)) = k at *
   generalize pad (row (elim L[i] a)) = Pe at *
   generalize pad (row a) = Pa at *
   generalize pad (row L[i]) = Pi at *
   generalize L[i].len - 1 = d at *
   generalize L.map padD = LD at *
   simp -implicitDefEqProofs [Z3q_L0, dn_cond, hlt, hLD, hx, e1, e2, hat, hPl, hd64, h0, w1, w2, w4]
theorem r_put0 {O : Oracle} {p : Int} {Pa : List Int} {d ql n : Nat} {LD QD : List D} {cp : Option Nat} {b : Bool} (hLD : LD.length = n) :
 dn O 0 Z3q_L1 ⟨[(0, (.d (.int .i64 p))), (1, .d (.sl (.arr 64 .leaf) LD)), (5, .ptr 0 []), (9, (.d (.int .i64 ((d : Int))))), (10, .sl 1 [] 0 ql cp), (11, (.d (.bool b))), (12, (.d (.int .i64 n)))], [.box false (D.arr 64 .leaf (ints .u8 Pa)), .sl false (.arr 64 .leaf) QD, .hole, .hole, .hole, .hole, .hole, .hole]⟩ = some (.exit 2, ⟨[(0, (.d (.int .i64 p))), (1, .d (.sl (.arr 64 .leaf) LD)), (5, .ptr 0 []), (9, (.d (.int .i64 ((d : Int))))), (10, .sl 1 [] 0 ql cp), (11, (.d (.bool b))), (12, (.d (.int .i64 n))), (59, (.d (.bool false)))], [.box false (D.arr 64 .leaf (ints .u8 Pa)), .sl false (.arr 64 .leaf) QD, .hole, .hole, .hole, .hole, .hole, .hole]⟩) := by
 simp -implicitDefEqProofs [Z3q_L1, dn_cond, hLD]
theorem r_putT {O : Oracle} {p k : Int} {Pa Pi Pe : List Int} {d ql i n : Nat} {LD QD : List D} {cp : Option Nat} (hlt : i < n) (hLD : LD.length = n) (hx : ∀ h : i < LD.length, LD[i]'h = (D.arr 64 .leaf (ints .u8 Pi))) (e2 : ask O F33 [(D.int .i64 p), (D.arr 64 .leaf (ints .u8 Pi)), (D.arr 64 .leaf (ints .u8 Pa)), (D.int .i64 (-k))] = some (D.arr 64 .leaf (ints .u8 Pe)))
 (hat : ∀ h : d < Pi.length, Pi[d]'h = k) (hPl : Pi.length = 64) (hd64 : d < 64) (hQD : QD.length = ql) (htq : QD.take ql = QD) (h64 : (ql + 1) * 64 ≤ 1099511627776) (w1 : IntKind.i64.wrap k = k) (w2 : IntKind.i64.wrap (-k) = -k) (w4 : IntKind.i64.wrap ((i : Int) + 1) = ((i + 1 : Nat) : Int)) :
 dn O 0 Z3q_L1 ⟨[(0, (.d (.int .i64 p))), (1, .d (.sl (.arr 64 .leaf) LD)), (5, .ptr 0 []), (9, (.d (.int .i64 ((d : Int))))), (10, .sl 1 [] 0 ql cp), (11, (.d (.bool true))), (12, (.d (.int .i64 i)))], [.box false (D.arr 64 .leaf (ints .u8 Pa)), .sl false (.arr 64 .leaf) QD, .hole, .hole, .hole, .hole, .hole, .hole]⟩ = some (.normal, ⟨[(0, (.d (.int .i64 p))), (1, .d (.sl (.arr 64 .leaf) LD)), (5, .ptr 0 []), (9, (.d (.int .i64 ((d : Int))))), (10, .sl 1 [] 0 (ql + 1) none), (11, (.d (.bool true))), (12, (.d (.int .i64 (((i + 1 : Nat) : Int)))))], [.box false (D.arr 64 .leaf (ints .u8 Pa)), .sl false (.arr 64 .leaf) (QD ++ [(D.arr 64 .leaf (ints .u8 Pe))]), .hole, .hole, .hole, .hole, .hole, .hole]⟩) := by
 simp -implicitDefEqProofs [Z3q_L1, dn_cond, hlt, hLD, hx, e2, hat, hPl, hd64, hQD, htq, h64, w1, w2, w4, List.replicate]
theorem take_snoc {α : Type} {QD : List α} {ql : Nat} (h : QD.length = ql) (z : α) : (QD ++ [z]).take (ql + 1) = QD ++ [z] := List.take_of_length_le (by rw [List.length_append, h]; exact Nat.le_refl _)
theorem r_putL {O : Oracle} {p k : Int} {Pa Pi Pe : List Int} {d d2 ql i n : Nat} {LD QD : List D} {cp : Option Nat} (hlt : i < n) (hLD : LD.length = n) (hx : ∀ h : i < LD.length, LD[i]'h = (D.arr 64 .leaf (ints .u8 Pi))) (e1 : ask O F35 [(D.arr 64 .leaf (ints .u8 Pi))] = some (D.int .i64 ((d2 : Int)))) (e2 : ask O F33 [(D.int .i64 p), (D.arr 64 .leaf (ints .u8 Pi)), (D.arr 64 .leaf (ints .u8 Pa)), (D.int .i64 (-k))] = some (D.arr 64 .leaf (ints .u8 Pe)))
 (hat : ∀ h : d < Pi.length, Pi[d]'h = k) (hPl : Pi.length = 64) (hd64 : d < 64) (hQD : QD.length = ql) (htq : QD.take ql = QD) (h64 : (ql + 1) * 64 ≤ 1099511627776) (h64' : (ql + 1 + 1) * 64 ≤ 1099511627776) (w1 : IntKind.i64.wrap k = k) (w2 : IntKind.i64.wrap (-k) = -k) (w4 : IntKind.i64.wrap ((i : Int) + 1) = ((i + 1 : Nat) : Int)) (hdl : d2 < d) :
 dn O 0 Z3q_L1 ⟨[(0, (.d (.int .i64 p))), (1, .d (.sl (.arr 64 .leaf) LD)), (5, .ptr 0 []), (9, (.d (.int .i64 ((d : Int))))), (10, .sl 1 [] 0 ql cp), (11, (.d (.bool false))), (12, (.d (.int .i64 i)))], [.box false (D.arr 64 .leaf (ints .u8 Pa)), .sl false (.arr 64 .leaf) QD, .hole, .hole, .hole, .hole, .hole, .hole]⟩ = some (.normal, ⟨[(0, (.d (.int .i64 p))), (1, .d (.sl (.arr 64 .leaf) LD)), (5, .ptr 0 []), (9, (.d (.int .i64 ((d : Int))))), (10, .sl 1 [] 0 (ql + 2) none), (11, (.d (.bool true))), (12, (.d (.int .i64 (((i + 1 : Nat) : Int)))))], [.box false (D.arr 64 .leaf (ints .u8 Pa)), .sl false (.arr 64 .leaf) (QD ++ [(D.arr 64 .leaf (ints .u8 Pa)), (D.arr 64 .leaf (ints .u8 Pe))]), .hole, .hole, .hole, .hole, .hole, .hole]⟩) := by
 have htq2 := fun z : D => take_snoc hQD z
 simp -implicitDefEqProofs [Z3q_L1, dn_cond, hlt, hLD, hx, e1, e2, hat, hPl, hd64, hdl, hQD, htq, htq2, h64, h64', w1, w2, w4, List.replicate]
theorem r_putG {O : Oracle} {p k : Int} {Pa Pi Pe : List Int} {d d2 ql i n : Nat} {LD QD : List D} {cp : Option Nat} (hlt : i < n) (hLD : LD.length = n) (hx : ∀ h : i < LD.length, LD[i]'h = (D.arr 64 .leaf (ints .u8 Pi))) (e1 : ask O F35 [(D.arr 64 .leaf (ints .u8 Pi))] = some (D.int .i64 ((d2 : Int)))) (e2 : ask O F33 [(D.int .i64 p), (D.arr 64 .leaf (ints .u8 Pi)), (D.arr 64 .leaf (ints .u8 Pa)), (D.int .i64 (-k))] = some (D.arr 64 .leaf (ints .u8 Pe)))
 (hat : ∀ h : d < Pi.length, Pi[d]'h = k) (hPl : Pi.length = 64) (hd64 : d < 64) (hQD : QD.length = ql) (htq : QD.take ql = QD) (h64 : (ql + 1) * 64 ≤ 1099511627776) (w1 : IntKind.i64.wrap k = k) (w2 : IntKind.i64.wrap (-k) = -k) (w4 : IntKind.i64.wrap ((i : Int) + 1) = ((i + 1 : Nat) : Int)) (hdl : ¬ d2 < d) :
 dn O 0 Z3q_L1 ⟨[(0, (.d (.int .i64 p))), (1, .d (.sl (.arr 64 .leaf) LD)), (5, .ptr 0 []), (9, (.d (.int .i64 ((d : Int))))), (10, .sl 1 [] 0 ql cp), (11, (.d (.bool false))), (12, (.d (.int .i64 i)))], [.box false (D.arr 64 .leaf (ints .u8 Pa)), .sl false (.arr 64 .leaf) QD, .hole, .hole, .hole, .hole, .hole, .hole]⟩ = some (.normal, ⟨[(0, (.d (.int .i64 p))), (1, .d (.sl (.arr 64 .leaf) LD)), (5, .ptr 0 []), (9, (.d (.int .i64 ((d : Int))))), (10, .sl 1 [] 0 (ql + 1) none), (11, (.d (.bool false))), (12, (.d (.int .i64 (((i + 1 : Nat) : Int)))))], [.box false (D.arr 64 .leaf (ints .u8 Pa)), .sl false (.arr 64 .leaf) (QD ++ [(D.arr 64 .leaf (ints .u8 Pe))]), .hole, .hole, .hole, .hole, .hole, .hole]⟩) := by
 simp -implicitDefEqProofs [Z3q_L1, dn_cond, hlt, hLD, hx, e1, e2, hat, hPl, hd64, hdl, hQD, htq, h64, w1, w2, w4, List.replicate]
theorem put_facts {O : Oracle} (hdg : K_sDeg O) (hadd : K_sAdd O) {L : List (Fp p)} {N : Nat} (hN : N ≤ 11) (hL : Desc N L) {a : Fp p} (ha : a ≠ 0) (hal : a.len ≤ N) {i : Nat} (hlt : i < L.length) :
 (∀ h : i < (L.map padD).length, (L.map padD)[i]'h = (D.arr 64 .leaf (ints .u8 (pad (row L[i]))))) ∧ ask O F35 [(D.arr 64 .leaf (ints .u8 (pad (row L[i]))))] = some (D.int .i64 (((L[i].len - 1 : Nat) : Int))) ∧
 ask O F33 [(D.int .i64 p), (D.arr 64 .leaf (ints .u8 (pad (row L[i])))), (D.arr 64 .leaf (ints .u8 (pad (row a)))), (D.int .i64 (-rep (L[i].c (a.len - 1))))] = some (D.arr 64 .leaf (ints .u8 (pad (row (elim a L[i]))))) ∧
 (∀ h : a.len - 1 < (pad (row L[i])).length, (pad (row L[i]))[a.len - 1]'h = rep (L[i].c (a.len - 1))) ∧ (pad (row L[i])).length = 64 ∧
 IntKind.i64.wrap (rep (L[i].c (a.len - 1))) = rep (L[i].c (a.len - 1)) ∧ IntKind.i64.wrap (-rep (L[i].c (a.len - 1))) = -rep (L[i].c (a.len - 1)) ∧
 IntKind.i64.wrap ((i : Int) + 1) = ((i + 1 : Nat) : Int) ∧ a.len - 1 < 64 := by
 have hm := List.getElem_mem hlt
 have hbl := hL.le _ hm
 have hbp := Pol.len_pos (hL.mon _ hm).2
 have hap := Pol.len_pos ha
 have hll := hL.length
 have e1 := hdg p L[i] (by omega)
 rw [show (L[i].len : Int) - 1 = ((L[i].len - 1 : Nat) : Int) by omega] at e1
 have hr := rep_small (L[i].c (a.len - 1))
 exact ⟨fun h => by rw [List.getElem_map], e1, k_selim hadd (a := a) (b := L[i]) (by omega) (by omega), pad_row_at (a := L[i]) (by omega) (n := a.len - 1), pad_length _, w64 (by omega), w64 (by omega), (w64 (x := (i : Int) + 1) (by omega)).trans (by omega), by omega⟩
theorem l_put1 {O : Oracle} (hdg : K_sDeg O) (hadd : K_sAdd O) {L : List (Fp p)} {N : Nat} (hN : N ≤ 11) (hL : Desc N L) {a : Fp p} (ha : a ≠ 0) (hal : a.len ≤ N) : ∀ (r i : Nat) (Q : List (Fp p)) (b : Bool) (cp : Option Nat), i + r = L.length → Q.length ≤ i + b.toNat → ∃ (Q' : List (Fp p)) (b' : Bool) (cp' : Option Nat),
 dn O 0 (.loop Z3q_L1) ⟨[(0, (.d (.int .i64 p))), (1, .d (.sl (.arr 64 .leaf) (L.map padD))), (5, .ptr 0 []), (9, (.d (.int .i64 (((a.len - 1 : Nat) : Int))))), (10, .sl 1 [] 0 Q.length cp), (11, (.d (.bool b))), (12, (.d (.int .i64 i)))], [.box false (D.arr 64 .leaf (ints .u8 (pad (row a)))), .sl false (.arr 64 .leaf) (Q.map padD), .hole, .hole, .hole, .hole, .hole, .hole]⟩ =
  some (.exit 2, ⟨[(0, (.d (.int .i64 p))), (1, .d (.sl (.arr 64 .leaf) (L.map padD))), (5, .ptr 0 []), (9, (.d (.int .i64 (((a.len - 1 : Nat) : Int))))), (10, .sl 1 [] 0 Q'.length cp'), (11, (.d (.bool b'))), (12, (.d (.int .i64 L.length))), (59, (.d (.bool false)))], [.box false (D.arr 64 .leaf (ints .u8 (pad (row a)))), .sl false (.arr 64 .leaf) (Q'.map padD), .hole, .hole, .hole, .hole, .hole, .hole]⟩) ∧
  (if b' then Q' else Q' ++ [a]) = Q ++ (if b then (L.drop i).map (elim a) else insS a (L.drop i)) ∧ Q'.length ≤ L.length + 1
 | 0, i, Q, b, cp, hi, hq => by
  obtain rfl : i = L.length := by omega
  have hLD : (L.map padD).length = L.length := List.length_map ..
  refine ⟨Q, b, cp, dn_stop ?_, ?_, by have := Bool.toNat_le b; omega⟩
  ·exact r_put0 hLD
  ·rw [List.drop_length]
   cases b <;> simp [insS]
 | r + 1, i, Q, b, cp, hi, hq => by
  have hlt : i < L.length := by omega
  have hll := hL.length
  have hbt := Bool.toNat_le b
  have hir : i + 1 + r = L.length := by omega
  have hQl : Q.length ≤ 12 := by omega
  have h64 : (Q.length + 1) * 64 ≤ 1099511627776 := Nat.le_trans (Nat.mul_le_mul_right 64 (Nat.succ_le_succ hQl)) (by decide)
  have h64' : (Q.length + 1 + 1) * 64 ≤ 1099511627776 := Nat.le_trans (Nat.mul_le_mul_right 64 (Nat.succ_le_succ (Nat.succ_le_succ hQl))) (by decide)
  have hLD : (L.map padD).length = L.length := List.length_map ..
  have hd : L.drop i = L[i] :: L.drop (i + 1) := List.drop_eq_getElem_cons hlt
  have hQD : (Q.map padD).length = Q.length := List.length_map ..
  have htq : (Q.map padD).take Q.length = Q.map padD := List.take_of_length_le (by omega)
  have hq1 : ∀ x : Fp p, (Q ++ [x]).map padD = Q.map padD ++ [(D.arr 64 .leaf (ints .u8 (pad (row x))))] := fun x => by rw [List.map_append]; rfl
  have hl1 : ∀ x : Fp p, (Q ++ [x]).length = Q.length + 1 := fun x => by rw [List.length_append]; rfl
  have hq2 : ∀ x y : Fp p, (Q ++ [x, y]).map padD = Q.map padD ++ [(D.arr 64 .leaf (ints .u8 (pad (row x)))), (D.arr 64 .leaf (ints .u8 (pad (row y))))] := fun x y => by rw [List.map_append]; rfl
  have hl2 : ∀ x y : Fp p, (Q ++ [x, y]).length = Q.length + 2 := fun x y => by rw [List.length_append]; rfl
  have hap := Pol.len_pos ha
  have hbp := Pol.len_pos (hL.mon _ (List.getElem_mem hlt)).2
  cases b with
  | true =>
   obtain ⟨Q', b', cp', g1, g2, g3⟩ := l_put1 hdg hadd hN hL ha hal r (i + 1) (Q ++ [elim a L[i]]) true none hir (by rw [hl1]; simp only [Bool.toNat_true] at hq ⊢; omega)
   refine ⟨Q', b', cp', dn_round ?_ g1, ?_, g3⟩
   ·obtain ⟨hx, e1, e2, hat, hPl, w1, w2, w4, hd64⟩ := put_facts hdg hadd hN hL ha hal hlt
    rw [hq1, hl1]; exact r_putT hlt hLD hx e2 hat hPl hd64 hQD htq h64 w1 w2 w4
   ·rw [g2, hd]; simp only [if_true, List.map_cons, List.append_assoc, List.cons_append, List.nil_append]
  | false =>
   by_cases hlen : L[i].len < a.len
   ·have hdl : L[i].len - 1 < a.len - 1 := by omega
    obtain ⟨Q', b', cp', g1, g2, g3⟩ := l_put1 hdg hadd hN hL ha hal r (i + 1) (Q ++ [a, elim a L[i]]) true none hir (by rw [hl2]; simp only [Bool.toNat_true, Bool.toNat_false] at hq ⊢; omega)
    refine ⟨Q', b', cp', dn_round ?_ g1, ?_, g3⟩
    ·obtain ⟨hx, e1, e2, hat, hPl, w1, w2, w4, hd64⟩ := put_facts hdg hadd hN hL ha hal hlt
     rw [hq2, hl2]; exact r_putL hlt hLD hx e1 e2 hat hPl hd64 hQD htq h64 h64' w1 w2 w4 hdl
    ·rw [g2, hd]
     show _ = Q ++ (if L[i].len < a.len then a :: (L[i] :: L.drop (i + 1)).map (elim a) else elim a L[i] :: insS a (L.drop (i + 1)))
     rw [if_pos hlen]; simp only [if_true, List.map_cons, List.append_assoc, List.cons_append, List.nil_append]
   ·have hdl : ¬ (L[i].len - 1 < a.len - 1) := by omega
    obtain ⟨Q', b', cp', g1, g2, g3⟩ := l_put1 hdg hadd hN hL ha hal r (i + 1) (Q ++ [elim a L[i]]) false none hir (by rw [hl1]; simp only [Bool.toNat_false] at hq ⊢; omega)
    refine ⟨Q', b', cp', dn_round ?_ g1, ?_, g3⟩
    ·obtain ⟨hx, e1, e2, hat, hPl, w1, w2, w4, hd64⟩ := put_facts hdg hadd hN hL ha hal hlt
     rw [hq1, hl1]; exact r_putG hlt hLD hx e1 e2 hat hPl hd64 hQD htq h64 w1 w2 w4 hdl
    ·rw [g2, hd]
     show _ = Q ++ (if L[i].len < a.len then a :: (L[i] :: L.drop (i + 1)).map (elim a) else elim a L[i] :: insS a (L.drop (i + 1)))
     rw [if_neg hlen]; simp
end
def K_sPut (O : Oracle) : Prop := ∀ (p : Int) [IsP p] (L : List (Fp p)) (x : Fp p), Desc 11 L → x.len ≤ 11 → ask O F3q [(D.int .i64 p), .sl (.arr 64 .leaf) (L.map padD), (D.arr 64 .leaf (ints .u8 (pad (row x))))] = some (.sl (.arr 64 .leaf) ((putS L x).map padD))
theorem k_sPut (hT : T F3q = some Z3q) (hdg : K_sDeg (den T A)) (hinv : K_sInverse (den T A)) (hadd : K_sAdd (den T A)) : K_sPut (den T A) := by
 intro p ip L x hL hx
 have e0 := l_put0 (O := den T A) hdg hadd (Nat.le_refl 11) hL L.length 0 x (Nat.zero_add _) hx
 have e00 : ((0 : Nat) : Int) = 0 := rfl
 rw [e00, List.drop_zero] at e0
 have hrl := redS_le (L := L) hL.le hx
 have e1 := hdg p (redS L x) (by omega)
 refine ask_of hT rfl ?_
 by_cases h0 : redS L x = 0
 ·rw [putS_zero h0]
  rw [h0, row_zero, Pol.len_zero] at e1
  rw [h0, row_zero] at e0
  generalize pad (row x) = Px at *
  generalize L.map padD = LD at *
  simp -implicitDefEqProofs [Z3q, Z3q_B, dn_cond, e0, e1]
 ·rw [putS_ne h0]
  have hap := Pol.len_pos h0
  have hml := mon_len h0
  have hmm := mon_monic h0
  have hld0 := Pol.ld_ne h0
  have hri := rep_in (redS L x).ld
  have hr0 : rep (redS L x).ld ≠ 0 := fun h => hld0 (rep_eq_zero.1 h)
  rw [show ((redS L x).len : Int) - 1 = (((redS L x).len - 1 : Nat) : Int) by omega] at e1
  have hat := pad_row_at (a := redS L x) (by omega) (n := (redS L x).len - 1)
  rw [show (redS L x).c ((redS L x).len - 1) = (redS L x).ld from rfl] at hat
  have hPl := pad_length (row (redS L x))
  have hd64 : (redS L x).len - 1 < 64 := by omega
  have e2 := hinv p (rep (redS L x).ld) (by omega) (by omega)
  have hin := inv_in (p := p) (rep (redS L x).ld)
  have hp7 := IsP.le (p := p)
  have e3 := hadd p (inv p (rep (redS L x).ld)) 0 (redS L x) (by omega) (by omega) (by rw [Pol.len_zero]; omega) (by omega)
  rw [finv_rep _ hld0, Gq.zero_add, show Pol.C (Fd.inv (redS L x).ld) * redS L x = Gq.mon (redS L x) from rfl, row_zero] at e3
  have w1 : IntKind.i64.wrap (inv p (rep (redS L x).ld)) = inv p (rep (redS L x).ld) := w64 (by omega)
  obtain ⟨Q', b', cp', g1, g2, g3⟩ := l_put1 (O := den T A) hdg hadd (Nat.le_refl 11) hL hmm.2 (by omega) L.length 0 [] false (some 0) (Nat.zero_add _) (by simp)
  rw [e00, List.map_nil, List.length_nil, hml] at g1
  simp only [List.drop_zero, List.nil_append, Bool.false_eq_true, if_false] at g2
  have hn0 : ¬ (((redS L x).len - 1 : Nat) : Int) < 0 := by omega
  have hll := hL.length
  have hQD : (Q'.map padD).length = Q'.length := List.length_map ..
  have htq : (Q'.map padD).take Q'.length = Q'.map padD := List.take_of_length_le (by omega)
  have h64 : (Q'.length + 1) * 64 ≤ 1099511627776 := by omega
  cases b' with
  | true =>
   simp only [if_true] at g2
   rw [← g2]
   generalize inv p (rep (redS L x).ld) = k1 at *
   generalize rep (redS L x).ld = k2 at *
   generalize pad (row (Gq.mon (redS L x))) = P2 at *
   generalize pad (row (redS L x)) = P1 at *
   generalize pad (row x) = Px at *
   generalize (redS L x).len - 1 = d at *
   generalize L.map padD = LD at *
   generalize Q'.map padD = QD at *
   generalize Q'.length = ql at *
   simp -implicitDefEqProofs [Z3q, Z3q_B, dn_cond, e0, e1, e2, e3, g1, hat, hPl, hd64, hn0, hQD, htq, w1]
  | false =>
   simp only [Bool.false_eq_true, if_false] at g2
   rw [← g2, show (Q' ++ [Gq.mon (redS L x)]).map padD = Q'.map padD ++ [(D.arr 64 .leaf (ints .u8 (pad (row (Gq.mon (redS L x))))))] by rw [List.map_append]; rfl]
   have htq2 : ∀ z : D, (Q'.map padD ++ [z]).take (Q'.length + 1) = Q'.map padD ++ [z] := fun z => List.take_of_length_le (by rw [List.length_append, hQD]; exact Nat.le_refl _)
   generalize inv p (rep (redS L x).ld) = k1 at *
   generalize rep (redS L x).ld = k2 at *
   generalize pad (row (Gq.mon (redS L x))) = P2 at *
   generalize pad (row (redS L x)) = P1 at *
   generalize pad (row x) = Px at *
   generalize (redS L x).len - 1 = d at *
   generalize L.map padD = LD at *
   generalize Q'.map padD = QD at *
   generalize Q'.length = ql at *
   simp -implicitDefEqProofs [Z3q, Z3q_B, dn_cond, e0, e1, e2, e3, g1, hat, hPl, hd64, hn0, hQD, htq, htq2, h64, w1, List.replicate]
end Pe

namespace Pe
open Go Gq
variable {T : Nat → Option Fn} {A : Oracle}
open Classical in
theorem l_sRs {O : Oracle} (hr : C_sRes O) {p : Int} [IsP p] {m : Fp p} (hm : m.len ≤ 64) {ls : List (List Int)} (h : Arrs ls) (hl : ls.length < 2000000) : ∀ (k i : Nat), i + k = ls.length →
 dn O 0 (.loop Z3s_L0) ⟨[(0, (.d (.int .i64 p))), (2, .d (.sl (.arr 64 .leaf) (ls.map arr8))), (4, .ptr 0 []), (7, (.d (.int .i64 i)))], [.box false (D.arr 64 .leaf (ints .u8 (pad (row m))))]⟩ =
  if IsSk m (ls.drop i) then some (.exit 0, ⟨[(0, (.d (.int .i64 p))), (2, .d (.sl (.arr 64 .leaf) (ls.map arr8))), (4, .ptr 0 []), (7, (.d (.int .i64 ls.length))), (15, (.d (.bool false)))], [.box false (D.arr 64 .leaf (ints .u8 (pad (row m))))]⟩) else some (.ret, ⟨[(6, (.d (.int .i64 1)))], [.hole]⟩)
 | 0, i, hi => by
  obtain rfl : i = ls.length := by omega
  rw [if_pos (by rw [List.drop_length]; exact isSk_nil m)]
  have hL : (ls.map arr8).length = ls.length := List.length_map ..
  refine dn_stop ?_
  generalize pad (row m) = Pm at *
  generalize ls.map arr8 = LD at *
  simp -implicitDefEqProofs [Z3s_L0, dn_cond, hL]
 | k + 1, i, hi => by
  have hlt : i < ls.length := by omega
  have hm1 := List.getElem_mem hlt
  have e1 := hr p m ls[i] hm (h _ hm1).2 (h _ hm1).1
  have hL : (ls.map arr8).length = ls.length := List.length_map ..
  have w4 : IntKind.i64.wrap ((i : Int) + 1) = ((i + 1 : Nat) : Int) := (w64 (x := (i : Int) + 1) (by omega)).trans (by omega)
  have hx2 : ∀ h : i < (ls.map arr8).length, (ls.map arr8)[i]'h = (D.arr 64 .leaf (ints .u8 (ls[i]))) := fun h => by rw [List.getElem_map]
  have hd : ls.drop i = ls[i] :: ls.drop (i + 1) := List.drop_eq_getElem_cons hlt
  have ih := l_sRs hr hm h hl k (i + 1) (by omega)
  rw [hd]
  by_cases hres : IsRes m ls[i]
  ·rw [decide_eq_true hres] at e1
   have hiff : IsSk m (ls[i] :: ls.drop (i + 1)) ↔ IsSk m (ls.drop (i + 1)) := ⟨fun h => (isSk_cons.1 h).2, fun h => isSk_cons.2 ⟨hres, h⟩⟩
   rw [propext hiff]
   refine dn_round ?_ ih
   generalize ls[i] = li at *
   generalize pad (row m) = Pm at *
   generalize ls.map arr8 = LD at *
   simp -implicitDefEqProofs [Z3s_L0, dn_cond, hlt, hx2, hL, e1, w4]
  ·rw [decide_eq_false hres] at e1
   rw [if_neg (fun h => hres (isSk_cons.1 h).1)]
   refine dn_back ?_
   generalize ls[i] = li at *
   generalize pad (row m) = Pm at *
   generalize ls.map arr8 = LD at *
   simp -implicitDefEqProofs [Z3s_L0, dn_cond, hlt, hx2, hL, e1]
open Classical in
theorem c_sRsCode (hT : T F3s = some Z3s) (hf : C_sField (den T A)) (hi : C_sRes (den T A)) : C_resCode (den T A) F3s := by
 intro p l ls hb hl h hlen
 have e1 := hf p l hb hl
 refine ask_of hT rfl ?_
 unfold codeRs
 by_cases hfl : IsFld p l
 ·rw [decide_eq_true hfl] at e1
  obtain ⟨ip, m, rfl, hm⟩ := hfl
  have h5 := hm.five
  have e2 := l_sRs (O := den T A) hi (m := m) (by omega) h hlen ls.length 0 (Nat.zero_add _)
  have e00 : ((0 : Nat) : Int) = 0 := rfl
  rw [e00, List.drop_zero] at e2
  have hc := fld_code hm (Q := fun ip m' => ∀ x ∈ ls, @IsRes p ip m' x)
  by_cases hs : IsSk m ls
  ·rw [if_pos hs] at e2
   rw [if_pos (hc.2 hs)]
   generalize pad (row m) = Pm at *
   generalize ls.map arr8 = LD at *
   simp -implicitDefEqProofs [Z3s, Z3s_B, dn_cond, e1, e2]
  ·rw [if_neg hs] at e2
   rw [if_neg (fun h => hs (hc.1 h))]
   generalize pad (row m) = Pm at *
   generalize ls.map arr8 = LD at *
   simp -implicitDefEqProofs [Z3s, Z3s_B, dn_cond, e1, e2]
 ·rw [decide_eq_false hfl] at e1
  rw [if_neg (fun ⟨ip, m, e, hm, _⟩ => hfl ⟨ip, m, e, hm⟩)]
  generalize ls.map arr8 = LD at *
  simp -implicitDefEqProofs [Z3s, Z3s_B, dn_cond, e1]
theorem l_sSpan {O : Oracle} (hp : K_sPut O) {p : Int} [IsP p] {xs : List (Fp p)} (hx : ∀ x ∈ xs, x.len ≤ 11) (hl : xs.length < 2000000) : ∀ (k i : Nat) (L : List (Fp p)), i + k = xs.length → Desc 11 L →
 dn O 0 (.loop Z3x_L0) ⟨[(0, (.d (.int .i64 p))), (1, .d (.sl (.arr 64 .leaf) (xs.map padD))), (5, .d (.sl (.arr 64 .leaf) (L.map padD))), (6, (.d (.int .i64 i)))], [.hole]⟩ =
  some (.exit 0, ⟨[(0, (.d (.int .i64 p))), (1, .d (.sl (.arr 64 .leaf) (xs.map padD))), (5, .d (.sl (.arr 64 .leaf) ((spanS (xs.drop i) L).map padD))), (6, (.d (.int .i64 xs.length))), (11, (.d (.bool false)))], [.hole]⟩)
 | 0, i, L, hi, hL => by
  obtain rfl : i = xs.length := by omega
  rw [List.drop_length]
  have hX : (xs.map padD).length = xs.length := List.length_map ..
  refine dn_stop ?_
  show _ = some (_, (⟨[_, _, (5, .d (.sl (.arr 64 .leaf) (L.map padD))), _, _], _⟩ : St))
  generalize L.map padD = LD at *
  generalize xs.map padD = XD at *
  simp -implicitDefEqProofs [Z3x_L0, dn_cond, hX]
 | k + 1, i, L, hi, hL => by
  have hlt : i < xs.length := by omega
  have hm1 := List.getElem_mem hlt
  have e1 := hp p L xs[i] hL (hx _ hm1)
  have hX : (xs.map padD).length = xs.length := List.length_map ..
  have w4 : IntKind.i64.wrap ((i : Int) + 1) = ((i + 1 : Nat) : Int) := (w64 (x := (i : Int) + 1) (by omega)).trans (by omega)
  have hx2 : ∀ h : i < (xs.map padD).length, (xs.map padD)[i]'h = (D.arr 64 .leaf (ints .u8 (pad (row xs[i])))) := fun h => by rw [List.getElem_map]
  have hd : spanS (xs.drop i) L = spanS (xs.drop (i + 1)) (putS L xs[i]) := by rw [List.drop_eq_getElem_cons hlt]; rfl
  rw [hd]
  refine dn_round ?_ (l_sSpan hp hx hl k (i + 1) (putS L xs[i]) (by omega) (putS_desc hL (hx _ hm1)))
  generalize pad (row xs[i]) = Pi at *
  generalize (putS L xs[i]).map padD = PD at *
  generalize L.map padD = LD at *
  generalize xs.map padD = XD at *
  simp -implicitDefEqProofs [Z3x_L0, dn_cond, hlt, hX, hx2, e1, w4]
def K_sSpan (O : Oracle) : Prop := ∀ (p : Int) [IsP p] (xs : List (Fp p)), (∀ x ∈ xs, x.len ≤ 11) → xs.length < 2000000 → ask O F3x [(D.int .i64 p), .sl (.arr 64 .leaf) (xs.map padD)] = some (.sl (.arr 64 .leaf) ((spanS xs []).map padD))
theorem k_sSpan (hT : T F3x = some Z3x) (hp : K_sPut (den T A)) : K_sSpan (den T A) := by
 intro p ip xs hx hl
 cases xs with
 | nil =>
  have st := dn_stop (O := den T A) (np := 0) (c := Z3x_L0) (s := ⟨[(0, (.d (.int .i64 p))), (1, .d (.sl (.arr 64 .leaf) [])), (5, .sl 0 [] 0 0 (some 0)), (6, (.d (.int .i64 0)))], [.sl false (.arr 64 .leaf) []]⟩) (s1 := ⟨[(0, (.d (.int .i64 p))), (1, .d (.sl (.arr 64 .leaf) [])), (5, .sl 0 [] 0 0 (some 0)), (6, (.d (.int .i64 0))), (11, (.d (.bool false)))], [.sl false (.arr 64 .leaf) []]⟩) (id := 0) (by simp -implicitDefEqProofs [Z3x_L0, dn_cond])
  refine ask_of hT rfl ?_
  simp -implicitDefEqProofs [Z3x, Z3x_B, st, spanS]
 | cons x xs =>
  have e1 := hp p [] x (Desc.nil 11) (hx x (by simp))
  have e2 := l_sSpan (O := den T A) hp hx hl xs.length 1 (putS [] x) (by rw [List.length_cons]; omega) (putS_desc (Desc.nil 11) (hx x (by simp)))
  have e01 : ((1 : Nat) : Int) = 1 := rfl
  rw [e01, show (x :: xs).drop 1 = xs from rfl, show spanS xs (putS [] x) = spanS (x :: xs) [] from rfl] at e2
  have hX : ((x :: xs).map padD).length = (x :: xs).length := List.length_map ..
  have hx2 : ∀ h : 0 < ((x :: xs).map padD).length, ((x :: xs).map padD)[0]'h = (D.arr 64 .leaf (ints .u8 (pad (row x)))) := fun h => rfl
  have hpos : (0 : Int) < ((x :: xs).length : Int) := by rw [List.length_cons]; omega
  have hpos2 : 0 < (x :: xs).length := by rw [List.length_cons]; omega
  have w1 : IntKind.i64.wrap 1 = 1 := w64 (by omega)
  rw [List.map_nil] at e1
  generalize (putS [] x).map padD = PD at *
  generalize (spanS (x :: xs) []).map padD = SD at *
  generalize pad (row x) = Px at *
  generalize (x :: xs).map padD = XD at *
  generalize (x :: xs).length = n at *
  have st := dn_round (O := den T A) (np := 0) (c := Z3x_L0) (s := ⟨[(0, (.d (.int .i64 p))), (1, .d (.sl (.arr 64 .leaf) XD)), (5, .sl 0 [] 0 0 (some 0)), (6, (.d (.int .i64 0)))], [.sl false (.arr 64 .leaf) []]⟩) (by
   simp -implicitDefEqProofs [Z3x_L0, dn_cond, hX, hx2, hpos2, e1, w1]) e2
  refine ask_of hT rfl ?_
  simp -implicitDefEqProofs [Z3x, Z3x_B, st]
theorem l_toPs {O : Oracle} (hp : C_toPoly O) {ls : List (List Int)} (h : Arrs ls) (hl : ls.length < 2000000) : ∀ (k i : Nat) (Q : List D), i + k = ls.length → Q.length = ls.length → (∀ d ∈ Q, d.sh.beq (.arr 64 .leaf) = true) → Q.take i = (ls.map arr8).take i →
 dn O 0 (.loop Z1x_L0) ⟨[(0, .d (.sl (.arr 64 .leaf) (ls.map arr8))), (3, .sl 0 [] 0 ls.length (some ls.length)), (4, (.d (.int .i64 i)))], [.sl false (.arr 64 .leaf) Q]⟩ =
  some (.exit 0, ⟨[(0, .d (.sl (.arr 64 .leaf) (ls.map arr8))), (3, .sl 0 [] 0 ls.length (some ls.length)), (4, (.d (.int .i64 ls.length))), (11, (.d (.bool false)))], [.sl false (.arr 64 .leaf) (ls.map arr8)]⟩)
 | 0, i, Q, hi, hq, hQ, ht => by
  obtain rfl : i = ls.length := by omega
  have hL : (ls.map arr8).length = ls.length := List.length_map ..
  rw [List.take_of_length_le (by omega), List.take_of_length_le (by omega)] at ht
  subst ht
  refine dn_stop ?_
  generalize ls.map arr8 = LD at *
  simp -implicitDefEqProofs [Z1x_L0, dn_cond, hL]
 | k + 1, i, Q, hi, hq, hQ, ht => by
  have hlt : i < ls.length := by omega
  have hm1 := List.getElem_mem hlt
  have hsh : ∀ h : i < Q.length, (Q[i]'h).sh.beq (.arr 64 .leaf) = true := fun h => hQ _ (List.getElem_mem h)
  have e1 := hp ls[i] (h _ hm1).2 (h _ hm1).1
  have hL : (ls.map arr8).length = ls.length := List.length_map ..
  have hx2 : ∀ h : i < (ls.map arr8).length, (ls.map arr8)[i]'h = (D.arr 64 .leaf (ints .u8 (ls[i]))) := fun h => by rw [List.getElem_map]
  have w4 : IntKind.i64.wrap ((i : Int) + 1) = ((i + 1 : Nat) : Int) := (w64 (x := (i : Int) + 1) (by omega)).trans (by omega)
  refine dn_round ?_ (l_toPs hp h hl k (i + 1) (Q.set i (D.arr 64 .leaf (ints .u8 (ls[i])))) (by omega) (by rw [List.length_set]; exact hq) (fun d hd => by
   rcases List.mem_or_eq_of_mem_set hd with h1 | rfl
   ·exact hQ d h1
   ·rfl) (by
   rw [List.take_succ_eq_append_getElem (show i < (ls.map arr8).length by omega), List.take_succ_eq_append_getElem (by rw [List.length_set]; omega), List.getElem_set_self, List.take_set, List.set_eq_of_length_le (by rw [List.length_take]; omega), ht, hx2]))
  generalize ls[i] = li at *
  generalize ls.map arr8 = LD at *
  simp -implicitDefEqProofs [Z1x_L0, dn_cond, hlt, hL, hx2, hq, hsh, e1, w4]
def C_toPs (O : Oracle) : Prop := ∀ ls : List (List Int), Arrs ls → ls.length < 2000000 → ask O F1x [.sl (.arr 64 .leaf) (ls.map arr8)] = some (.sl (.arr 64 .leaf) (ls.map arr8))
theorem c_toPs (hT : T F1x = some Z1x) (hp : C_toPoly (den T A)) : C_toPs (den T A) := by
 intro ls h hl
 have e := l_toPs (O := den T A) hp h hl ls.length 0 (List.replicate ls.length (D.arr 64 .leaf (ints .u8 (pad [])))) (Nat.zero_add _) (List.length_replicate ..) (fun d hd => by rw [List.eq_of_mem_replicate hd]; rfl) (by rw [List.take_zero, List.take_zero])
 have e00 : ((0 : Nat) : Int) = 0 := rfl
 rw [e00] at e
 have hL : (ls.map arr8).length = ls.length := List.length_map ..
 have htk : (ls.map arr8).take ls.length = ls.map arr8 := List.take_of_length_le (by omega)
 have h64 : ls.length * 64 ≤ 1099511627776 := by omega
 refine ask_of hT rfl ?_
 generalize ls.map arr8 = LD at *
 generalize ls.length = n at *
 simp -implicitDefEqProofs [Z1x, Z1x_B, e, hL, htk, h64]
theorem l_eqPs {O : Oracle} (he : C_eqPoly O) {ls : List (List Int)} (h : ∀ l ∈ ls, l.length = 64) (hl : ls.length < 2000000) : ∀ (k i : Nat), i + k = ls.length →
 dn O 0 (.loop Z1t_L0) ⟨[(0, .d (.sl (.arr 64 .leaf) (ls.map arr8))), (1, .d (.sl (.arr 64 .leaf) (ls.map arr8))), (5, (.d (.int .i64 i)))], []⟩ =
  some (.exit 0, ⟨[(0, .d (.sl (.arr 64 .leaf) (ls.map arr8))), (1, .d (.sl (.arr 64 .leaf) (ls.map arr8))), (5, (.d (.int .i64 ls.length))), (14, (.d (.bool false)))], []⟩)
 | 0, i, hi => by
  obtain rfl : i = ls.length := by omega
  have hL : (ls.map arr8).length = ls.length := List.length_map ..
  refine dn_stop ?_
  generalize ls.map arr8 = LD at *
  simp -implicitDefEqProofs [Z1t_L0, dn_cond, hL]
 | k + 1, i, hi => by
  have hlt : i < ls.length := by omega
  have e1 := he ls[i] (h _ (List.getElem_mem hlt))
  have hL : (ls.map arr8).length = ls.length := List.length_map ..
  have hx2 : ∀ h : i < (ls.map arr8).length, (ls.map arr8)[i]'h = (D.arr 64 .leaf (ints .u8 (ls[i]))) := fun h => by rw [List.getElem_map]
  have w4 : IntKind.i64.wrap ((i : Int) + 1) = ((i + 1 : Nat) : Int) := (w64 (x := (i : Int) + 1) (by omega)).trans (by omega)
  refine dn_round ?_ (l_eqPs he h hl k (i + 1) (by omega))
  generalize ls[i] = li at *
  generalize ls.map arr8 = LD at *
  simp -implicitDefEqProofs [Z1t_L0, dn_cond, hlt, hL, hx2, e1, w4]
def C_eqPs (O : Oracle) : Prop := ∀ ls : List (List Int), (∀ l ∈ ls, l.length = 64) → ls.length < 2000000 → ask O F1t [.sl (.arr 64 .leaf) (ls.map arr8), .sl (.arr 64 .leaf) (ls.map arr8)] = some (D.bool true)
theorem c_eqPs (hT : T F1t = some Z1t) (he : C_eqPoly (den T A)) : C_eqPs (den T A) := by
 intro ls h hl
 have e := l_eqPs (O := den T A) he h hl ls.length 0 (Nat.zero_add _)
 have e00 : ((0 : Nat) : Int) = 0 := rfl
 rw [e00] at e
 refine ask_of hT rfl ?_
 generalize ls.map arr8 = LD at *
 simp -implicitDefEqProofs [Z1t, Z1t_B, dn_cond, e]
def C_szPs (O : Oracle) : Prop := ∀ (L : List D) (left : Int), 0 ≤ left → left ≤ 2000000 → L.length ≤ 9223372036854775807 → ask O F1v [.sl (.arr 64 .leaf) L, (D.int .i64 left)] = some (D.int .i64 (if left < L.length then -1 else left - L.length))
theorem c_szPs (hT : T F1v = some Z1v) : C_szPs (den T A) := by
 intro L left h0 h1 hl
 have w1 : IntKind.i64.wrap (left - L.length) = left - L.length := w64 (by omega)
 refine ask_of hT rfl ?_
 by_cases h : left < L.length
 ·rw [if_pos h]
  have hn : left - (L.length : Int) < 0 := by omega
  simp -implicitDefEqProofs [Z1v, Z1v_B, dn_cond, w1, hn]
 ·rw [if_neg h]
  have hn : ¬ left - (L.length : Int) < 0 := by omega
  simp -implicitDefEqProofs [Z1v, Z1v_B, dn_cond, w1, hn]
end Pe

namespace Pe
open Go Gq
section
variable {p : Int}
noncomputable def cS (A : List (Fp p)) (i : Nat) : Fp p := (A[i]?).getD 0
theorem cS_ge {A : List (Fp p)} {i : Nat} (h : A.length ≤ i) : cS A i = 0 := by unfold cS; rw [List.getElem?_eq_none h]; rfl
theorem cS_lt {A : List (Fp p)} {i : Nat} (h : i < A.length) : A[i] = cS A i := by unfold cS; rw [List.getElem?_eq_getElem h]; rfl
def IsTrim (A : List (Fp p)) : Prop := ∀ n, A.length = n + 1 → cS A n ≠ 0
theorem cS_trim (S : List (Fp p)) (i : Nat) : cS (trimS S) i = cS S i := by
 unfold cS trimS
 have hle := stl_le S S.length
 by_cases h : i < stl S S.length
 ·rw [List.getElem?_take, if_pos h]
 ·rw [List.getElem?_take, if_neg h]
  by_cases h2 : i < S.length
  ·rw [stl_zero S S.length i (by omega) h2]; rfl
  ·rw [List.getElem?_eq_none (by omega)]
theorem isTrim_trim (S : List (Fp p)) : IsTrim (trimS S) := fun n hn => by
 obtain ⟨a, x, e, hx⟩ := trimS_form (S := S) (by omega)
 rw [e] at hn ⊢
 rw [List.length_append, List.length_singleton] at hn
 unfold cS
 rw [List.getElem?_append_right (by omega), show n - a.length = 0 by omega]
 exact hx
theorem trim_ext {A B : List (Fp p)} (hA : IsTrim A) (hB : IsTrim B) (h : ∀ i, cS A i = cS B i) : A = B := by
 have hl : A.length = B.length := by
  rcases Nat.lt_trichotomy A.length B.length with g | g | g
  ·exact absurd (by rw [← h]; exact cS_ge (by omega)) (hB (B.length - 1) (by omega))
  ·exact g
  ·exact absurd (by rw [h]; exact cS_ge (by omega)) (hA (A.length - 1) (by omega))
 refine List.ext_getElem hl fun i h1 h2 => ?_
 rw [cS_lt h1, cS_lt h2, h]
theorem trimS_congr {X Y : List (Fp p)} (h : ∀ i, cS X i = cS Y i) : trimS X = trimS Y :=
 trim_ext (isTrim_trim X) (isTrim_trim Y) fun i => by rw [cS_trim, cS_trim, h]
theorem trimS_of {A : List (Fp p)} (hA : IsTrim A) : trimS A = A := trim_ext (isTrim_trim A) hA (cS_trim A)
theorem trim_len_le {X : List (Fp p)} {n : Nat} (h : ∀ i, n ≤ i → cS X i = 0) : (trimS X).length ≤ n := by
 rcases Nat.lt_or_ge n (trimS X).length with g | g
 ·have := isTrim_trim X ((trimS X).length - 1) (by omega)
  rw [cS_trim] at this
  exact absurd (h _ (by omega)) this
 ·exact g
theorem isTrim_nil : IsTrim ([] : List (Fp p)) := fun n h => by cases h
theorem cS_nil (i : Nat) : cS ([] : List (Fp p)) i = 0 := rfl
theorem cS_mem {A : List (Fp p)} {N : Nat} (h : ∀ i, (cS A i).len ≤ N) : ∀ c ∈ A, c.len ≤ N := fun c hc => by
 obtain ⟨i, hi, rfl⟩ := List.getElem_of_mem hc
 rw [cS_lt hi]; exact h i
theorem mem_cS {A : List (Fp p)} {N : Nat} (h : ∀ c ∈ A, c.len ≤ N) (i : Nat) : (cS A i).len ≤ N := by
 by_cases hi : i < A.length
 ·rw [← cS_lt hi]; exact h _ (List.getElem_mem hi)
 ·rw [cS_ge (by omega), Pol.len_zero]; omega
theorem cS_map {n : Nat} {f : Nat → Fp p} (i : Nat) : cS ((List.range n).map f) i = if i < n then f i else 0 := by
 unfold cS
 rw [List.getElem?_map]
 by_cases h : i < n
 ·rw [List.getElem?_range h, if_pos h]; rfl
 ·rw [List.getElem?_eq_none (by simpa using h), if_neg h]; rfl
noncomputable def plusS (k : Int) (A B : List (Fp p)) : List (Fp p) := trimS ((List.range (max A.length B.length)).map fun i => cS A i + Pol.C (zp p k) * cS B i)
theorem cS_plus (k : Int) (A B : List (Fp p)) (i : Nat) : cS (plusS k A B) i = cS A i + Pol.C (zp p k) * cS B i := by
 unfold plusS
 rw [cS_trim, cS_map]
 split
 ·rfl
 ·rw [cS_ge (A := A) (by omega), cS_ge (A := B) (by omega), Gq.mul_zero, Gq.add_zero]
theorem isTrim_plus (k : Int) (A B : List (Fp p)) : IsTrim (plusS k A B) := isTrim_trim _
theorem plus_len (k : Int) (A B : List (Fp p)) : (plusS k A B).length ≤ max A.length B.length := trim_len_le fun i hi => by
 rw [cS_map, if_neg (by omega)]
noncomputable def termS (c : Fp p) (k : Nat) : List (Fp p) := List.replicate k 0 ++ [c]
theorem termS_length (c : Fp p) (k : Nat) : (termS c k).length = k + 1 := by unfold termS; rw [List.length_append, List.length_replicate]; rfl
theorem cS_term (c : Fp p) (k i : Nat) : cS (termS c k) i = if i = k then c else 0 := by
 unfold cS termS
 rcases Nat.lt_trichotomy i k with h | h | h
 ·rw [List.getElem?_append_left (by rw [List.length_replicate]; exact h), List.getElem?_replicate, if_pos h, if_neg (by omega)]; rfl
 ·rw [List.getElem?_append_right (by rw [List.length_replicate]; omega), List.length_replicate, h, Nat.sub_self, if_pos rfl]; rfl
 ·rw [List.getElem?_eq_none (by rw [List.length_append, List.length_replicate, List.length_singleton]; omega), if_neg (by omega)]; rfl
theorem isTrim_term {c : Fp p} (h : c ≠ 0) (k : Nat) : IsTrim (termS c k) := fun n hn => by
 rw [termS_length] at hn
 rw [cS_term, if_pos (by omega)]; exact h
theorem cS_pd8 {A : List (Fp p)} (i : Nat) : cS (pd8 A) i = cS A i := by
 unfold pd8 cS
 by_cases h : i < A.length
 ·rw [List.getElem?_append_left h]
 ·rw [List.getElem?_append_right (by omega), List.getElem?_replicate, List.getElem?_eq_none (l := A) (by omega)]
  split <;> rfl
theorem pd8_length {A : List (Fp p)} (h : A.length ≤ 8) : (pd8 A).length = 8 := by unfold pd8; rw [List.length_append, List.length_replicate]; omega
theorem trim_pd8 {A : List (Fp p)} (h : IsTrim A) : trimS (pd8 A) = A := (trimS_congr fun i => cS_pd8 i).trans (trimS_of h)
theorem eight_ext {X Y : List (Fp p)} (hX : X.length = 8) (hY : Y.length = 8) (h : ∀ i, i < 8 → cS X i = cS Y i) : X = Y := by
 refine List.ext_getElem (by omega) fun i h1 h2 => ?_
 rw [cS_lt h1, cS_lt h2, h i (by omega)]
theorem trimS_len_le (S : List (Fp p)) : (trimS S).length ≤ S.length := by
 unfold trimS; rw [List.length_take]; omega
theorem cS_set {X : List (Fp p)} {n i : Nat} {c : Fp p} (h : n < X.length) : cS (X.set n c) i = if i = n then c else cS X i := by
 unfold cS
 by_cases hi : i = n
 ·subst hi; rw [List.getElem?_set_self h, if_pos rfl]; rfl
 ·rw [List.getElem?_set_ne (by omega), if_neg hi]
theorem snoc_of {B : List (Fp p)} (h : 1 ≤ B.length) : ∃ b, B = b ++ [cS B (B.length - 1)] ∧ b.length = B.length - 1 := by
 have hlt : B.length - 1 < B.length := by omega
 refine ⟨B.take (B.length - 1), ?_, by rw [List.length_take]; omega⟩
 rw [← cS_lt hlt, ← List.take_succ_eq_append_getElem hlt, show B.length - 1 + 1 = B.length by omega, List.take_length]
end
section
variable {p : Int} [IsP p]
theorem byIn_lens' {m x : Fp p} {i N : Nat} (hm : m ≠ 0) (hN : m.len ≤ N + 1) : ∀ (k : Nat) (b Q : List (Fp p)), (∀ c ∈ Q, c.len ≤ N) → ∀ c ∈ byIn m x i k b Q, c.len ≤ N
 | _, [], _, h => h
 | k, y :: ys, Q, h => byIn_lens' hm hN (k + 1) ys _ (addAt_lens h (by have := Pol.len_mod (x * frIt m (i % (m.len - 1)) y) hm; omega))
theorem byOut_lens' {m : Fp p} {b : List (Fp p)} {N : Nat} (hm : m ≠ 0) (hN : m.len ≤ N + 1) : ∀ (i : Nat) (a Q : List (Fp p)), (∀ c ∈ Q, c.len ≤ N) → ∀ c ∈ byOut m b i a Q, c.len ≤ N
 | _, [], _, h => h
 | i, _x :: xs, Q, h => byOut_lens' hm hN (i + 1) xs _ (byIn_lens' hm hN 0 b Q h)
theorem prodS_lens' {m : Fp p} {a b : List (Fp p)} {N : Nat} (hm : m ≠ 0) (hN : m.len ≤ N + 1) : ∀ c ∈ prodS m a b, c.len ≤ N := fun c hc => by
 unfold prodS at hc
 split at hc
 ·cases hc
 ·have h1 : c ∈ mulS m a b := List.mem_of_mem_take hc
  exact byOut_lens' hm hN 0 a _ (fun c hc => by rw [List.eq_of_mem_replicate hc, Pol.len_zero]; omega) c h1
theorem isTrim_prod (m : Fp p) (a b : List (Fp p)) : IsTrim (prodS m a b) := by
 unfold prodS
 split
 ·exact isTrim_nil
 ·exact isTrim_trim _
theorem prod_len_le {m : Fp p} {a b : List (Fp p)} : (prodS m a b).length ≤ a.length + b.length - 1 := by
 unfold prodS
 split
 ·exact Nat.zero_le _
 ·have := trimS_len_le (mulS m a b)
  have hl : (mulS m a b).length = a.length + b.length - 1 := by unfold mulS; rw [byOut_length, List.length_replicate]
  omega
theorem mulS_val {m x y : Fp p} {a b : List (Fp p)} : cS (mulS m (a ++ [x]) (b ++ [y])) (a.length + b.length) = x * frIt m (a.length % (m.len - 1)) y % m := by
 unfold mulS
 rw [byOut_snoc, byIn_snoc]
 unfold addAt
 rw [byIn_get_ge _ _ _ (by omega), byOut_get_ge _ _ _ (by rw [List.length_append, List.length_cons, List.length_nil]; omega)]
 have hN : 0 + a.length + (0 + b.length) = a.length + b.length := by omega
 rw [hN]
 unfold cS
 rw [List.getElem?_set_self (by rw [byIn_length, byOut_length, List.length_replicate, List.length_append, List.length_append]; simp only [List.length_cons, List.length_nil]; omega)]
 rw [List.getElem?_replicate, if_pos (by rw [List.length_append, List.length_append]; simp only [List.length_cons, List.length_nil]; omega)]
 show (0 : Fp p) + _ = _
 rw [Gq.zero_add, show 0 + a.length = a.length by omega]
theorem prod_top {m : Fp p} {A B : List (Fp p)} (ha : 1 ≤ A.length) (hb : 1 ≤ B.length) : cS (prodS m A B) (A.length - 1 + (B.length - 1)) = cS A (A.length - 1) * frIt m ((A.length - 1) % (m.len - 1)) (cS B (B.length - 1)) % m := by
 obtain ⟨a, ea, la⟩ := snoc_of ha
 obtain ⟨b, eb, lb⟩ := snoc_of hb
 have h := mulS_val (m := m) (x := cS A (A.length - 1)) (y := cS B (B.length - 1)) (a := a) (b := b)
 rw [← ea, ← eb, la, lb] at h
 unfold prodS
 rw [if_neg (by omega), cS_trim]
 exact h
theorem times_pd8 {m : Fp p} {X Y : List (Fp p)} (hX : IsTrim X) (hY : IsTrim Y) (h9 : X.length + Y.length ≤ 9) (hXl : ∀ c ∈ X, c.len < m.len) (hYl : ∀ c ∈ Y, c.len < m.len) (hm : Fld m) : timesD m (pd8 X) (pd8 Y) = .tup [skwD (skP (pd8 (prodS m X Y))), (D.bool true)] := by
 unfold timesD prodS
 rw [trim_pd8 hX, trim_pd8 hY]
 by_cases h0 : X.length = 0 ∨ Y.length = 0
 ·rw [if_pos h0, if_pos h0, pd8_nil]
 ·rw [if_neg h0, if_neg (by omega), if_neg h0]
  obtain ⟨a, ea, la⟩ := snoc_of (B := X) (by omega)
  obtain ⟨b, eb, lb⟩ := snoc_of (B := Y) (by omega)
  have hx := hX (X.length - 1) (by omega)
  have hy := hY (Y.length - 1) (by omega)
  have ht := mulS_top hm (a := a) (b := b) hx (hXl _ (by rw [← cS_lt (show X.length - 1 < X.length by omega)]; exact List.getElem_mem _)) hy (hYl _ (by rw [← cS_lt (show Y.length - 1 < Y.length by omega)]; exact List.getElem_mem _))
  rw [← ea, ← eb] at ht
  rw [ht, pd8_mulS (by omega) (by omega) (by omega)]
theorem inv_back {m x y : Fp p} (hm : Fld m) (hx : x.len < m.len) (hy : y ≠ 0) (hyl : y.len < m.len) : (x * invm m y % m) * y % m = x ∧ y * (x * invm m y % m) % m = x := by
 have h0 : m ≠ 0 := hm.mon.2
 have e := invm_ok hm hy hyl
 have key : Quo.mk m ((x * invm m y % m) * y) = Quo.mk m x := by
  rw [Quo.mk_mul, Pol.mk_mod, Quo.mk_mul, Gq.mul_assoc, e, Gq.mul_one]
 have h1 := (Pol.mod_eq_iff h0).2 key
 rw [Pol.mod_small hx] at h1
 exact ⟨h1, by rw [Gq.mul_comm]; exact h1⟩
theorem frIt_add {m : Fp p} : ∀ (b a : Nat) (x : Fp p), frIt m (a + b) x = frIt m a (frIt m b x)
 | 0, _, _ => rfl
 | b + 1, a, x => by
  show frIt m (a + b) (pw x p.toNat % m) = frIt m a (frIt m b (pw x p.toNat % m))
  exact frIt_add b a _
theorem frIt_round {m : Fp p} (hm : Fld m) (j : Nat) {z : Fp p} (hz : z.len < m.len) : frIt m (j % (m.len - 1)) (frIt m ((m.len - 1 - j % (m.len - 1)) % (m.len - 1)) z) = z := by
 have h2 := hm.two
 have hlt := Nat.mod_lt j (show 0 < m.len - 1 by omega)
 rw [frIt_mod hm _ hz, ← frIt_add, show j % (m.len - 1) + (m.len - 1 - j % (m.len - 1)) = m.len - 1 by omega, ← frIt_mod hm _ hz, Nat.mod_self]
 rfl
noncomputable def qc (left : Bool) (m : Fp p) (A B : List (Fp p)) : Fp p :=
 if left then frIt m ((m.len - 1 - (B.length - 1) % (m.len - 1)) % (m.len - 1)) (cS A (A.length - 1) * invm m (cS B (B.length - 1)) % m)
 else cS A (A.length - 1) * invm m (frIt m ((A.length - B.length) % (m.len - 1)) (cS B (B.length - 1))) % m
noncomputable def qT (left : Bool) (m : Fp p) (A B : List (Fp p)) : List (Fp p) := termS (qc left m A B) (A.length - B.length)
noncomputable def qP (left : Bool) (m : Fp p) (A B : List (Fp p)) : List (Fp p) := if left then prodS m B (qT left m A B) else prodS m (qT left m A B) B
end
section
variable {p : Int}
structure Sk (m : Fp p) (A : List (Fp p)) : Prop where
 trim : IsTrim A
 eight : A.length ≤ 8
 res : ∀ c ∈ A, c.len < m.len
theorem Sk.cs {m : Fp p} {A : List (Fp p)} (h : Sk m A) (hm : m ≠ 0) (i : Nat) : (cS A i).len < m.len := by
 have := mem_cS (N := m.len - 1) (fun c hc => by have := h.res c hc; omega) i
 have := Pol.len_pos hm
 omega
theorem Sk.top {m : Fp p} {A : List (Fp p)} (h : Sk m A) (h1 : 1 ≤ A.length) : cS A (A.length - 1) ≠ 0 := h.trim _ (by omega)
theorem Sk.nil (m : Fp p) : Sk m [] := ⟨isTrim_nil, by simp, fun c h => by cases h⟩
end
section
variable {p : Int} [IsP p]
theorem c_ge' {p : Int} {a : Fp p} {n : Nat} (h : a.len ≤ n) : a.c n = 0 := a.lt_len n h
theorem Sk.plus {m : Fp p} {A B : List (Fp p)} (hm : m ≠ 0) (hA : Sk m A) (hB : Sk m B) (k : Int) : Sk m (plusS k A B) := by
 have h1 := Pol.len_pos hm
 refine ⟨isTrim_plus k A B, by have := plus_len k A B; have := hA.eight; have := hB.eight; omega, fun c hc => ?_⟩
 have := cS_mem (A := plusS k A B) (N := m.len - 1) (fun i => by
  rw [cS_plus]
  have a1 := hA.cs hm i
  have a2 := hB.cs hm i
  exact Pol.len_add_le (by omega) (Pol.len_le fun j hj => by rw [Pol.c_Cmul, c_ge' (by omega), Gq.mul_zero])) c hc
 omega
theorem step_ok (left : Bool) {m : Fp p} (hm : Fld m) {A B : List (Fp p)} (hA : Sk m A) (hB : Sk m B) (h1 : 1 ≤ B.length) (hle : B.length ≤ A.length) :
 qc left m A B ≠ 0 ∧ (qc left m A B).len < m.len ∧ Sk m (qT left m A B) ∧ Sk m (qP left m A B) ∧ (plusS (-1) A (qP left m A B)).length < A.length ∧ Sk m (plusS (-1) A (qP left m A B)) := by
 have h0 : m ≠ 0 := hm.mon.2
 have hx := hA.top (by omega)
 have hxl := hA.cs h0 (A.length - 1)
 have hy := hB.top h1
 have hyl := hB.cs h0 (B.length - 1)
 have hfy : frIt m ((A.length - B.length) % (m.len - 1)) (cS B (B.length - 1)) ≠ 0 := frIt_ne hm _ _ hy hyl
 have hfl := frIt_len h0 ((A.length - B.length) % (m.len - 1)) (cS B (B.length - 1)) hyl
 have hb1 := inv_back hm hxl hfy hfl
 have hb2 := inv_back hm hxl hy hyl
 have hzl : (cS A (A.length - 1) * invm m (cS B (B.length - 1)) % m).len < m.len := Pol.len_mod _ h0
 have hz0 : cS A (A.length - 1) * invm m (cS B (B.length - 1)) % m ≠ 0 := fun h => by
  have := hb2.1
  rw [h, Gq.zero_mul, Pol.zero_mod h0] at this
  exact hx this.symm
 have hc0 : qc left m A B ≠ 0 := by
  unfold qc
  cases left with
  | true => simp only [if_true]; exact frIt_ne hm _ _ hz0 hzl
  | false =>
   simp only [Bool.false_eq_true, if_false]
   intro h
   have := hb1.1
   rw [h, Gq.zero_mul, Pol.zero_mod h0] at this
   exact hx this.symm
 have hcl : (qc left m A B).len < m.len := by
  unfold qc
  cases left with
  | true => simp only [if_true]; exact frIt_len h0 _ _ hzl
  | false => simp only [Bool.false_eq_true, if_false]; exact Pol.len_mod _ h0
 have hTl : (qT left m A B).length = A.length - B.length + 1 := termS_length _ _
 have h8 := hA.eight
 have hT : Sk m (qT left m A B) := ⟨isTrim_term hc0 _, by omega, fun c hc => by
  unfold qT termS at hc
  rcases List.mem_append.1 hc with h | h
  ·rw [List.eq_of_mem_replicate h, Pol.len_zero]; exact Pol.len_pos h0
  ·rw [List.mem_singleton.1 h]; exact hcl⟩
 have hPl : (qP left m A B).length ≤ A.length := by
  unfold qP
  cases left with
  | true => have := prod_len_le (m := m) (a := B) (b := qT true m A B); simp only [if_true]; omega
  | false => have := prod_len_le (m := m) (a := qT false m A B) (b := B); simp only [Bool.false_eq_true, if_false]; omega
 have hP : Sk m (qP left m A B) := by
  have hm1 := Pol.len_pos h0
  refine ⟨?_, by omega, ?_⟩
  ·unfold qP
   cases left with
   | true => exact isTrim_prod _ _ _
   | false => exact isTrim_prod _ _ _
  ·intro c hc
   have : c.len ≤ m.len - 1 := by
    unfold qP at hc
    cases left with
    | true => exact prodS_lens' h0 (by omega) c hc
    | false => exact prodS_lens' h0 (by omega) c hc
   omega
 have htop : cS (qP left m A B) (A.length - 1) = cS A (A.length - 1) := by
  unfold qP
  cases left with
  | true =>
   simp only [if_true]
   have h := prod_top (m := m) (A := B) (B := qT true m A B) h1 (by omega)
   rw [hTl, show B.length - 1 + (A.length - B.length + 1 - 1) = A.length - 1 by omega, show A.length - B.length + 1 - 1 = A.length - B.length by omega] at h
   rw [h]
   unfold qT
   rw [cS_term, if_pos rfl]
   unfold qc
   simp only [if_true]
   rw [frIt_round hm (B.length - 1) hzl]
   exact hb2.2
  | false =>
   simp only [Bool.false_eq_true, if_false]
   have h := prod_top (m := m) (A := qT false m A B) (B := B) (by omega) h1
   rw [hTl, show A.length - B.length + 1 - 1 + (B.length - 1) = A.length - 1 by omega, show A.length - B.length + 1 - 1 = A.length - B.length by omega] at h
   rw [h]
   unfold qT
   rw [cS_term, if_pos rfl]
   unfold qc
   simp only [Bool.false_eq_true, if_false]
   exact hb1.1
 have hneg : ∀ x : Fp p, x + Pol.C (zp p (-1)) * x = 0 := fun x => by
  rw [zp_neg, zp_one, Pol.C_neg, Pol.C_one]
  exact ring_of [x] rfl
 refine ⟨hc0, hcl, hT, hP, ?_, hA.plus h0 hP (-1)⟩
 have hlt : (plusS (-1) A (qP left m A B)).length ≤ A.length - 1 := trim_len_le fun i hi => by
  rw [cS_map]
  split
  ·rcases Nat.lt_or_ge i A.length with g | g
   ·rw [show i = A.length - 1 by omega, htop, hneg]
   ·rw [cS_ge g, cS_ge (A := qP left m A B) (by omega), Gq.mul_zero, Gq.add_zero]
  ·rfl
 omega
def Zto (Q A B : List (Fp p)) : Prop := ∀ j, j + B.length ≤ A.length → cS Q j = 0
theorem Zto.step {left : Bool} {m : Fp p} (hm : Fld m) {Q A B : List (Fp p)} (hA : Sk m A) (hB : Sk m B) (h1 : 1 ≤ B.length) (hle : B.length ≤ A.length) (hz : Zto Q A B) : Zto (plusS 1 Q (qT left m A B)) (plusS (-1) A (qP left m A B)) B := fun j hj => by
 obtain ⟨_, _, _, _, h, _⟩ := step_ok left hm hA hB h1 hle
 unfold qT
 rw [cS_plus, hz j (by omega), cS_term, if_neg (by omega), Gq.mul_zero, Gq.add_zero]
end
end Pe

namespace Pe
open Go Gq
variable {T : Nat → Option Fn} {A : Oracle}
def K_single (O : Oracle) : Prop := ∀ (p : Int) [IsP p] (c : Fp p) (k : Nat), k < 10000 → ask O F1l [(D.sl .leaf (ints .i64 (row c))), (D.int .i64 k)] = some (skD (termS c k))
theorem termS_map {p : Int} (c : Fp p) (k : Nat) : (List.replicate (k + 1) (D.sl .leaf [])).set k (D.sl .leaf (ints .i64 (row c))) = (termS c k).map rowD := by
 unfold termS
 rw [List.map_append, List.map_replicate, show rowD (0 : Fp p) = .sl .leaf [] by show (D.sl .leaf (ints .i64 (row (0 : Fp p)))) = _; rw [row_zero, ints_nil], List.replicate_succ', List.set_append_right _ _ (by rw [List.length_replicate]; omega), List.length_replicate, Nat.sub_self]
 rfl
theorem k_single (hT : T F1l = some Z1l) : K_single (den T A) := by
 intro p ip c k hk
 have w1 : IntKind.i64.wrap ((k : Int) + 1) = ((k + 1 : Nat) : Int) := (w64 (x := (k : Int) + 1) (by omega)).trans (by omega)
 have h24 : (k + 1) * 24 ≤ 1099511627776 := by omega
 have hn : (0 : Int) ≤ ((k + 1 : Nat) : Int) := by omega
 have hlt : k < k + 1 := by omega
 have hsk : skD (termS c k) = .sl .leaf ((termS c k).map rowD) := rfl
 have htm := termS_map c k
 have hTL : ((termS c k).map rowD).length = k + 1 := by rw [List.length_map, termS_length]
 have htk : ((termS c k).map rowD).take (k + 1) = (termS c k).map rowD := List.take_of_length_le (by omega)
 rw [hsk]
 refine ask_of hT rfl ?_
 have hRL : (List.replicate (k + 1) (D.sl .leaf [])).length = k + 1 := List.length_replicate ..
 have hRg : ∀ h : k < (List.replicate (k + 1) (D.sl .leaf [])).length, (List.replicate (k + 1) (D.sl .leaf []))[k]'h = D.sl .leaf [] := fun h => List.getElem_replicate h
 generalize (termS c k).map rowD = TD at *
 generalize row c = Rc at *
 generalize hRR : List.replicate (k + 1) (D.sl .leaf []) = RR at *
 generalize k + 1 = k1 at *
 simp -implicitDefEqProofs [Z1l, Z1l_B, w1, h24, hlt, hRR, hRL, hRg, htm, hTL, htk]
def K_skAt (O : Oracle) : Prop := ∀ (p : Int) [IsP p] (A : List (Fp p)) (i : Nat), ask O F1m [skD A, (D.int .i64 i)] = some (D.sl .leaf (ints .i64 (row (cS A i))))
theorem k_skAt (hT : T F1m = some Z1m) : K_skAt (den T A) := by
 intro p ip S i
 have hsk : skD S = .sl .leaf (S.map rowD) := rfl
 have hL : (S.map rowD).length = S.length := List.length_map ..
 rw [hsk]
 refine ask_of hT rfl ?_
 by_cases h : i < S.length
 ·have hx : ∀ h : i < (S.map rowD).length, (S.map rowD)[i]'h = (D.sl .leaf (ints .i64 (row (cS S i)))) := fun h' => by rw [List.getElem_map, cS_lt h]
  generalize row (cS S i) = Rc at *
  generalize S.map rowD = SD at *
  simp -implicitDefEqProofs [Z1m, Z1m_B, dn_cond, h, hL, hx]
 ·rw [cS_ge (by omega), row_zero]
  generalize S.map rowD = SD at *
  simp -implicitDefEqProofs [Z1m, Z1m_B, dn_cond, h, hL, ints_nil]
theorem l_plus {O : Oracle} (hat : K_skAt O) (hco : K_combine O) {p : Int} [IsP p] {m : Fp p} {X Y : List (Fp p)} {k : Int} (hk : -1000 ≤ k ∧ k ≤ 1000) (hX : ∀ c ∈ X, c.len ≤ 64) (hY : ∀ c ∈ Y, c.len ≤ 64) {n : Nat} (hn : n < 100000) {cp cq : Option Nat} : ∀ (r i : Nat) (Q : List D), i + r = n → Q.length = n → (∀ d ∈ Q, d.sh.beq .leaf = true) → Q.take i = ((List.range n).map fun i => rowD (cS X i + Pol.C (zp p k) * cS Y i)).take i →
 dn O 0 (.loop Zi_L0) ⟨[(1, .d (skD X)), (2, .d (skD Y)), (3, (.d (.int .i64 k))), (4, .ptr 0 []), (9, .sl 1 [] 0 n cp), (18, (.d (.int .i64 n))), (19, (.d (.int .i64 i)))], [.box false (fldD m), .sl false .leaf Q]⟩ =
  some (.exit 0, ⟨[(1, .d (skD X)), (2, .d (skD Y)), (3, (.d (.int .i64 k))), (4, .ptr 0 []), (9, .sl 1 [] 0 n cp), (18, (.d (.int .i64 n))), (19, (.d (.int .i64 n))), (20, (.d (.bool false)))], [.box false (fldD m), .sl false .leaf ((List.range n).map fun i => rowD (cS X i + Pol.C (zp p k) * cS Y i))]⟩)
 | 0, i, Q, hi, hq, hQ, ht => by
  obtain rfl : i = n := by omega
  rw [List.take_of_length_le (by omega), List.take_of_length_le (by rw [List.length_map, List.length_range]; omega)] at ht
  subst ht
  refine dn_stop ?_
  generalize (List.range i).map (fun i => rowD (cS X i + Pol.C (zp p k) * cS Y i)) = LQ at *
  simp -implicitDefEqProofs [Zi_L0, dn_cond]
 | r + 1, i, Q, hi, hq, hQ, ht => by
  have hlt : i < n := by omega
  have hltq : i < Q.length := by omega
  have hsh : ∀ h : i < Q.length, (Q[i]'h).sh.beq .leaf = true := fun h => hQ _ (List.getElem_mem h)
  have e1 := hat p X i
  have e2 := hat p Y i
  have a1 := mem_cS hX i
  have a2 := mem_cS hY i
  have e3 := hco p k (cS X i) (cS Y i) (by omega) (by omega) (by omega) (by omega)
  have w4 : IntKind.i64.wrap ((i : Int) + 1) = ((i + 1 : Nat) : Int) := (w64 (x := (i : Int) + 1) (by omega)).trans (by omega)
  have hLn : ((List.range n).map fun i => rowD (cS X i + Pol.C (zp p k) * cS Y i)).length = n := by rw [List.length_map, List.length_range]
  refine dn_round ?_ (l_plus hat hco (m := m) hk hX hY hn (cp := cp) (cq := cq) r (i + 1) (Q.set i (D.sl .leaf (ints .i64 (row (cS X i + Pol.C (zp p k) * cS Y i))))) (by omega) (by rw [List.length_set]; exact hq) (fun d hd => by
   rcases List.mem_or_eq_of_mem_set hd with h1 | rfl
   ·exact hQ d h1
   ·rfl) (by
   rw [List.take_succ_eq_append_getElem (by rw [List.length_set]; exact hltq), List.getElem_set_self, List.take_set, List.set_eq_of_length_le (by rw [List.length_take]; omega), ht, List.take_succ_eq_append_getElem (by omega), List.getElem_map, List.getElem_range]))
  have hfd : fldD m = .st [.leaf, .leaf] [(D.int .i64 p), (D.sl .leaf (ints .i64 (row m)))] := rfl
  have hsX : skD X = .sl .leaf (X.map rowD) := rfl
  have hsY : skD Y = .sl .leaf (Y.map rowD) := rfl
  rw [hfd]
  rw [hsX] at e1 ⊢
  rw [hsY] at e2 ⊢
  generalize row (cS X i + Pol.C (zp p k) * cS Y i) = R3 at *
  generalize row (cS X i) = R1 at *
  generalize row (cS Y i) = R2 at *
  generalize X.map rowD = XD at *
  generalize Y.map rowD = YD at *
  generalize row m = Rm at *
  simp -implicitDefEqProofs [Zi_L0, dn_cond, hlt, hq, hsh, e1, e2, e3, w4]
def K_plus (O : Oracle) : Prop := ∀ (p : Int) [IsP p] (m : Fp p) (X Y : List (Fp p)) (k : Int), -1000 ≤ k → k ≤ 1000 → X.length < 10000 → Y.length < 10000 → (∀ c ∈ X, c.len ≤ 64) → (∀ c ∈ Y, c.len ≤ 64) → ask O Fi [fldD m, skD X, skD Y, (D.int .i64 k)] = some (skD (plusS k X Y))
theorem k_plus (hT : T Fi = some Zi) (hat : K_skAt (den T A)) (hco : K_combine (den T A)) (htr : K_sktrim (den T A)) : K_plus (den T A) := by
 intro p ip m X Y k hk1 hk2 hXl hYl hX hY
 have e1 := l_plus (O := den T A) hat hco (m := m) ⟨hk1, hk2⟩ hX hY (n := max X.length Y.length) (by omega) (cp := some (max X.length Y.length)) (cq := none) (max X.length Y.length) 0 (List.replicate (max X.length Y.length) (.sl .leaf [])) (Nat.zero_add _) (List.length_replicate ..) (fun d hd => by rw [List.eq_of_mem_replicate hd]; rfl) (by rw [List.take_zero, List.take_zero])
 have e00 : ((0 : Nat) : Int) = 0 := rfl
 have e2 := htr p ((List.range (max X.length Y.length)).map fun i => cS X i + Pol.C (zp p k) * cS Y i) (by rw [List.length_map, List.length_range]; omega)
 have hsum : skD ((List.range (max X.length Y.length)).map fun i => cS X i + Pol.C (zp p k) * cS Y i) = .sl .leaf ((List.range (max X.length Y.length)).map fun i => rowD (cS X i + Pol.C (zp p k) * cS Y i)) := by
  show D.sl .leaf (List.map _ (List.map _ _)) = _
  rw [List.map_map]; rfl
 rw [hsum, show trimS ((List.range (max X.length Y.length)).map fun i => cS X i + Pol.C (zp p k) * cS Y i) = plusS k X Y from rfl] at e2
 rw [e00] at e1
 have hsX : skD X = .sl .leaf (X.map rowD) := rfl
 have hsY : skD Y = .sl .leaf (Y.map rowD) := rfl
 have hsP : skD (plusS k X Y) = .sl .leaf ((plusS k X Y).map rowD) := rfl
 have hX1 : (X.map rowD).length = X.length := List.length_map ..
 have hY1 : (Y.map rowD).length = Y.length := List.length_map ..
 have hmx : (if X.length < Y.length then ((Y.length : Nat) : Int) else ((X.length : Nat) : Int)) = ((max X.length Y.length : Nat) : Int) := by split <;> omega
 have h24 : max X.length Y.length * 24 ≤ 1099511627776 := by omega
 have hLn : ((List.range (max X.length Y.length)).map fun i => rowD (cS X i + Pol.C (zp p k) * cS Y i)).length = max X.length Y.length := by rw [List.length_map, List.length_range]
 have htk : ((List.range (max X.length Y.length)).map fun i => rowD (cS X i + Pol.C (zp p k) * cS Y i)).take (max X.length Y.length) = ((List.range (max X.length Y.length)).map fun i => rowD (cS X i + Pol.C (zp p k) * cS Y i)) := List.take_of_length_le (by omega)
 rw [hsP] at e2 ⊢
 rw [hsX, hsY] at e1 ⊢
 refine ask_of hT rfl ?_
 generalize ((List.range (max X.length Y.length)).map fun i => rowD (cS X i + Pol.C (zp p k) * cS Y i)) = LQ at *
 generalize X.map rowD = XD at *
 generalize Y.map rowD = YD at *
 generalize (plusS k X Y).map rowD = PD at *
 generalize hmm : max X.length Y.length = n at *
 simp -implicitDefEqProofs [Zi, Zi_B, hX1, hY1, hmx, h24, e1, e2, hLn, htk]
def K_by2 (O : Oracle) : Prop := ∀ (p : Int) [IsP p] (m : Fp p) (a b : List (Fp p)), 2 ≤ m.len → m.len ≤ 64 → (∀ c ∈ a, c.len ≤ 64) → (∀ c ∈ b, c.len ≤ 64) → a.length < 10000 → b.length < 10000 → ask O Fc [fldD m, skD a, skD b] = some (skD (prodS m a b))
theorem k_by2 {O : Oracle} (h : K_by O) : K_by2 O := by
 intro p ip m a b h2 hml ha hb hal hbl
 rw [h p m a b h2 hml ha hb hal hbl]
 unfold prodS
 split <;> rfl
end Pe

namespace Pe
open Go Gq
variable {T : Nat → Option Fn} {A : Oracle}
end Pe


namespace Pe
open Go Gq
variable {T : Nat → Option Fn} {A : Oracle}
section
variable {p : Int} [IsP p]
end
end Pe


namespace Pe
open Go Gq
variable {T : Nat → Option Fn} {A : Oracle}
section
variable {p : Int} [IsP p]
end
end Pe

namespace Pe
open Go Gq
variable {T : Nat → Option Fn} {A : Oracle}
section
variable {α : Type}
def updG (f : Nat → α) : Nat → Nat → List α → List α
 | 0, _, l => l
 | m + 1, i, l => updG f m (i + 1) (l.set i (f i))
theorem updG_get (f : Nat → α) : ∀ (m i : Nat) (l : List α) (j : Nat), (updG f m i l)[j]? = if i ≤ j ∧ j < i + m ∧ j < l.length then some (f j) else l[j]?
 | 0, i, l, j => by rw [updG, if_neg (by omega)]
 | m + 1, i, l, j => by
  rw [updG, updG_get f m, List.length_set]
  by_cases h1 : i + 1 ≤ j ∧ j < i + 1 + m ∧ j < l.length
  ·rw [if_pos h1, if_pos (by omega)]
  ·rw [if_neg h1]
   by_cases h2 : j = i
   ·subst h2
    by_cases h3 : j < l.length
    ·rw [if_pos (by omega), List.getElem?_set_self h3]
    ·rw [if_neg (by omega), List.getElem?_eq_none (by simpa using h3), List.getElem?_eq_none (by omega)]
   ·rw [List.getElem?_set_ne (Ne.symm h2), if_neg (by omega)]
theorem updG_all (f : Nat → α) (n : Nat) (l : List α) (hl : l.length = n) : updG f n 0 l = (List.range n).map f := by
 apply List.ext_getElem?
 intro j
 rw [updG_get, List.getElem?_map]
 by_cases hj : j < n
 ·rw [if_pos (by omega), List.getElem?_range hj]; rfl
 ·rw [if_neg (by omega), List.getElem?_eq_none (by omega), List.getElem?_eq_none (by simpa using hj)]; rfl
end
end Pe

namespace Pe
open Go Gq
variable {T : Nat → Option Fn} {A : Oracle}
noncomputable abbrev eS {p : Int} (X : List (Fp p)) : D := skwD (skP (pd8 X))
theorem eS_arr {p : Int} (X : List (Fp p)) : eS X = .arr 8 (.arr 64 .leaf) ((skP (pd8 X)).map arr8) := rfl
theorem eS_get {p : Int} {X : List (Fp p)} {i : Nat} (hX : X.length ≤ 8) (hi : i < 8) : ∀ h : i < ((skP (pd8 X)).map arr8).length, ((skP (pd8 X)).map arr8)[i]'h = (D.arr 64 .leaf (ints .u8 (pad (row (cS X i))))) := fun h => by
 rw [List.getElem_map, List.getElem_map, cS_lt (by rw [pd8_length hX]; exact hi), cS_pd8]
theorem eS_len {p : Int} {X : List (Fp p)} (hX : X.length ≤ 8) : ((skP (pd8 X)).map arr8).length = 8 := by rw [List.length_map, List.length_map, pd8_length hX]
def K_sTimes8 (O : Oracle) : Prop := ∀ (p : Int) [IsP p] (m : Fp p) (X Y : List (Fp p)), Fld m → Sk m X → Sk m Y → X.length + Y.length ≤ 9 → ask O F3t [(D.int .i64 p), (D.arr 64 .leaf (ints .u8 (pad (row m)))), eS X, eS Y] = some (.tup [eS (prodS m X Y), (D.bool true)])
theorem pd8_res {p : Int} {m : Fp p} {X : List (Fp p)} (hm : m ≠ 0) (hX : ∀ c ∈ X, c.len < m.len) : ∀ c ∈ pd8 X, c.len < m.len := fun c hc => by
 unfold pd8 at hc
 rcases List.mem_append.1 hc with h | h
 ·exact hX c h
 ·rw [List.eq_of_mem_replicate h, Pol.len_zero]; exact Pol.len_pos hm
theorem k_sTimes8 {O : Oracle} (h : K_sTimes3 O) : K_sTimes8 O := by
 intro p ip m X Y hm hX hY h9
 have h5 := hm.five
 have e := h p m (pd8 X) (pd8 Y) hm.two (by omega) (pd8_length hX.eight) (pd8_length hY.eight) (pd8_res hm.mon.2 hX.res) (pd8_res hm.mon.2 hY.res)
 rw [times_pd8 hX.trim hY.trim h9 hX.res hY.res hm] at e
 exact e
end Pe


namespace Pe
open Go Gq
variable {T : Nat → Option Fn} {A : Oracle}
end Pe

namespace Pe
open Go Gq
variable {T : Nat → Option Fn} {A : Oracle}
theorem eS_sh {p : Int} {m : Fp p} {X : List (Fp p)} (h : Sk m X) : Sh8 (skP (pd8 X)) := sh8_skP (pd8_length h.eight)
end Pe

namespace Pe
open Go Gq
variable {T : Nat → Option Fn} {A : Oracle}
section
variable {p : Int} [IsP p]
theorem byIn_cS {m x : Fp p} {i n : Nat} : ∀ (k : Nat) (b Q : List (Fp p)), i + k + b.length ≤ Q.length → cS (byIn m x i k b Q) n = if i + k ≤ n ∧ n < i + k + b.length then cS Q n + x * frIt m (i % (m.len - 1)) (cS b (n - (i + k))) % m else cS Q n
 | k, [], Q, _ => by rw [if_neg (by rw [List.length_nil]; omega)]; rfl
 | k, y :: ys, Q, h => by
  rw [List.length_cons] at h
  show cS (byIn m x i (k + 1) ys (addAt Q (i + k) _)) n = _
  rw [byIn_cS (k + 1) ys _ (by rw [addAt_length]; omega)]
  have hadd : ∀ v : Fp p, cS (addAt Q (i + k) v) n = if n = i + k then cS Q n + v else cS Q n := fun v => by
   unfold addAt
   rw [cS_set (by omega)]
   split
   ·rename_i h; rw [h]; rfl
   ·rfl
  rw [hadd]
  by_cases h1 : n = i + k
  ·subst h1
   rw [if_neg (by omega), if_pos rfl, if_pos (by rw [List.length_cons]; omega), Nat.sub_self]
   rfl
  ·rw [if_neg h1]
   by_cases h2 : i + k ≤ n ∧ n < i + k + (y :: ys).length
   ·rw [List.length_cons] at h2
    rw [if_pos (by omega), if_pos (by rw [List.length_cons]; omega)]
    have : cS (y :: ys) (n - (i + k)) = cS ys (n - (i + (k + 1))) := by
     unfold cS
     rw [show n - (i + k) = (n - (i + (k + 1))) + 1 by omega, List.getElem?_cons_succ]
    rw [this]
   ·rw [if_neg h2, if_neg (by rw [List.length_cons] at h2; omega)]
theorem prod_one {m x : Fp p} (hm : m ≠ 0) (X : List (Fp p)) (i : Nat) : cS (prodS m (termS x 0) X) i = x * cS X i % m := by
 unfold prodS
 have hz : x * 0 % m = 0 := by rw [Gq.mul_zero, Pol.zero_mod hm]
 by_cases h0 : X.length = 0
 ·rw [if_pos (.inr h0), cS_nil, cS_ge (by omega), hz]
 ·rw [if_neg (by rw [termS_length]; omega), cS_trim]
  show cS (byIn m x 0 0 X (List.replicate ((termS x 0).length + X.length - 1) 0)) i = _
  rw [termS_length, byIn_cS 0 X _ (by rw [List.length_replicate]; omega), Nat.zero_mod]
  have hr : cS (List.replicate (0 + 1 + X.length - 1) (0 : Fp p)) i = 0 := by
   unfold cS
   rw [List.getElem?_replicate]
   split <;> rfl
  rw [hr]
  split
  ·rw [Gq.zero_add]; rfl
  ·rw [cS_ge (A := X) (by omega), hz]
noncomputable def monS (m : Fp p) (X : List (Fp p)) : List (Fp p) := prodS m (termS (invm m (cS X (X.length - 1))) 0) X
theorem Sk.mon {m : Fp p} {X : List (Fp p)} (hm : m ≠ 0) (hX : Sk m X) : Sk m (monS m X) := by
 have h1 := Pol.len_pos hm
 have hl := prod_len_le (m := m) (a := termS (invm m (cS X (X.length - 1))) 0) (b := X)
 rw [termS_length] at hl
 have h8 := hX.eight
 exact ⟨isTrim_prod _ _ _, by unfold monS; omega, fun c hc => by have := prodS_lens' (N := m.len - 1) hm (by omega) c hc; omega⟩
end
end Pe

namespace Pe
open Go Gq
variable {T : Nat → Option Fn} {A : Oracle}
section
variable {p : Int}
end
section
variable {p : Int} [IsP p]
theorem prodS_len {m : Fp p} (hm : Fld m) {X Y : List (Fp p)} (hX : IsTrim X) (hY : IsTrim Y) (hXl : ∀ c ∈ X, c.len < m.len) (hYl : ∀ c ∈ Y, c.len < m.len) (h1 : 1 ≤ X.length) (h2 : 1 ≤ Y.length) : (prodS m X Y).length = X.length + Y.length - 1 := by
 obtain ⟨a, ea, la⟩ := snoc_of h1
 obtain ⟨b, eb, lb⟩ := snoc_of h2
 have hx := hX (X.length - 1) (by omega)
 have hy := hY (Y.length - 1) (by omega)
 have ht := mulS_top hm (a := a) (b := b) hx (hXl _ (by rw [← cS_lt (show X.length - 1 < X.length by omega)]; exact List.getElem_mem _)) hy (hYl _ (by rw [← cS_lt (show Y.length - 1 < Y.length by omega)]; exact List.getElem_mem _))
 rw [← ea, ← eb] at ht
 unfold prodS
 rw [if_neg (by omega), ht]
 unfold mulS
 rw [byOut_length, List.length_replicate]
theorem one_ne8 : (1 : Fp p) ≠ 0 := fun h => by
 have e : (1 : Fp p).len = 1 := Pol.len_one
 rw [h, Pol.len_zero] at e
 cases e
theorem sk_one {m : Fp p} (hm : Fld m) : Sk m (termS (1 : Fp p) 0) := ⟨isTrim_term one_ne8 0, by rw [termS_length]; omega, fun c hc => by
 unfold termS at hc
 rw [List.replicate_zero, List.nil_append] at hc
 rw [List.mem_singleton.1 hc]
 have := hm.two
 have : (1 : Fp p).len = 1 := Pol.len_one
 omega⟩
theorem mon_len {m : Fp p} (hm : Fld m) {X : List (Fp p)} (hX : IsTrim X) (hr : ∀ c ∈ X, c.len < m.len) (h1 : 1 ≤ X.length) : (monS m X).length = X.length := by
 have h0 := hm.mon.2
 have hx : cS X (X.length - 1) ≠ 0 := hX _ (by omega)
 have hxl : (cS X (X.length - 1)).len < m.len := by
  rw [← cS_lt (show X.length - 1 < X.length by omega)]; exact hr _ (List.getElem_mem _)
 have hi : invm m (cS X (X.length - 1)) ≠ 0 := fun h => by
  have e := inv_back hm (x := 1) (by have := hm.two; have : (1 : Fp p).len = 1 := Pol.len_one; omega) hx hxl
  rw [h, Gq.mul_zero, Pol.zero_mod h0, Gq.zero_mul, Pol.zero_mod h0] at e
  exact one_ne8 e.1.symm
 have hil := invm_len h0 (cS X (X.length - 1))
 have := prodS_len hm (isTrim_term hi 0) hX (fun c hc => by
  unfold termS at hc
  rw [List.replicate_zero, List.nil_append] at hc
  rw [List.mem_singleton.1 hc]; exact hil) hr (by rw [termS_length]; omega) h1
 rw [termS_length] at this
 unfold monS
 omega
end
def K_sOne3 (O : Oracle) : Prop := ∀ (p : Int) [IsP p], ask O F3p [] = some (eS (termS (1 : Fp p) 0))
theorem k_sOne3 (hT : T F3p = some Z3p) (h1 : K_sOne (den T A)) : K_sOne3 (den T A) := by
 intro p ip
 have e1 := h1 p
 have e2 : skP (pd8 (termS (1 : Fp p) 0)) = pad (row (1 : Fp p)) :: List.replicate 7 (pad []) := by
  show pad (row (1 : Fp p)) :: (List.replicate 7 (0 : Fp p)).map (fun a => pad (row a)) = _
  rw [List.map_replicate, row_zero]
 have e3 : (pad (row (1 : Fp p)) :: List.replicate 7 (pad [])).map arr8 = z8.set 0 (D.arr 64 .leaf (ints .u8 (pad (row (1 : Fp p))))) := rfl
 rw [eS_arr, e2, e3]
 refine ask_of hT rfl ?_
 generalize pad (row (1 : Fp p)) = P1 at *
 simp -implicitDefEqProofs [Z3p, Z3p_B, e1, z8, List.replicate]
end Pe

namespace Pe
open Go Gq
variable {T : Nat → Option Fn} {A : Oracle}
def C_grow (O : Oracle) : Prop := ∀ n : Nat, n < 10000000 → O F25 [.d (.nils (.arr 64 .leaf)), (.d (.int .i64 n))] [] = some (.sl 0 [] 0 0 none, [], [.sl false (.arr 64 .leaf) (List.replicate n (.arr 64 .leaf z64))])
def C_concat (O : Oracle) : Prop := ∀ X Y : List D, X.length < 2000000 → Y.length < 2000000 → ask O F22 [.sl .leaf [.sl (.arr 64 .leaf) X, .sl (.arr 64 .leaf) Y]] = some (.sl (.arr 64 .leaf) (X ++ Y))
theorem c_concat (hT : T F22 = some Z22) (hg : C_grow (den T A)) : C_concat (den T A) := by
 intro X Y hX hY
 have eg := hg (X.length + Y.length) (by omega)
 obtain ⟨x, hx⟩ : ∃ x : Int, (X.length : Int) = x := ⟨_, rfl⟩
 obtain ⟨y, hy⟩ : ∃ y : Int, ((X.length + Y.length : Nat) : Int) = y := ⟨_, rfl⟩
 rw [hy] at eg
 have w0 : IntKind.i64.wrap x = x := w64 (by omega)
 have hsum : x + (Y.length : Int) = y := by omega
 have w1 : IntKind.i64.wrap y = y := w64 (by omega)
 have w2 : IntKind.i64.wrap 1 = 1 := w64 (by omega)
 have w3 : IntKind.i64.wrap 2 = 2 := w64 (by omega)
 have n1 : ¬ x < 0 := by omega
 have n2 : ¬ y < 0 := by omega
 have b1 : X.length * 64 ≤ 1099511627776 := by omega
 have b2 : (X.length + Y.length) * 64 ≤ 1099511627776 := by omega
 have hXY : (X ++ Y).length = X.length + Y.length := List.length_append
 generalize List.replicate (X.length + Y.length) (D.arr 64 .leaf z64) = ZZ at *
 have st := dn_round (O := den T A) (np := 0) (c := Z22_L0) (s := ⟨[(0, .d (.sl .leaf [.sl (.arr 64 .leaf) X, .sl (.arr 64 .leaf) Y])), (3, (.d (.int .i64 0))), (9, .d (.sl .leaf [.sl (.arr 64 .leaf) X, .sl (.arr 64 .leaf) Y])), (10, (.d (.int .i64 2))), (11, (.d (.int .i64 0)))], [.hole, .hole]⟩)
  (s1 := ⟨[(0, .d (.sl .leaf [.sl (.arr 64 .leaf) X, .sl (.arr 64 .leaf) Y])), (3, (.d (.int .i64 x))), (9, .d (.sl .leaf [.sl (.arr 64 .leaf) X, .sl (.arr 64 .leaf) Y])), (10, (.d (.int .i64 2))), (11, (.d (.int .i64 1)))], [.hole, .hole]⟩) (by
   simp -implicitDefEqProofs [Z22_L0, dn_cond, hx, w0, w2, n1])
  (dn_round (s1 := ⟨[(0, .d (.sl .leaf [.sl (.arr 64 .leaf) X, .sl (.arr 64 .leaf) Y])), (3, (.d (.int .i64 y))), (9, .d (.sl .leaf [.sl (.arr 64 .leaf) X, .sl (.arr 64 .leaf) Y])), (10, (.d (.int .i64 2))), (11, (.d (.int .i64 2)))], [.hole, .hole]⟩) (by
   simp -implicitDefEqProofs [Z22_L0, dn_cond, hsum, w1, w3, n2])
  (dn_stop (id := 0) (s1 := ⟨[(0, .d (.sl .leaf [.sl (.arr 64 .leaf) X, .sl (.arr 64 .leaf) Y])), (3, (.d (.int .i64 y))), (9, .d (.sl .leaf [.sl (.arr 64 .leaf) X, .sl (.arr 64 .leaf) Y])), (10, (.d (.int .i64 2))), (11, (.d (.int .i64 2))), (12, (.d (.bool false)))], [.hole, .hole]⟩) (by
   simp -implicitDefEqProofs [Z22_L0, dn_cond])))
 have sx := dn_round (O := den T A) (np := 0) (c := Z22_L1) (s := ⟨[(6, .sl 0 [] 0 0 none), (25, .d (.sl .leaf [.sl (.arr 64 .leaf) X, .sl (.arr 64 .leaf) Y])), (26, (.d (.int .i64 2))), (27, (.d (.int .i64 0)))], [.sl false (.arr 64 .leaf) ZZ, .hole]⟩)
  (s1 := ⟨[(6, .sl 0 [] 0 X.length none), (25, .d (.sl .leaf [.sl (.arr 64 .leaf) X, .sl (.arr 64 .leaf) Y])), (26, (.d (.int .i64 2))), (27, (.d (.int .i64 1)))], [.sl false (.arr 64 .leaf) X, .hole]⟩) (by
   simp -implicitDefEqProofs [Z22_L1, dn_cond, w2, b1])
  (dn_round (s1 := ⟨[(6, .sl 0 [] 0 (X.length + Y.length) none), (25, .d (.sl .leaf [.sl (.arr 64 .leaf) X, .sl (.arr 64 .leaf) Y])), (26, (.d (.int .i64 2))), (27, (.d (.int .i64 2)))], [.sl false (.arr 64 .leaf) (X ++ Y), .hole]⟩) (by
   simp -implicitDefEqProofs [Z22_L1, dn_cond, w3, b2])
  (dn_stop (id := 2) (s1 := ⟨[(6, .sl 0 [] 0 (X.length + Y.length) none), (25, .d (.sl .leaf [.sl (.arr 64 .leaf) X, .sl (.arr 64 .leaf) Y])), (26, (.d (.int .i64 2))), (27, (.d (.int .i64 2))), (28, (.d (.bool false)))], [.sl false (.arr 64 .leaf) (X ++ Y), .hole]⟩) (by
   simp -implicitDefEqProofs [Z22_L1, dn_cond])))
 refine ask_of hT rfl ?_
 have htk : (X ++ Y).take (X.length + Y.length) = X ++ Y := List.take_of_length_le (by omega)
 generalize X ++ Y = XY at *
 generalize X.length + Y.length = n at *
 simp -implicitDefEqProofs [Z22, Z22_B, st, sx, eg, hXY, htk, List.idxOf, List.findIdx, List.findIdx.go]
section
variable {p : Int}
variable [IsP p]
end
theorem rsOk_append {p : Int} {l : List Int} {ls ms : List (List Int)} : RsOk p l (ls ++ ms) ↔ RsOk p l ls ∧ RsOk p l ms := by
 constructor
 ·rintro ⟨ip, m, e, hm, hs⟩
  exact ⟨⟨ip, m, e, hm, fun x hx => hs x (by simp [hx])⟩, ⟨ip, m, e, hm, fun x hx => hs x (by simp [hx])⟩⟩
 ·rintro ⟨⟨ip, m, rfl, hm, hs⟩, ⟨ip', m', e', hm', hs'⟩⟩
  have h5 := hm.five
  have h6 := hm'.five
  obtain rfl := (pad_row_inj (by omega) (by omega)).1 e'
  refine ⟨ip, m, rfl, hm, fun x hx => ?_⟩
  rcases List.mem_append.1 hx with h | h
  ·exact hs x h
  ·exact hs' x h
theorem codeRs_not {p : Int} {l : List Int} {ls : List (List Int)} (h : ¬ RsOk p l ls) : codeRs p l ls = 1 := if_neg h
open Classical in
noncomputable def codePl (p : Int) (l : List Int) (ls ms : List (List Int)) (c : Prop) : Int :=
 if h : RsOk p l (ls ++ ms) then
  haveI : IsP p := h.choose
  if ¬ (1 ≤ ls.length ∧ ls.length ≤ 4 ∧ c) then 2 else if (spanS (ls.map (polOf p)) []).length < ls.length then 5 else 0
 else 1
def C_places (O : Oracle) : Prop := ∀ (p : Int) (l : List Int) (ls ms : List (List Int)) (b : Bool), Bytes l → l.length = 64 → Arrs ls → Arrs ms → ls.length + ms.length < 2000000 → ask O Fs [(D.int .i64 p), (D.arr 64 .leaf (ints .u8 l)), .sl (.arr 64 .leaf) (ls.map arr8), .sl (.arr 64 .leaf) (ms.map arr8), (D.bool b)] = some (D.int .i64 (codePl p l ls ms (b = true)))
theorem c_places (hT : T Fs = some Zs) (hcc : C_concat (den T A)) (hr : C_resCode (den T A) F1d) (hro : K_rows (den T A)) (hra : K_rank (den T A)) : C_places (den T A) := by
 intro p l ls ms b bl gl ha hb hl
 have e0 := hcc (ls.map arr8) (ms.map arr8) (by rw [List.length_map]; omega) (by rw [List.length_map]; omega)
 rw [← List.map_append] at e0
 have e1 := hr p l (ls ++ ms) bl gl (fun x hx => by
  rcases List.mem_append.1 hx with h | h
  ·exact ha x h
  ·exact hb x h) (by rw [List.length_append]; omega)
 have hL : (ls.map arr8).length = ls.length := List.length_map ..
 unfold codePl
 by_cases h : RsOk p l (ls ++ ms)
 ·rw [codes_rs.2 h] at e1
  rw [dif_pos h]
  obtain ⟨ip, m, rfl, hm, hs⟩ := h
  obtain ⟨S, hS0, hS⟩ := sk_of (m := m) (ls := ls) (fun x hx => hs x (by simp [hx]))
  have h5 := hm.five
  have hSl : ls.length = S.length := by rw [hS0, List.length_map]
  have e2 := hro p S (by omega) (fun x hx => by have := hS x hx; omega)
  have e3 := hra p S (fun x hx => by have := hS x hx; omega) (by omega)
  have hmp : ls.map (polOf p) = S := by rw [hS0]; exact map_polOf (S := S) (fun a ha => by have := hS a ha; omega)
  have hmd : ls.map arr8 = S.map padD := by rw [hS0]; exact map_padD S
  rw [hmp]
  rw [← hmd] at e2
  refine ask_of hT rfl ?_
  obtain ⟨k, hk⟩ : ∃ k : Int, (ls.length : Int) = k := ⟨_, rfl⟩
  have hLk : ((ls.map arr8).length : Int) = k := by rw [hL]; exact hk
  by_cases c1 : k < 1
  ·rw [if_pos (by omega)]
   generalize ls.map arr8 = LD at *
   generalize ms.map arr8 = MD at *
   generalize (ls ++ ms).map arr8 = LM at *
   generalize pad (row m) = Pm at *
   simp -implicitDefEqProofs [Zs, Zs_B, dn_cond, e0, e1, hLk, c1]
  ·by_cases c2 : 4 < k
   ·rw [if_pos (by omega)]
    generalize ls.map arr8 = LD at *
    generalize ms.map arr8 = MD at *
    generalize (ls ++ ms).map arr8 = LM at *
    generalize pad (row m) = Pm at *
    simp -implicitDefEqProofs [Zs, Zs_B, dn_cond, e0, e1, hLk, c1, c2]
   ·cases b with
    | false =>
     rw [if_pos (by simp)]
     generalize ls.map arr8 = LD at *
     generalize ms.map arr8 = MD at *
     generalize (ls ++ ms).map arr8 = LM at *
     generalize pad (row m) = Pm at *
     simp -implicitDefEqProofs [Zs, Zs_B, dn_cond, e0, e1, hLk, c1, c2]
    | true =>
     rw [if_neg (fun h => h ⟨by omega, by omega, rfl⟩)]
     obtain ⟨r, hr⟩ : ∃ r : Int, ((spanS S []).length : Int) = r := ⟨_, rfl⟩
     rw [hr] at e3
     by_cases c3 : r < k
     ·rw [if_pos (by omega)]
      generalize ls.map arr8 = LD at *
      generalize ms.map arr8 = MD at *
      generalize (ls ++ ms).map arr8 = LM at *
      generalize pad (row m) = Pm at *
      generalize S.map rowD = SR at *
      simp -implicitDefEqProofs [Zs, Zs_B, dn_cond, e0, e1, e2, e3, hLk, c1, c2, c3]
     ·rw [if_neg (by omega)]
      generalize ls.map arr8 = LD at *
      generalize ms.map arr8 = MD at *
      generalize (ls ++ ms).map arr8 = LM at *
      generalize pad (row m) = Pm at *
      generalize S.map rowD = SR at *
      simp -implicitDefEqProofs [Zs, Zs_B, dn_cond, e0, e1, e2, e3, hLk, c1, c2, c3]
 ·rw [codeRs_not h] at e1
  rw [dif_neg h]
  refine ask_of hT rfl ?_
  generalize ls.map arr8 = LD at *
  generalize ms.map arr8 = MD at *
  generalize (ls ++ ms).map arr8 = LM at *
  simp -implicitDefEqProofs [Zs, Zs_B, dn_cond, e0, e1]
theorem codePl_congr {p : Int} {l : List Int} {ls ms ns : List (List Int)} {c d : Prop} (h : RsOk p l (ls ++ ms) ↔ RsOk p l (ls ++ ns)) (hc : c ↔ d) : codePl p l ls ms c = codePl p l ls ns d := by
 unfold codePl
 rw [propext hc]
 by_cases g : RsOk p l (ls ++ ms)
 ·rw [dif_pos g, dif_pos (h.1 g)]
 ·rw [dif_neg g, dif_neg (fun g' => g (h.2 g'))]
theorem codePl_ok {p : Int} {l : List Int} {ls ms : List (List Int)} {c : Prop} (h : codePl p l ls ms c = 0) : RsOk p l (ls ++ ms) ∧ 1 ≤ ls.length ∧ ls.length ≤ 4 ∧ c := by
 unfold codePl at h
 split at h
 ·rename_i g
  split at h
  ·cases h
  ·rename_i h1
   exact ⟨g, Classical.not_not.1 h1⟩
 ·cases h
end Pe

namespace Pe
open Go Gq
variable {T : Nat → Option Fn} {A : Oracle}
section
variable {p : Int} [IsP p]
theorem putS_le (L : List (Fp p)) (x : Fp p) : (putS L x).length ≤ L.length + 1 := by
 by_cases h : redS L x = 0
 ·rw [putS_zero h]; omega
 ·rw [putS_ne h, (insS_perm _ L).length_eq, List.length_append, List.length_map]; exact Nat.le_refl _
theorem spanS_le : ∀ (xs L : List (Fp p)), (spanS xs L).length ≤ xs.length + L.length
 | [], L => by unfold spanS; simp
 | x :: xs, L => by
  have h1 := putS_le L x
  have h2 := spanS_le xs (putS L x)
  rw [spanS, List.length_cons]
  omega
end
def K_sSub (O : Oracle) : Prop := ∀ (p : Int) [IsP p] (a b : Fp p), a.len ≤ 64 → b.len ≤ 64 → ask O F33 [(D.int .i64 p), (D.arr 64 .leaf (ints .u8 (pad (row a)))), (D.arr 64 .leaf (ints .u8 (pad (row b)))), (D.int .i64 (-1))] = some (D.arr 64 .leaf (ints .u8 (pad (row (a - b)))))
theorem k_sSub {O : Oracle} (h : K_sAdd O) : K_sSub O := fun p i a b h1 h2 => by
 rw [h p (-1) a b (by omega) (by omega) h1 h2, sub_comb]
section
variable {p : Int} [IsP p]
end
def C_sPlc (O : Oracle) : Prop := ∀ (p : Int) (l : List Int) (ls ms : List (List Int)) (lo hi : Int), Bytes l → l.length = 64 → Arrs ls → Arrs ms → ls.length < 2000000 → ms.length < 2000000 → ask O F3v [(D.int .i64 p), (D.arr 64 .leaf (ints .u8 l)), .sl (.arr 64 .leaf) (ls.map arr8), .sl (.arr 64 .leaf) (ms.map arr8), (D.int .i64 lo), (D.int .i64 hi)] = some (D.int .i64 (codePl p l ls ms (lo ≤ ms.length ∧ ms.length ≤ hi)))
theorem c_sPlc (hT : T F3v = some Z3v) (hr : C_resCode (den T A) F3s) (hsp : K_sSpan (den T A)) : C_sPlc (den T A) := by
 intro p l ls ms lo hi bl gl ha hb hl hl'
 have e0 := hr p l ls bl gl ha (by omega)
 have e1 := hr p l ms bl gl hb (by omega)
 unfold codePl
 by_cases h1 : RsOk p l ls
 ·rw [codes_rs.2 h1] at e0
  by_cases h2 : RsOk p l ms
  ·rw [codes_rs.2 h2] at e1
   have h := rsOk_append.2 ⟨h1, h2⟩
   rw [dif_pos h]
   obtain ⟨ip, m, rfl, hm, hs⟩ := h
   obtain ⟨S, hS0, hS⟩ := sk_of (m := m) (ls := ls) (fun x hx => hs x (by simp [hx]))
   have h5 := hm.five
   have hSl : ls.length = S.length := by rw [hS0, List.length_map]
   have e3 := hsp p S (fun x hx => by have := hS x hx; omega) (by omega)
   have hmp : ls.map (polOf p) = S := by rw [hS0]; exact map_polOf (S := S) (fun a ha => by have := hS a ha; omega)
   have hmd : ls.map arr8 = S.map padD := by rw [hS0]; exact map_padD S
   have hle := spanS_le S []
   rw [List.length_nil, Nat.add_zero] at hle
   rw [hmp]
   rw [← hmd] at e3
   refine ask_of hT rfl ?_
   obtain ⟨k, hk⟩ : ∃ k : Int, (ls.length : Int) = k := ⟨_, rfl⟩
   obtain ⟨j, hj⟩ : ∃ j : Int, (ms.length : Int) = j := ⟨_, rfl⟩
   have hLk : ((ls.map arr8).length : Int) = k := by rw [List.length_map]; exact hk
   have hMj : ((ms.map arr8).length : Int) = j := by rw [List.length_map]; exact hj
   obtain ⟨r, hr⟩ : ∃ r : Int, ((spanS S []).length : Int) = r := ⟨_, rfl⟩
   have hRr : (((spanS S []).map padD).length : Int) = r := by rw [List.length_map]; exact hr
   rw [hj]
   by_cases c1 : k < 1
   ·rw [if_pos (by omega)]
    generalize (spanS S []).map padD = RD at *
    generalize ls.map arr8 = LD at *
    generalize ms.map arr8 = MD at *
    generalize pad (row m) = Pm at *
    simp -implicitDefEqProofs [Z3v, Z3v_B, dn_cond, e0, e1, hLk, c1]
   ·by_cases c2 : 4 < k
    ·rw [if_pos (by omega)]
     generalize (spanS S []).map padD = RD at *
     generalize ls.map arr8 = LD at *
     generalize ms.map arr8 = MD at *
     generalize pad (row m) = Pm at *
     simp -implicitDefEqProofs [Z3v, Z3v_B, dn_cond, e0, e1, hLk, c1, c2]
    ·by_cases c3 : j < lo
     ·rw [if_pos (by omega)]
      generalize (spanS S []).map padD = RD at *
      generalize ls.map arr8 = LD at *
      generalize ms.map arr8 = MD at *
      generalize pad (row m) = Pm at *
      simp -implicitDefEqProofs [Z3v, Z3v_B, dn_cond, e0, e1, hLk, hMj, c1, c2, c3]
     ·by_cases c4 : hi < j
      ·rw [if_pos (by omega)]
       generalize (spanS S []).map padD = RD at *
       generalize ls.map arr8 = LD at *
       generalize ms.map arr8 = MD at *
       generalize pad (row m) = Pm at *
       simp -implicitDefEqProofs [Z3v, Z3v_B, dn_cond, e0, e1, hLk, hMj, c1, c2, c3, c4]
      ·rw [if_neg (by omega)]
       by_cases c5 : r = k
       ·rw [if_neg (by omega)]
        generalize (spanS S []).map padD = RD at *
        generalize ls.map arr8 = LD at *
        generalize ms.map arr8 = MD at *
        generalize pad (row m) = Pm at *
        simp -implicitDefEqProofs [Z3v, Z3v_B, dn_cond, e0, e1, e3, hLk, hMj, hRr, c1, c2, c3, c4, c5]
       ·rw [if_pos (by omega)]
        generalize (spanS S []).map padD = RD at *
        generalize ls.map arr8 = LD at *
        generalize ms.map arr8 = MD at *
        generalize pad (row m) = Pm at *
        simp -implicitDefEqProofs [Z3v, Z3v_B, dn_cond, e0, e1, e3, hLk, hMj, hRr, c1, c2, c3, c4, c5]
  ·rw [codeRs_not h2] at e1
   rw [dif_neg (fun h => h2 (rsOk_append.1 h).2)]
   refine ask_of hT rfl ?_
   generalize ls.map arr8 = LD at *
   generalize ms.map arr8 = MD at *
   simp -implicitDefEqProofs [Z3v, Z3v_B, dn_cond, e0, e1]
 ·rw [codeRs_not h1] at e0
  rw [dif_neg (fun h => h1 (rsOk_append.1 h).1)]
  refine ask_of hT rfl ?_
  generalize ls.map arr8 = LD at *
  generalize ms.map arr8 = MD at *
  simp -implicitDefEqProofs [Z3v, Z3v_B, dn_cond, e0]
end Pe


namespace Pe
open Go Gq
variable {T : Nat → Option Fn} {A : Oracle}
section
variable {p : Int}
end
section
variable {p : Int}
end
section
variable {p : Int}
end
end Pe

namespace Pe
open Go Gq
variable {T : Nat → Option Fn} {A : Oracle}
end Pe


namespace Pe
open Go Gq
variable {T : Nat → Option Fn} {A : Oracle}
section
variable {p : Int} [IsP p]
end
end Pe

namespace Pe
open Go Gq
section
variable {p : Int}
noncomputable def sg {m : Fp p} : Nat → Quo m → Quo m
 | 0, x => x
 | k + 1, x => sg k (pw x p.toNat)
theorem sg_mk [IsP p] {m : Fp p} : ∀ (k : Nat) (a : Fp p), Quo.mk m (frIt m k a) = sg k (Quo.mk m a)
 | 0, _ => rfl
 | k + 1, a => by
  show Quo.mk m (frIt m k (pw a p.toNat % m)) = sg k (pw (Quo.mk m a) p.toNat)
  rw [sg_mk k, Pol.mk_mod, Quo.mk_pow]
theorem pw_zero_pos [IsP p] {m : Fp p} : pw (0 : Quo m) p.toNat = 0 := by
 have h := IsP.pos (p := p)
 have : p.toNat = (p.toNat - 1) + 1 := by omega
 rw [this]
 show pw (0 : Quo m) (p.toNat - 1) * 0 = 0
 exact Gq.mul_zero _
theorem sg_zero [IsP p] {m : Fp p} : ∀ k, sg k (0 : Quo m) = 0
 | 0 => rfl
 | k + 1 => by
  show sg k (pw (0 : Quo m) p.toNat) = 0
  rw [pw_zero_pos, sg_zero k]
section
variable {m : Fp p}
noncomputable def Rop (t0 t1 t2 : Quo m) (X : Nat → Quo m) : Nat → Quo m
 | 0 => X 0 * t0
 | 1 => X 1 * sg 1 t0 + X 0 * t1
 | n + 2 => X (n + 2) * sg (n + 2) t0 + X (n + 1) * sg (n + 1) t1 + X n * sg n t2
noncomputable def e0 : Nat → Quo m
 | 0 => 1
 | _ + 1 => 0
theorem nine (t0 t1 t2 a b c d e f g h i s u v : Quo m) : t0 * (a * s + b * u + c * v) + t1 * (d * s + e * u + f * v) + t2 * (g * s + h * u + i * v) = (t0 * a + t1 * d + t2 * g) * s + (t0 * b + t1 * e + t2 * h) * u + (t0 * c + t1 * f + t2 * i) * v := by
 have l : ∀ t a b c : Quo m, t * (a * s + b * u + c * v) = t * a * s + t * b * u + t * c * v := fun t a b c => ring_of [t, a, b, c, s, u, v] rfl
 have q : ∀ x y z w : Quo m, (x + y + z) * w = x * w + y * w + z * w := fun x y z w => ring_of [x, y, z, w] rfl
 have z : ∀ p1 p2 p3 q1 q2 q3 r1 r2 r3 : Quo m, (p1 + p2 + p3) + (q1 + q2 + q3) + (r1 + r2 + r3) = (p1 + q1 + r1) + (p2 + q2 + r2) + (p3 + q3 + r3) := fun p1 p2 p3 q1 q2 q3 r1 r2 r3 => ring_of [p1, p2, p3, q1, q2, q3, r1, r2, r3] rfl
 rw [l, l, l, q, q, q, z]
theorem eight [IsP p] (t0 t1 t2 a b c d e f g h s u v : Quo m) : t0 * (a * s + b * u + c * v) + t1 * (d * s + e * u + f * v) + t2 * (g * s + h * u) = (t0 * a + t1 * d + t2 * g) * s + (t0 * b + t1 * e + t2 * h) * u + (t0 * c + t1 * f) * v := by
 have := nine t0 t1 t2 a b c d e f g h 0 s u v
 simp only [Gq.zero_mul, Gq.mul_zero, Gq.add_zero] at this
 exact this
noncomputable def Rk (t0 t1 t2 : Quo m) : Nat → Nat → Quo m
 | 0 => e0
 | k + 1 => Rop t0 t1 t2 (Rk t0 t1 t2 k)
noncomputable def hsum (t0 t1 t2 : Quo m) : (Nat → Quo m) → Nat → Nat → Nat → Quo m
 | _, _, 0, _ => 0
 | c, k, n + 1, i => c 0 * Rk t0 t1 t2 k i + hsum t0 t1 t2 (fun j => c (j + 1)) (k + 1) n i
end
end
end Pe
