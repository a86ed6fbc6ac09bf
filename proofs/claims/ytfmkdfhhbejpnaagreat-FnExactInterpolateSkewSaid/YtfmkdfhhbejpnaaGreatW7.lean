/-
  A part of the proof: an evaluator for a small form of the code, its soundness, and contracts of functions over it.
-/
import Derived.Test.YtfmkdfhhbejpnaaGreatW1
import Derived.Test.YtfmkdfhhbejpnaaGreatW2
import Derived.Test.YtfmkdfhhbejpnaaGreatW3
import Derived.Test.YtfmkdfhhbejpnaaGreatW4
import Derived.Test.YtfmkdfhhbejpnaaGreatW5
import Derived.Test.YtfmkdfhhbejpnaaGreatW6

namespace Pe
open Go Gq
section
variable {p : Int}
theorem sgn_add [IsP p] {m : Fp p} : ∀ (k : Nat) (x y : Quo m), sg k (x + y) = sg k x + sg k y
 | 0, _, _ => rfl
 | k + 1, x, y => by
  show sg k (pw (x + y) p.toNat) = sg k (pw x p.toNat) + sg k (pw y p.toNat)
  rw [frob_add, sgn_add k]
theorem sgn_mul {m : Fp p} : ∀ (k : Nat) (x y : Quo m), sg k (x * y) = sg k x * sg k y
 | 0, _, _ => rfl
 | k + 1, x, y => by
  show sg k (pw (x * y) p.toNat) = sg k (pw x p.toNat) * sg k (pw y p.toNat)
  rw [pw_mul, sgn_mul k]
theorem sgn_const [IsP p] {m : Fp p} (c : Zp p) : ∀ k, sg k (Quo.mk m (Pol.C c)) = Quo.mk m (Pol.C c)
 | 0 => rfl
 | k + 1 => by
  show sg k (pw (Quo.mk m (Pol.C c)) p.toNat) = _
  rw [← Quo.mk_pow, ← C_pw, frob_const, sgn_const c k]
theorem sgn_sgn {m : Fp p} (i : Nat) : ∀ (j : Nat) (x : Quo m), sg i (sg j x) = sg (i + j) x
 | 0, _ => rfl
 | j + 1, x => by
  show sg i (sg j (pw x p.toNat)) = sg (i + j) (pw x p.toNat)
  exact sgn_sgn i j _
noncomputable def vq {m : Fp p} (X : Quo m) : Nat → List (Fp p) → Quo m
 | _, [] => 0
 | i, c :: cs => Quo.mk m c * sg i X + vq X (i + 1) cs
theorem svI_q [IsP p] {m x : Fp p} (hm : Fld m) (hx : x.len < m.len) : ∀ (i : Nat) (A : List (Fp p)) (out : Fp p), Quo.mk m (svI m x i A out) = Quo.mk m out + vq (Quo.mk m x) i A
 | i, [], out => (Gq.add_zero _).symm
 | i, c :: cs, out => by
  show Quo.mk m (svI m x (i + 1) cs (out + c * frIt m (i % (m.len - 1)) x % m)) = _
  rw [svI_q hm hx (i + 1) cs, Quo.mk_add, Pol.mk_mod, Quo.mk_mul, frIt_mod hm i hx, sg_mk]
  exact Gq.add_assoc _ _ _
noncomputable def valS [IsP p] (m : Fp p) (A : List (Fp p)) (x : Fp p) : Quo m := Quo.mk m (svI m x 0 A 0)
theorem valS_q [IsP p] {m x : Fp p} (hm : Fld m) (hx : x.len < m.len) (A : List (Fp p)) : valS m A x = vq (Quo.mk m x) 0 A := by
 unfold valS
 rw [svI_q hm hx, Quo.mk_zero, Gq.zero_add]
theorem vq_add [IsP p] {m : Fp p} (X Y : Quo m) : ∀ (A : List (Fp p)) (i : Nat), vq (X + Y) i A = vq X i A + vq Y i A
 | [], _ => (Gq.add_zero _).symm
 | c :: cs, i => by
  show Quo.mk m c * sg i (X + Y) + vq (X + Y) (i + 1) cs = (Quo.mk m c * sg i X + vq X (i + 1) cs) + (Quo.mk m c * sg i Y + vq Y (i + 1) cs)
  rw [sgn_add, vq_add X Y cs]
  exact ring_of [Quo.mk m c, sg i X, sg i Y, vq X (i + 1) cs, vq Y (i + 1) cs] rfl
theorem vq_smul [IsP p] {m : Fp p} (k : Zp p) (X : Quo m) : ∀ (A : List (Fp p)) (i : Nat), vq (Quo.mk m (Pol.C k) * X) i A = Quo.mk m (Pol.C k) * vq X i A
 | [], _ => (Gq.mul_zero _).symm
 | c :: cs, i => by
  show Quo.mk m c * sg i (Quo.mk m (Pol.C k) * X) + vq (Quo.mk m (Pol.C k) * X) (i + 1) cs = Quo.mk m (Pol.C k) * (Quo.mk m c * sg i X + vq X (i + 1) cs)
  rw [sgn_mul, sgn_const, vq_smul k X cs]
  exact ring_of [Quo.mk m c, Quo.mk m (Pol.C k), sg i X, vq X (i + 1) cs] rfl
theorem vq_set {m : Fp p} (X : Quo m) (v : Fp p) : ∀ (Q : List (Fp p)) (i j : Nat), j < Q.length → vq X i (addAt Q j v) = vq X i Q + Quo.mk m v * sg (i + j) X
 | [], _, _, h => by simp at h
 | c :: cs, i, 0, _ => by
  show Quo.mk m (c + v) * sg i X + vq X (i + 1) cs = Quo.mk m c * sg i X + vq X (i + 1) cs + Quo.mk m v * sg (i + 0) X
  rw [Quo.mk_add, Nat.add_zero]
  exact ring_of [Quo.mk m c, Quo.mk m v, sg i X, vq X (i + 1) cs] rfl
 | c :: cs, i, j + 1, h => by
  have e : addAt (c :: cs) (j + 1) v = c :: addAt cs j v := rfl
  rw [e]
  show Quo.mk m c * sg i X + vq X (i + 1) (addAt cs j v) = Quo.mk m c * sg i X + vq X (i + 1) cs + Quo.mk m v * sg (i + (j + 1)) X
  rw [vq_set X v cs (i + 1) j (by simpa using h), show i + 1 + j = i + (j + 1) by omega]
  exact (Gq.add_assoc _ _ _).symm
theorem vq_zeros {m : Fp p} (X : Quo m) : ∀ (n i : Nat), vq X i (List.replicate n (0 : Fp p)) = 0
 | 0, _ => rfl
 | n + 1, i => by
  show Quo.mk m 0 * sg i X + vq X (i + 1) (List.replicate n 0) = 0
  rw [vq_zeros X n, Quo.mk_zero, Gq.zero_mul, Gq.add_zero]
theorem byIn_v [IsP p] {m c : Fp p} (hm : Fld m) (X : Quo m) {i : Nat} : ∀ (b : List (Fp p)) (k : Nat) (Q : List (Fp p)), (∀ y ∈ b, y.len < m.len) → i + k + b.length ≤ Q.length → vq X 0 (byIn m c i k b Q) = vq X 0 Q + Quo.mk m c * sg i (vq X k b)
 | [], _, Q, _, _ => by
  show vq X 0 Q = vq X 0 Q + Quo.mk m c * sg i 0
  rw [sg_zero, Gq.mul_zero, Gq.add_zero]
 | y :: ys, k, Q, hb, h => by
  rw [List.length_cons] at h
  show vq X 0 (byIn m c i (k + 1) ys (addAt Q (i + k) _)) = vq X 0 Q + Quo.mk m c * sg i (Quo.mk m y * sg k X + vq X (k + 1) ys)
  rw [byIn_v hm X ys (k + 1) _ (fun z hz => hb z (by simp [hz])) (by rw [addAt_length]; omega), vq_set X _ Q 0 (i + k) (by omega), Pol.mk_mod, Quo.mk_mul, frIt_mod hm i (hb y (by simp)), sg_mk, Nat.zero_add, sgn_add, sgn_mul, sgn_sgn]
  exact ring_of [vq X 0 Q, Quo.mk m c, sg i (Quo.mk m y), sg (i + k) X, sg i (vq X (k + 1) ys)] rfl
theorem prod_val [IsP p] {m c0 x : Fp p} (hm : Fld m) {A : List (Fp p)} (hA : ∀ y ∈ A, y.len < m.len) (hx : x.len < m.len) (h1 : 1 ≤ A.length) : valS m (prodS m [c0, 1] A) x = Quo.mk m c0 * valS m A x + sg 1 (valS m A x) := by
 have h0 := hm.mon.2
 have e1 : valS m (prodS m [c0, 1] A) x = valS m (mulS m [c0, 1] A) x := by
  unfold prodS valS
  rw [if_neg (by simp only [List.length_cons]; omega), svI_trim h0]
 rw [e1, valS_q hm hx, valS_q hm hx]
 show vq _ 0 (byIn m 1 1 0 A (byIn m c0 0 0 A (List.replicate ([c0, 1].length + A.length - 1) 0))) = _
 have hl : (List.replicate ([c0, (1 : Fp p)].length + A.length - 1) (0 : Fp p)).length = A.length + 1 := by rw [List.length_replicate]; simp only [List.length_cons, List.length_nil]; omega
 rw [byIn_v hm _ A 0 _ hA (by rw [byIn_length]; omega), byIn_v hm _ A 0 _ hA (by omega), vq_zeros, Gq.zero_add, Quo.mk_one, Gq.one_mul]
 rfl
theorem val_elim [IsP p] {m : Fp p} (hm : Fld m) {A : List (Fp p)} {a b : Fp p} (ha : a.len < m.len) (hb : b.len < m.len) (hk : valS m A b = 0) : valS m A (elim b a) = valS m A a := by
 have hl : (elim b a).len ≤ m.len - 1 := elim_le (by omega) (by omega)
 rw [valS_q hm (by omega), valS_q hm ha]
 rw [valS_q hm hb] at hk
 unfold elim
 rw [Quo.mk_add, Quo.mk_mul, vq_add, vq_smul, hk, Gq.mul_zero, Gq.add_zero]
theorem val_red [IsP p] {m : Fp p} (hm : Fld m) {A : List (Fp p)} : ∀ (L : List (Fp p)) (x : Fp p), (∀ b ∈ L, b.len < m.len ∧ valS m A b = 0) → x.len < m.len → valS m A (redS L x) = valS m A x
 | [], _, _, _ => rfl
 | b :: bs, x, h, hx => by
  have hb := h b (by simp)
  have hl : (elim b x).len ≤ m.len - 1 := elim_le (by omega) (by omega)
  show valS m A (redS bs (elim b x)) = _
  rw [val_red hm bs (elim b x) (fun c hc => h c (by simp [hc])) (by omega), val_elim hm hx hb.1 hb.2]
theorem val_smul [IsP p] {m : Fp p} (hm : Fld m) {A : List (Fp p)} {x : Fp p} (hx : x.len < m.len) (k : Zp p) (hk : valS m A x = 0) : valS m A (Pol.C k * x) = 0 := by
 have hl : (Pol.C k * x).len < m.len := by
  have h2 := hm.two
  have : (Pol.C k * x).len ≤ m.len - 1 := Pol.len_le fun j hj => by rw [Pol.c_Cmul, c_ge' (by omega), Gq.mul_zero]
  omega
 rw [valS_q hm hl, Quo.mk_mul, vq_smul, ← valS_q hm hx, hk, Gq.mul_zero]
theorem insS_length (a : Fp p) (L : List (Fp p)) : (insS a L).length = L.length + 1 := by
 rw [(insS_perm a L).length_eq, List.length_append, List.length_map]; rfl
noncomputable def lsC [IsP p] (m v : Fp p) : Fp p := Pol.C (zp p (-1)) * (frIt m 1 v * invm m v % m)
noncomputable def lsN [IsP p] (m : Fp p) (A : List (Fp p)) (x : Fp p) : List (Fp p) := if (svI m x 0 A 0).len = 0 then A else prodS m [lsC m (svI m x 0 A 0), 1] A
noncomputable def lsS [IsP p] (m : Fp p) : List (Fp p) → List (Fp p) → List (Fp p)
 | [], A => A
 | x :: xs, A => lsS m xs (lsN m A x)
theorem lsC_len [IsP p] {m v : Fp p} (hm : Fld m) : (lsC m v).len < m.len := by
 have h1 := Pol.len_mod (frIt m 1 v * invm m v) hm.mon.2
 have : (lsC m v).len ≤ m.len - 1 := Pol.len_le fun j hj => by unfold lsC; rw [Pol.c_Cmul, c_ge' (by omega), Gq.mul_zero]
 omega
theorem lsC_q [IsP p] {m v : Fp p} (hm : Fld m) (hv : v ≠ 0) (hvl : v.len < m.len) : Quo.mk m (lsC m v) * Quo.mk m v + sg 1 (Quo.mk m v) = 0 := by
 have hi := invm_ok hm hv hvl
 unfold lsC
 rw [Quo.mk_mul, Pol.mk_mod, Quo.mk_mul, sg_mk, zp_neg, zp_one, Pol.C_neg, Pol.C_one, Quo.mk_neg, Quo.mk_one]
 have e : -1 * (sg 1 (Quo.mk m v) * Quo.mk m (invm m v)) * Quo.mk m v + sg 1 (Quo.mk m v) = sg 1 (Quo.mk m v) * (1 - Quo.mk m (invm m v) * Quo.mk m v) := ring_of [sg 1 (Quo.mk m v), Quo.mk m (invm m v), Quo.mk m v] rfl
 rw [e, hi]
 exact ring_of [sg 1 (Quo.mk m v)] rfl
theorem lsC_pw [IsP p] {m v : Fp p} (hm : Fld m) (hv : v ≠ 0) (hvl : v.len < m.len) : frIt m 1 v * invm m v % m = pw v (p - 1).toNat % m := by
 have hp := IsP.pos (p := p)
 have h0 := hm.mon.2
 have hi := invm_ok hm hv hvl
 refine (Pol.mod_eq_iff h0).2 ?_
 rw [Quo.mk_mul, sg_mk, Quo.mk_pow]
 show pw (Quo.mk m v) p.toNat * _ = _
 rw [show p.toNat = (p - 1).toNat + 1 by omega]
 show pw (Quo.mk m v) (p - 1).toNat * Quo.mk m v * Quo.mk m (invm m v) = _
 rw [Gq.mul_assoc, Gq.mul_comm (Quo.mk m v), hi, Gq.mul_one]
structure LsI [IsP p] (m : Fp p) (A : List (Fp p)) : Prop where
 trim : IsTrim A
 res : ∀ c ∈ A, c.len < m.len
 ex : ∃ L : List (Fp p), Desc (m.len - 1) L ∧ (∀ b ∈ L, valS m A b = 0) ∧ A.length = L.length + 1
theorem LsI.len [IsP p] {m : Fp p} {A : List (Fp p)} (hm : Fld m) (h : LsI m A) : 1 ≤ A.length ∧ A.length ≤ 5 := by
 obtain ⟨L, h1, _, h3⟩ := h.ex
 have := h1.length
 have h5 := hm.five
 have h2 := hm.two
 omega
theorem LsI.one [IsP p] {m : Fp p} (hm : Fld m) : LsI m (termS (1 : Fp p) 0) := ⟨(sk_one hm).trim, (sk_one hm).res, [], Desc.nil _, (fun b hb => by cases hb), by rw [termS_length]; rfl⟩
theorem two_trim [IsP p] (c : Fp p) : IsTrim [c, (1 : Fp p)] := fun n hn => by
 have : n = 1 := by simp at hn; omega
 subst this
 exact one_ne8
theorem two_res [IsP p] {m c : Fp p} (hm : Fld m) (hc : c.len < m.len) : ∀ y ∈ [c, (1 : Fp p)], y.len < m.len := fun y hy => by
 have h2 := hm.two
 have : (1 : Fp p).len = 1 := Pol.len_one
 simp at hy
 rcases hy with rfl | rfl <;> omega
theorem LsI.next [IsP p] {m x : Fp p} {A : List (Fp p)} (hm : Fld m) (h : LsI m A) (hx : x.len < m.len) : LsI m (lsN m A x) := by
 have h0 := hm.mon.2
 have h2 := hm.two
 unfold lsN
 by_cases hv : (svI m x 0 A 0).len = 0
 ·rw [if_pos hv]; exact h
 ·rw [if_neg hv]
  obtain ⟨L, hL, hK, hlen⟩ := h.ex
  have hvl : (svI m x 0 A 0).len < m.len := svI_len h0 0 A 0 (by rw [Pol.len_zero]; omega)
  have hv0 : svI m x 0 A 0 ≠ 0 := fun h => hv (by rw [h, Pol.len_zero])
  have hcl := lsC_len (v := svI m x 0 A 0) hm
  have hLl : ∀ b ∈ L, b.len < m.len := fun b hb => by have := hL.le b hb; omega
  have step : ∀ y : Fp p, y.len < m.len → valS m (prodS m [lsC m (svI m x 0 A 0), 1] A) y = Quo.mk m (lsC m (svI m x 0 A 0)) * valS m A y + sg 1 (valS m A y) := fun y hy => prod_val hm h.res hy (by omega)
  have kill : ∀ y : Fp p, y.len < m.len → valS m A y = 0 → valS m (prodS m [lsC m (svI m x 0 A 0), 1] A) y = 0 := fun y hy hk => by
   rw [step y hy, hk, Gq.mul_zero, sg_zero, Gq.add_zero]
  have killx : valS m (prodS m [lsC m (svI m x 0 A 0), 1] A) x = 0 := by
   rw [step x hx]
   exact lsC_q hm hv0 hvl
  have hr : redS L x ≠ 0 := fun hz => by
   have e := val_red (A := A) hm L x (fun b hb => ⟨hLl b hb, hK b hb⟩) hx
   rw [hz] at e
   have e2 : valS m A (0 : Fp p) = 0 := by
    have := val_smul (A := A) hm (x := 0) (by rw [Pol.len_zero]; omega)
    rw [valS_q hm (by rw [Pol.len_zero]; omega)]
    have h3 := vq_smul (m := m) (0 : Zp p) (0 : Quo m) A 0
    rw [Gq.mul_zero] at h3
    rw [Quo.mk_zero, h3]
    have : Quo.mk m (Pol.C (0 : Zp p)) = 0 := by rw [Pol.C_zero]; rfl
    rw [this, Gq.zero_mul]
   rw [e2] at e
   have e3 := (Pol.mod_eq_iff h0).2 (show Quo.mk m (svI m x 0 A 0) = Quo.mk m 0 from e.symm)
   rw [Pol.mod_small hvl, Pol.zero_mod h0] at e3
   exact hv0 e3
  have hrl : (redS L x).len ≤ m.len - 1 := redS_le hL.le (by omega)
  have hml := Gq.mon_len hr
  have killr : valS m (prodS m [lsC m (svI m x 0 A 0), 1] A) (Gq.mon (redS L x)) = 0 := by
   refine val_smul hm (by omega) _ ?_
   rw [val_red hm L x (fun b hb => ⟨hLl b hb, kill b (hLl b hb) (hK b hb)⟩) hx]
   exact killx
  refine ⟨isTrim_prod _ _ _, fun c hc => by have := prodS_lens' (N := m.len - 1) h0 (by omega) c hc; omega, putS L x, putS_desc hL (by omega), fun b hb => ?_, ?_⟩
  ·rw [putS_ne hr] at hb
   rcases insS_mem hb with rfl | ⟨c, hc, rfl⟩
   ·exact killr
   ·have hcl' := hLl c hc
    rw [val_elim hm hcl' (by omega) killr]
    exact kill c hcl' (hK c hc)
  ·rw [putS_ne hr, insS_length, prodS_len hm (two_trim _) h.trim (two_res hm hcl) h.res (by simp) (by omega)]
   simp only [List.length_cons, List.length_nil]
   omega
theorem LsI.all [IsP p] {m : Fp p} (hm : Fld m) : ∀ (xs A : List (Fp p)), LsI m A → (∀ x ∈ xs, x.len < m.len) → LsI m (lsS m xs A)
 | [], _, h, _ => h
 | x :: xs, A, h, hx => LsI.all hm xs _ (h.next hm (hx x (by simp))) fun y hy => hx y (by simp [hy])
end
end Pe

namespace Pe
open Go Gq
variable {T : Nat → Option Fn} {A : Oracle}
section
variable {p : Int}
end
end Pe


namespace Pe
open Go Gq
variable {T : Nat → Option Fn} {A : Oracle}
end Pe


namespace Pe
open Go Gq
variable {T : Nat → Option Fn} {A : Oracle}
theorem eS_two {p : Int} [IsP p] (c d : Fp p) : (skP (pd8 [c, d])).map arr8 = (z8.set 0 (D.arr 64 .leaf (ints .u8 (pad (row c))))).set 1 (D.arr 64 .leaf (ints .u8 (pad (row d)))) := by
 have e2 : skP (pd8 [c, d]) = pad (row c) :: pad (row d) :: List.replicate 6 (pad []) := by
  show pad (row c) :: pad (row d) :: (List.replicate 6 (0 : Fp p)).map (fun a => pad (row a)) = _
  rw [List.map_replicate, row_zero]
 rw [e2]
 rfl
end Pe

namespace Pe
open Go Gq
variable {T : Nat → Option Fn} {A : Oracle}
def K_sInvZ (O : Oracle) : Prop := ∀ (p : Int) [IsP p] (m a : Fp p), m ≠ 0 → m.len ≤ 63 → a.len < m.len → ask O F3o [(D.int .i64 p), (D.arr 64 .leaf (ints .u8 (pad (row a)))), (D.arr 64 .leaf (ints .u8 (pad (row m))))] = some (D.arr 64 .leaf (ints .u8 (pad (row (invm m a)))))
theorem bez_zero {p : Int} [IsP p] {m : Fp p} (hm : m ≠ 0) : (Pol.bezout 0 m).2.1 = 0 := by
 have hp := Pol.len_pos hm
 obtain ⟨k, hk⟩ : ∃ k, m.len = k + 1 := ⟨m.len - 1, by omega⟩
 have hq : (0 : Fp p) / m = 0 := (Pol.div_mod_eq (a := (0 : Fp p)) (b := m) (q := 0) (r := 0) (by rw [Gq.zero_mul, Gq.zero_add]) (by rw [Pol.len_zero]; omega)).1
 have hr : (0 : Fp p) % m = 0 := Pol.zero_mod hm
 have e : (Pol.bz m.len 0 m 1 0 0 1).2.1 = 0 := by
  rw [hk]
  unfold Pol.bz
  rw [if_neg hm, hr]
  cases k with
  | zero => rfl
  | succ k =>
   unfold Pol.bz
   rw [if_pos rfl]
 unfold Pol.bezout
 show Pol.C _ * (Pol.bz m.len 0 m 1 0 0 1).2.1 = 0
 rw [e, Gq.mul_zero]
theorem k_sInvZ (hT : T F3o = some Z3o) (hmo : K_sMod (den T A)) (hb : K_sBezout (den T A)) : K_sInvZ (den T A) := by
 intro p ip m a hm hml hal
 have e2 := hb p a m (.inr hm) (by omega) (by omega)
 have hl : (Pol.bezout a m).2.1.len ≤ 64 := by
  by_cases h0 : a = 0
  ·subst h0
   rw [bez_zero hm, Pol.len_zero]; omega
  ·exact bez_64 h0 hml
 have e3 := hmo p (Pol.bezout a m).2.1 m hm hl (by omega)
 have e4 : (Pol.bezout a m).2.1 % m = invm m a := rfl
 rw [e4] at e3
 refine ask_of hT rfl ?_
 generalize pad (row (invm m a)) = R at *
 generalize pad (row (Pol.bezout a m).1) = R1 at *
 generalize pad (row (Pol.bezout a m).2.1) = R2 at *
 generalize pad (row (Pol.bezout a m).2.2) = R3 at *
 generalize pad (row a) = Pa at *
 generalize pad (row m) = Pm at *
 simp -implicitDefEqProofs [Z3o, Z3o_B, e2, e3, List.replicate]
section
variable {p : Int}
noncomputable def inC [IsP p] (m : Fp p) (Z B : List (Fp p)) (x y : Fp p) : Fp p := (y - svI m x 0 B 0) * invm m (svI m x 0 Z 0) % m
noncomputable def inO [IsP p] (m : Fp p) (Z B : List (Fp p)) (x y : Fp p) : List (Fp p) := plusS 1 B (prodS m (termS (inC m Z B x y) 0) Z)
noncomputable def inZ [IsP p] (m : Fp p) (Z : List (Fp p)) (x : Fp p) : List (Fp p) := prodS m [lsC m (svI m x 0 Z 0), 1] Z
noncomputable def inS [IsP p] (m : Fp p) : List (Fp p) → List (Fp p) → List (Fp p) → List (Fp p) → List (Fp p)
 | x :: xs, y :: ys, Z, B => inS m xs ys (inZ m Z x) (inO m Z B x y)
 | _, _, _, B => B
structure InI (m : Fp p) (Z B : List (Fp p)) (n : Nat) : Prop where
 z : Sk m Z
 zl : Z.length = n + 1
 b : Sk m B
 bl : B.length ≤ n
theorem inC_len [IsP p] {m : Fp p} (hm : Fld m) (Z B : List (Fp p)) (x y : Fp p) : (inC m Z B x y).len < m.len := Pol.len_mod _ hm.mon.2
theorem term_len {m c : Fp p} (h : c.len < m.len) : ∀ y ∈ termS c 0, y.len < m.len := fun y hy => by
 have : y = c := by simpa [termS] using hy
 rw [this]; exact h
theorem prod_term_len [IsP p] {m : Fp p} (c : Fp p) (Z : List (Fp p)) : (prodS m (termS c 0) Z).length ≤ Z.length := by
 unfold prodS
 split
 ·simp
 ·refine Nat.le_trans (trimS_len_le _) ?_
  unfold mulS
  rw [byOut_length, List.length_replicate, termS_length]; omega
theorem InI.next [IsP p] {m : Fp p} (hm : Fld m) {Z B : List (Fp p)} {n : Nat} (h : InI m Z B n) (hn : n ≤ 6) {x y : Fp p} : InI m (inZ m Z x) (inO m Z B x y) (n + 1) := by
 have h0 := hm.mon.2
 have h2 := hm.two
 have hcl := lsC_len (v := svI m x 0 Z 0) hm
 have hzl := h.zl
 have hbl := h.bl
 have hl : (inZ m Z x).length = n + 1 + 1 := by
  unfold inZ
  rw [prodS_len hm (two_trim _) h.z.trim (two_res hm hcl) h.z.res (by simp) (by omega)]
  simp only [List.length_cons, List.length_nil]
  omega
 have hp : Sk m (prodS m (termS (inC m Z B x y) 0) Z) := ⟨isTrim_prod _ _ _, by have := prod_term_len (m := m) (inC m Z B x y) Z; omega, fun c hc => by have := prodS_lens' (N := m.len - 1) h0 (by omega) c hc; omega⟩
 refine ⟨⟨isTrim_prod _ _ _, by omega, fun c hc => by have := prodS_lens' (N := m.len - 1) h0 (by omega) c hc; omega⟩, hl, h.b.plus h0 hp 1, ?_⟩
 have h1 := plus_len 1 B (prodS m (termS (inC m Z B x y) 0) Z)
 have h3 := prod_term_len (m := m) (inC m Z B x y) Z
 unfold inO
 omega
theorem InI.all [IsP p] {m : Fp p} (hm : Fld m) : ∀ (xs ys Z B : List (Fp p)) (n : Nat), InI m Z B n → n + xs.length ≤ 7 → Sk m (inS m xs ys Z B)
 | [], ys, Z, B, n, h, _ => by unfold inS; exact h.b
 | x :: xs, [], Z, B, n, h, _ => by unfold inS; exact h.b
 | x :: xs, y :: ys, Z, B, n, h, hn => by
  rw [List.length_cons] at hn
  exact InI.all hm xs ys _ _ (n + 1) (h.next hm (by omega)) (by omega)
theorem InI.one [IsP p] {m : Fp p} (hm : Fld m) : InI m (termS (1 : Fp p) 0) [] 0 := ⟨sk_one hm, by rw [termS_length], Sk.nil m, Nat.le_refl _⟩
theorem sub_len [IsP p] {m a b : Fp p} (ha : a.len < m.len) (hb : b.len < m.len) : (a - b).len < m.len := by
 have := Pol.len_sub_le (a := a) (b := b) (n := m.len - 1) (by omega) (by omega)
 omega
theorem l_inter [IsP p] {O : Oracle} (hva : K_value O) (hfr : K_frob O) (hin : K_inverted O) (hpr : K_product O) (hsc : K_scale O) (hco : K_combine1 O) (hsi : K_single O) (hpl : K_plus O) (hby : K_by2 O) {m : Fp p} (hm : Fld m) {xs ys : List (Fp p)} (hxs : ∀ x ∈ xs, x.len < m.len) (hys : ∀ x ∈ ys, x.len < m.len) (hl : ys.length = xs.length) (h4 : xs.length ≤ 4) : ∀ (r i : Nat) (Z B : List (Fp p)), i + r = xs.length → InI m Z B i → ∃ ZD : D,
 dn O 0 (.loop Zf_L0) ⟨[(2, .d (.sl .leaf (ys.map rowD))), (3, .ptr 0 []), (7, .d (skD B)), (8, .d (skD Z)), (16, .d (.sl .leaf (xs.map rowD))), (17, (.d (.int .i64 xs.length))), (18, (.d (.int .i64 i)))], [.box false (fldD m), .hole, .hole, .hole]⟩ =
  some (.exit 0, ⟨[(2, .d (.sl .leaf (ys.map rowD))), (3, .ptr 0 []), (7, .d (skD (inS m (xs.drop i) (ys.drop i) Z B))), (8, .d ZD), (16, .d (.sl .leaf (xs.map rowD))), (17, (.d (.int .i64 xs.length))), (18, (.d (.int .i64 xs.length))), (19, (.d (.bool false)))], [.box false (fldD m), .hole, .hole, .hole]⟩)
 | 0, i, Z, B, hi, hI => by
  obtain rfl : i = xs.length := by omega
  rw [List.drop_length, show inS m [] (ys.drop xs.length) Z B = B by unfold inS; rfl]
  refine ⟨skD Z, dn_stop ?_⟩
  generalize skD B = BD at *
  generalize skD Z = ZD at *
  generalize xs.map rowD = XD at *
  generalize ys.map rowD = YD at *
  simp -implicitDefEqProofs [Zf_L0, dn_cond]
 | r + 1, i, Z, B, hi, hI => by
  have h5 := hm.five
  have h2 := hm.two
  have h0 := hm.mon.2
  have hlt : i < xs.length := by omega
  have hlt2 : i < ys.length := by omega
  have hx1 := hxs _ (List.getElem_mem hlt)
  have hy1 := hys _ (List.getElem_mem hlt2)
  have hzl := hI.zl
  have hbl := hI.bl
  have hXL : (xs.map rowD).length = xs.length := List.length_map ..
  have hYL : (ys.map rowD).length = xs.length := (List.length_map ..).trans hl
  have hxi : ∀ h : i < (xs.map rowD).length, (xs.map rowD)[i]'h = (D.sl .leaf (ints .i64 (row xs[i]))) := fun h => by rw [List.getElem_map]
  have hyi : ∀ h : i < (ys.map rowD).length, (ys.map rowD)[i]'h = (D.sl .leaf (ints .i64 (row ys[i]))) := fun h => by rw [List.getElem_map]
  have w4 : IntKind.i64.wrap ((i : Int) + 1) = ((i + 1 : Nat) : Int) := (w64 (x := (i : Int) + 1) (by omega)).trans (by omega)
  have e1 := hva p m xs[i] Z h2 (by omega) (by omega) (by omega) (fun c hc => by have := hI.z.res c hc; omega)
  have e2 := hva p m xs[i] B h2 (by omega) (by omega) (by omega) (fun c hc => by have := hI.b.res c hc; omega)
  have hvl : (svI m xs[i] 0 Z 0).len < m.len := svI_len h0 0 Z 0 (by rw [Pol.len_zero]; omega)
  have hwl : (svI m xs[i] 0 B 0).len < m.len := svI_len h0 0 B 0 (by rw [Pol.len_zero]; omega)
  have e3 := hco p ys[i] (svI m xs[i] 0 B 0) (by omega) (by omega)
  have hdl := sub_len hy1 hwl
  have e4 := hin p m (svI m xs[i] 0 Z 0) h0 (by omega) (by omega)
  have f2 := invm_len h0 (svI m xs[i] 0 Z 0)
  have e5 := hpr p m (ys[i] - svI m xs[i] 0 B 0) (invm m (svI m xs[i] 0 Z 0)) h0 (by omega) (by omega) (by omega)
  rw [show (ys[i] - svI m xs[i] 0 B 0) * invm m (svI m xs[i] 0 Z 0) % m = inC m Z B xs[i] ys[i] from rfl] at e5
  have hcl := inC_len hm Z B xs[i] ys[i]
  have e6 := hsi p (inC m Z B xs[i] ys[i]) 0 (by omega)
  have e7 := hby p m (termS (inC m Z B xs[i] ys[i]) 0) Z h2 (by omega) (fun c hc => by have := term_len hcl c hc; omega) (fun c hc => by have := hI.z.res c hc; omega) (by rw [termS_length]; omega) (by omega)
  have hpl2 := prod_term_len (m := m) (inC m Z B xs[i] ys[i]) Z
  have e8 := hpl p m B (prodS m (termS (inC m Z B xs[i] ys[i]) 0) Z) 1 (by omega) (by omega) (by omega) (by omega) (fun c hc => by have := hI.b.res c hc; omega) (fun c hc => by have := prodS_lens' (N := m.len - 1) h0 (by omega) c hc; omega)
  rw [show plusS 1 B (prodS m (termS (inC m Z B xs[i] ys[i]) 0) Z) = inO m Z B xs[i] ys[i] from rfl] at e8
  have e9 := hfr p m (svI m xs[i] 0 Z 0) 1 h2 (by omega) (by omega) (by omega)
  rw [frIt_mod hm 1 hvl, show ((1 : Nat) : Int) = 1 from rfl] at e9
  have f1 := frIt_len h0 1 _ hvl
  have e11 := hpr p m (frIt m 1 (svI m xs[i] 0 Z 0)) (invm m (svI m xs[i] 0 Z 0)) h0 (by omega) (by omega) (by omega)
  have f3 := Pol.len_mod (frIt m 1 (svI m xs[i] 0 Z 0) * invm m (svI m xs[i] 0 Z 0)) h0
  have e12 := hsc p (-1) (frIt m 1 (svI m xs[i] 0 Z 0) * invm m (svI m xs[i] 0 Z 0) % m) (by omega) (by omega) (by omega)
  rw [show Pol.C (zp p (-1)) * (frIt m 1 (svI m xs[i] 0 Z 0) * invm m (svI m xs[i] 0 Z 0) % m) = lsC m (svI m xs[i] 0 Z 0) from rfl] at e12
  have hcl2 := lsC_len (v := svI m xs[i] 0 Z 0) hm
  have e13 := hby p m [lsC m (svI m xs[i] 0 Z 0), 1] Z h2 (by omega) (fun c hc => by have := two_res hm hcl2 c hc; omega) (fun c hc => by have := hI.z.res c hc; omega) (by simp) (by omega)
  rw [show prodS m [lsC m (svI m xs[i] 0 Z 0), 1] Z = inZ m Z xs[i] from rfl, show skD [lsC m (svI m xs[i] 0 Z 0), (1 : Fp p)] = .sl .leaf [(D.sl .leaf (ints .i64 (row (lsC m (svI m xs[i] 0 Z 0))))), (D.sl .leaf (ints .i64 (row (1 : Fp p))))] from rfl, row_one, show ints .i64 [1] = [.int .i64 1] from rfl] at e13
  obtain ⟨ZD, ih⟩ := l_inter hva hfr hin hpr hsc hco hsi hpl hby hm hxs hys hl h4 r (i + 1) (inZ m Z xs[i]) (inO m Z B xs[i] ys[i]) (by omega) (hI.next hm (by omega))
  have hdr : inS m (xs.drop i) (ys.drop i) Z B = inS m (xs.drop (i + 1)) (ys.drop (i + 1)) (inZ m Z xs[i]) (inO m Z B xs[i] ys[i]) := by rw [List.drop_eq_getElem_cons hlt, List.drop_eq_getElem_cons hlt2]; rfl
  rw [hdr]
  have hfd : fldD m = .st [.leaf, .leaf] [(D.int .i64 p), (D.sl .leaf (ints .i64 (row m)))] := rfl
  have kk : ∀ X : List (Fp p), skD X = .sl .leaf (X.map rowD) := fun _ => rfl
  refine ⟨ZD, dn_round ?_ ih⟩
  have hlt' : (i : Int) < xs.length := by omega
  have e00 : ((0 : Nat) : Int) = 0 := rfl
  rw [kk Z, hfd] at e1
  rw [kk B, hfd] at e2
  rw [hfd] at e4 e5 e9 e11
  rw [kk (termS (inC m Z B xs[i] ys[i]) 0), e00] at e6
  rw [kk (termS (inC m Z B xs[i] ys[i]) 0), kk Z, kk (prodS m (termS (inC m Z B xs[i] ys[i]) 0) Z), hfd] at e7
  rw [kk B, kk (prodS m (termS (inC m Z B xs[i] ys[i]) 0) Z), kk (inO m Z B xs[i] ys[i]), hfd] at e8
  rw [kk Z, kk (inZ m Z xs[i]), hfd] at e13
  rw [kk Z, kk B, kk (inO m Z B xs[i] ys[i]), kk (inZ m Z xs[i]), hfd]
  generalize (inZ m Z xs[i]).map rowD = D1 at *
  generalize (inO m Z B xs[i] ys[i]).map rowD = D2 at *
  generalize (prodS m (termS (inC m Z B xs[i] ys[i]) 0) Z).map rowD = D3 at *
  generalize (termS (inC m Z B xs[i] ys[i]) 0).map rowD = D4 at *
  generalize row (inC m Z B xs[i] ys[i]) = R1 at *
  generalize row (ys[i] - svI m xs[i] 0 B 0) = R2 at *
  generalize row (lsC m (svI m xs[i] 0 Z 0)) = R3 at *
  generalize row (frIt m 1 (svI m xs[i] 0 Z 0) * invm m (svI m xs[i] 0 Z 0) % m) = R4 at *
  generalize row (frIt m 1 (svI m xs[i] 0 Z 0)) = R5 at *
  generalize row (invm m (svI m xs[i] 0 Z 0)) = R6 at *
  generalize row (svI m xs[i] 0 Z 0) = R7 at *
  generalize row (svI m xs[i] 0 B 0) = R8 at *
  generalize row xs[i] = R9 at *
  generalize row ys[i] = Ra at *
  generalize Z.map rowD = ZZ at *
  generalize B.map rowD = BB at *
  generalize xs.map rowD = XD at *
  generalize ys.map rowD = YD at *
  generalize row m = Rm at *
  simp -implicitDefEqProofs [Zf_L0, dn_cond, hlt, hlt', hXL, hYL, hxi, hyi, e1, e2, e3, e4, e5, e6, e7, e8, e9, e11, e12, e13, w4]
end
def K_inter (O : Oracle) : Prop := ∀ (p : Int) [IsP p] (m : Fp p) (xs ys : List (Fp p)), Fld m → (∀ x ∈ xs, x.len < m.len) → (∀ x ∈ ys, x.len < m.len) → ys.length = xs.length → xs.length ≤ 4 → ask O Ff [fldD m, .sl .leaf (xs.map rowD), .sl .leaf (ys.map rowD)] = some (skD (inS m xs ys (termS 1 0) []))
theorem k_inter (hT : T Ff = some Zf) (hva : K_value (den T A)) (hfr : K_frob (den T A)) (hin : K_inverted (den T A)) (hpr : K_product (den T A)) (hsc : K_scale (den T A)) (hco : K_combine1 (den T A)) (hsi : K_single (den T A)) (hpl : K_plus (den T A)) (hby : K_by2 (den T A)) : K_inter (den T A) := by
 intro p ip m xs ys hm hxs hys hl h4
 have e0 := hsi p (1 : Fp p) 0 (by omega)
 rw [row_one, show ints .i64 [1] = [.int .i64 1] from rfl, show ((0 : Nat) : Int) = 0 from rfl] at e0
 obtain ⟨ZD, e1⟩ := l_inter (O := den T A) hva hfr hin hpr hsc hco hsi hpl hby hm hxs hys hl h4 xs.length 0 (termS 1 0) [] (Nat.zero_add _) (.one hm)
 rw [List.drop_zero, List.drop_zero, show ((0 : Nat) : Int) = 0 from rfl] at e1
 have hXL : (xs.map rowD).length = xs.length := List.length_map ..
 have hfd : fldD m = .st [.leaf, .leaf] [(D.int .i64 p), (D.sl .leaf (ints .i64 (row m)))] := rfl
 have kk : ∀ X : List (Fp p), skD X = .sl .leaf (X.map rowD) := fun _ => rfl
 rw [kk (inS m xs ys (termS 1 0) []), kk [], kk (termS 1 0), List.map_nil, hfd] at e1
 rw [kk (inS m xs ys (termS 1 0) []), hfd]
 rw [kk (termS 1 0)] at e0
 refine ask_of hT rfl ?_
 generalize (inS m xs ys (termS 1 0) []).map rowD = ND at *
 generalize (termS (1 : Fp p) 0).map rowD = OD at *
 generalize xs.map rowD = XD at *
 generalize ys.map rowD = YD at *
 generalize row m = Rm at *
 simp -implicitDefEqProofs [Zf, Zf_B, e0, e1, hXL]
end Pe

namespace Pe
open Go Gq
variable {T : Nat → Option Fn} {A : Oracle}
section
variable {p : Int} [IsP p]
noncomputable def inF (m c : Fp p) (Z B : List (Fp p)) (j : Nat) : Fp p := cS B j + Pol.C (zp p 1) * (c * cS Z j % m)
theorem inF_all {m c : Fp p} (hm : m ≠ 0) {Z B : List (Fp p)} (hZ : Z.length ≤ 8) (hB : B.length ≤ 8) : (List.range 8).map (inF m c Z B) = pd8 (plusS 1 B (prodS m (termS c 0) Z)) := by
 have h1 := plus_len 1 B (prodS m (termS c 0) Z)
 have h2 := prod_term_len (m := m) c Z
 refine eight_ext (by rw [List.length_map, List.length_range]) (pd8_length (by omega)) fun i hi => ?_
 rw [cS_map, if_pos hi, cS_pd8, cS_plus, prod_one hm]
 rfl
theorem l_sInt0 {O : Oracle} (hmm : K_sMulMod O) (had : K_sAdd O) {m c : Fp p} (hm : Fld m) (hc : c.len < m.len) {Z B : List (Fp p)} (hZ : Sk m Z) (hB : Sk m B) {XD YD z : List D} {Pv : List Int} {i : Int} : ∀ (r k : Nat) (Q : List (Fp p)), k + r = 8 → Q.length = 8 → (∀ j, k ≤ j → cS Q j = cS B j) →
 dn O 0 (.loop Z3w_L0) ⟨[(0, (.d (.int .i64 p))), (2, .d (.sl (.arr 64 .leaf) XD)), (3, .d (.sl (.arr 64 .leaf) YD)), (5, .ptr 0 []), (8, .ptr 1 []), (9, .ptr 2 []), (10, .ptr 3 []), (11, (.d (.int .i64 i))), (12, .ptr 4 []), (14, .ptr 6 []), (15, (.d (.int .i64 k)))], [.box false (D.arr 64 .leaf (ints .u8 (pad (row m)))), .box false (.arr 8 (.arr 64 .leaf) z), .box false (.arr 8 (.arr 64 .leaf) ((skP Q).map arr8)), .box false (.arr 8 (.arr 64 .leaf) ((skP (pd8 Z)).map arr8)), .box false (D.arr 64 .leaf (ints .u8 Pv)), .hole, .box false (D.arr 64 .leaf (ints .u8 (pad (row c)))), .hole, .hole]⟩ =
  some (.exit 2, ⟨[(0, (.d (.int .i64 p))), (2, .d (.sl (.arr 64 .leaf) XD)), (3, .d (.sl (.arr 64 .leaf) YD)), (5, .ptr 0 []), (8, .ptr 1 []), (9, .ptr 2 []), (10, .ptr 3 []), (11, (.d (.int .i64 i))), (12, .ptr 4 []), (14, .ptr 6 []), (15, (.d (.int .i64 8))), (58, (.d (.bool false)))], [.box false (D.arr 64 .leaf (ints .u8 (pad (row m)))), .box false (.arr 8 (.arr 64 .leaf) z), .box false (.arr 8 (.arr 64 .leaf) ((skP (updG (inF m c Z B) r k Q)).map arr8)), .box false (.arr 8 (.arr 64 .leaf) ((skP (pd8 Z)).map arr8)), .box false (D.arr 64 .leaf (ints .u8 Pv)), .hole, .box false (D.arr 64 .leaf (ints .u8 (pad (row c)))), .hole, .hole]⟩)
 | 0, k, Q, hk, hq, hQ => by
  obtain rfl : k = 8 := by omega
  refine dn_stop ?_
  show _ = some (_, (⟨_, [_, _, .box false (.arr 8 (.arr 64 .leaf) ((skP Q).map arr8)), _, _, _, _, _, _]⟩ : St))
  generalize (skP Q).map arr8 = QD at *
  generalize (skP (pd8 Z)).map arr8 = ZD at *
  simp -implicitDefEqProofs [Z3w_L0, dn_cond]
 | r + 1, k, Q, hk, hq, hQ => by
  have h0 := hm.mon.2
  have h5 := hm.five
  have hk8 : k < 8 := by omega
  have hk8' : (k : Int) < 8 := by omega
  have hltq : k < Q.length := by omega
  have a1 := hB.cs h0 k
  have a2 := hZ.cs h0 k
  have e1 := hmm p c (cS Z k) m h0 (by omega) (by omega) (by omega)
  have a3 := Pol.len_mod (c * cS Z k) h0
  have e2 := had p 1 (cS B k) (c * cS Z k % m) (by omega) (by omega) (by omega) (by omega)
  rw [show cS B k + Pol.C (zp p 1) * (c * cS Z k % m) = inF m c Z B k from rfl] at e2
  have w4 : IntKind.i64.wrap ((k : Int) + 1) = ((k + 1 : Nat) : Int) := (w64 (x := (k : Int) + 1) (by omega)).trans (by omega)
  have hx1 : ∀ h : k < ((skP Q).map arr8).length, ((skP Q).map arr8)[k]'h = (D.arr 64 .leaf (ints .u8 (pad (row (cS B k))))) := fun h => by
   rw [List.getElem_map, List.getElem_map, cS_lt hltq, hQ k (Nat.le_refl _)]
  have hx2 := eS_get hZ.eight hk8
  have hQL : ((skP Q).map arr8).length = 8 := by rw [List.length_map, List.length_map]; exact hq
  have hZL := eS_len hZ.eight
  refine dn_round ?_ (l_sInt0 hmm had hm hc hZ hB r (k + 1) (Q.set k (inF m c Z B k)) (by omega) (by rw [List.length_set]; exact hq) (fun j hj => by rw [cS_set hltq, if_neg (by omega), hQ j (by omega)]))
  rw [show (skP (Q.set k (inF m c Z B k))).map arr8 = ((skP Q).map arr8).set k (D.arr 64 .leaf (ints .u8 (pad (row (inF m c Z B k))))) by unfold skP; rw [List.map_set, List.map_set]]
  generalize pad (row (inF m c Z B k)) = P1 at *
  generalize pad (row (c * cS Z k % m)) = P2 at *
  generalize pad (row (cS B k)) = P3 at *
  generalize pad (row (cS Z k)) = P4 at *
  generalize pad (row c) = P5 at *
  generalize (skP Q).map arr8 = QD at *
  generalize (skP (pd8 Z)).map arr8 = ZD at *
  generalize pad (row m) = Pm at *
  simp -implicitDefEqProofs [Z3w_L0, dn_cond, hk8, hk8', hQL, hZL, hx1, hx2, e1, e2, w4]
theorem lsC_pw' {m v : Fp p} (hm : Fld m) (hvl : v.len < m.len) : frIt m 1 v * invm m v % m = pw v (p - 1).toNat % m := by
 by_cases hv : v = 0
 ·subst hv
  have hp := IsP.ge (p := p)
  have h0 := hm.mon.2
  have e1 : ∀ n : Nat, 0 < n → pw (0 : Fp p) n = 0 := fun n hn => by
   obtain ⟨k, rfl⟩ : ∃ k, n = k + 1 := ⟨n - 1, by omega⟩
   show pw (0 : Fp p) k * 0 = 0
   exact Gq.mul_zero _
  rw [e1 (p - 1).toNat (by omega), show frIt m 1 (0 : Fp p) = pw (0 : Fp p) p.toNat % m from rfl, e1 p.toNat (by omega), Pol.zero_mod h0, Gq.zero_mul, Pol.zero_mod h0]
 ·exact lsC_pw hm hv hvl
theorem l_sInt1 {O : Oracle} (hva : K_sSkVal O) (hsu : K_sSub O) (hin : K_sInvZ O) (hmm : K_sMulMod O) (hpm : K_sPowMod O) (had : K_sAdd O) (h1 : K_sOne O) (hti : K_sTimes8 O) {m : Fp p} (hm : Fld m) {xs ys : List (Fp p)} (hxs : ∀ x ∈ xs, x.len < m.len) (hys : ∀ x ∈ ys, x.len < m.len) (hl : ys.length = xs.length) (h4 : xs.length ≤ 4) {z : List D} : ∀ (r i : Nat) (Z B : List (Fp p)), i + r = xs.length → InI m Z B i → ∃ ZD : List D,
 dn O 0 (.loop Z3w_L1) ⟨[(0, (.d (.int .i64 p))), (2, .d (.sl (.arr 64 .leaf) (xs.map padD))), (3, .d (.sl (.arr 64 .leaf) (ys.map padD))), (5, .ptr 0 []), (8, .ptr 1 []), (9, .ptr 2 []), (10, .ptr 3 []), (11, (.d (.int .i64 i)))], [.box false (D.arr 64 .leaf (ints .u8 (pad (row m)))), .box false (.arr 8 (.arr 64 .leaf) z), .box false (.arr 8 (.arr 64 .leaf) ((skP (pd8 B)).map arr8)), .box false (.arr 8 (.arr 64 .leaf) ((skP (pd8 Z)).map arr8)), .hole, .hole, .hole, .hole, .hole]⟩ =
  some (.exit 0, ⟨[(0, (.d (.int .i64 p))), (2, .d (.sl (.arr 64 .leaf) (xs.map padD))), (3, .d (.sl (.arr 64 .leaf) (ys.map padD))), (5, .ptr 0 []), (8, .ptr 1 []), (9, .ptr 2 []), (10, .ptr 3 []), (11, (.d (.int .i64 xs.length))), (24, (.d (.bool false)))], [.box false (D.arr 64 .leaf (ints .u8 (pad (row m)))), .box false (.arr 8 (.arr 64 .leaf) z), .box false (.arr 8 (.arr 64 .leaf) ((skP (pd8 (inS m (xs.drop i) (ys.drop i) Z B))).map arr8)), .box false (.arr 8 (.arr 64 .leaf) ZD), .hole, .hole, .hole, .hole, .hole]⟩)
 | 0, i, Z, B, hi, hI => by
  obtain rfl : i = xs.length := by omega
  rw [List.drop_length, show inS m [] (ys.drop xs.length) Z B = B by unfold inS; rfl]
  have hXL : (xs.map padD).length = xs.length := List.length_map ..
  refine ⟨(skP (pd8 Z)).map arr8, dn_stop ?_⟩
  generalize (skP (pd8 B)).map arr8 = BD at *
  generalize (skP (pd8 Z)).map arr8 = ZD at *
  generalize xs.map padD = XD at *
  generalize ys.map padD = YD at *
  generalize pad (row m) = Pm at *
  simp -implicitDefEqProofs [Z3w_L1, dn_cond, hXL]
 | r + 1, i, Z, B, hi, hI => by
  have h5 := hm.five
  have h2 := hm.two
  have h0 := hm.mon.2
  have hp := IsP.ge (p := p)
  have h7 := IsP.le (p := p)
  have hlt : i < xs.length := by omega
  have hlt2 : i < ys.length := by omega
  have hx1 := hxs _ (List.getElem_mem hlt)
  have hy1 := hys _ (List.getElem_mem hlt2)
  have hzl := hI.zl
  have hbl := hI.bl
  have hXL : (xs.map padD).length = xs.length := List.length_map ..
  have hYL : (ys.map padD).length = xs.length := (List.length_map ..).trans hl
  have hxi : ∀ h : i < (xs.map padD).length, (xs.map padD)[i]'h = (D.arr 64 .leaf (ints .u8 (pad (row xs[i])))) := fun h => by rw [List.getElem_map]
  have hyi : ∀ h : i < (ys.map padD).length, (ys.map padD)[i]'h = (D.arr 64 .leaf (ints .u8 (pad (row ys[i])))) := fun h => by rw [List.getElem_map]
  have w4 : IntKind.i64.wrap ((i : Int) + 1) = ((i + 1 : Nat) : Int) := (w64 (x := (i : Int) + 1) (by omega)).trans (by omega)
  have e1 := hva p m xs[i] (pd8 Z) h2 (by omega) hx1 (pd8_length (by omega)) (pd8_res h0 hI.z.res)
  rw [← svI_trim h0, trim_pd8 hI.z.trim, show skwD (skP (pd8 Z)) = .arr 8 (.arr 64 .leaf) ((skP (pd8 Z)).map arr8) from rfl] at e1
  have e2 := hva p m xs[i] (pd8 B) h2 (by omega) hx1 (pd8_length (by omega)) (pd8_res h0 hI.b.res)
  rw [← svI_trim h0, trim_pd8 hI.b.trim, show skwD (skP (pd8 B)) = .arr 8 (.arr 64 .leaf) ((skP (pd8 B)).map arr8) from rfl] at e2
  have hvl : (svI m xs[i] 0 Z 0).len < m.len := svI_len h0 0 Z 0 (by rw [Pol.len_zero]; omega)
  have hwl : (svI m xs[i] 0 B 0).len < m.len := svI_len h0 0 B 0 (by rw [Pol.len_zero]; omega)
  have e3 := hsu p ys[i] (svI m xs[i] 0 B 0) (by omega) (by omega)
  have hdl := sub_len hy1 hwl
  have e4 := hin p m (svI m xs[i] 0 Z 0) h0 (by omega) hvl
  have f2 := invm_len h0 (svI m xs[i] 0 Z 0)
  have e5 := hmm p (ys[i] - svI m xs[i] 0 B 0) (invm m (svI m xs[i] 0 Z 0)) m h0 (by omega) (by omega) (by omega)
  rw [show (ys[i] - svI m xs[i] 0 B 0) * invm m (svI m xs[i] 0 Z 0) % m = inC m Z B xs[i] ys[i] from rfl] at e5
  have hcl := inC_len hm Z B xs[i] ys[i]
  have st := l_sInt0 (O := O) hmm had hm hcl hI.z hI.b (XD := xs.map padD) (YD := ys.map padD) (z := z) (Pv := pad (row (svI m xs[i] 0 Z 0))) (i := i) 8 0 (pd8 B) rfl (pd8_length (by omega)) (fun j _ => cS_pd8 j)
  rw [updG_all _ _ _ (pd8_length (by omega)), inF_all h0 (by omega) (by omega), show plusS 1 B (prodS m (termS (inC m Z B xs[i] ys[i]) 0) Z) = inO m Z B xs[i] ys[i] from rfl, show ((0 : Nat) : Int) = 0 from rfl] at st
  have e6 := hpm p (svI m xs[i] 0 Z 0) (p - 1) m h0 (by omega) (by omega) (by omega) (by omega)
  rw [← lsC_pw' hm hvl] at e6
  have f3 := Pol.len_mod (frIt m 1 (svI m xs[i] 0 Z 0) * invm m (svI m xs[i] 0 Z 0)) h0
  have e7 := had p (-1) 0 (frIt m 1 (svI m xs[i] 0 Z 0) * invm m (svI m xs[i] 0 Z 0) % m) (by omega) (by omega) (by rw [Pol.len_zero]; omega) (by omega)
  rw [Gq.zero_add, show Pol.C (zp p (-1)) * (frIt m 1 (svI m xs[i] 0 Z 0) * invm m (svI m xs[i] 0 Z 0) % m) = lsC m (svI m xs[i] 0 Z 0) from rfl, row_zero] at e7
  have e8 := h1 p
  have hcl2 := lsC_len (v := svI m xs[i] 0 Z 0) hm
  have e9 := hti p m [lsC m (svI m xs[i] 0 Z 0), 1] Z hm ⟨two_trim _, by simp, two_res hm hcl2⟩ hI.z (by simp only [List.length_cons, List.length_nil]; omega)
  rw [show prodS m [lsC m (svI m xs[i] 0 Z 0), 1] Z = inZ m Z xs[i] from rfl, eS_arr, eS_arr, eS_arr, eS_two] at e9
  have w1 : IntKind.i64.wrap (p - 1) = p - 1 := w64 (by omega)
  have hf1 := flats_arr8 (skP (pd8 (inZ m Z xs[i])))
  obtain ⟨ZD, ih⟩ := l_sInt1 hva hsu hin hmm hpm had h1 hti hm hxs hys hl h4 (z := z) r (i + 1) (inZ m Z xs[i]) (inO m Z B xs[i] ys[i]) (by omega) (hI.next hm (by omega))
  have hdr : inS m (xs.drop i) (ys.drop i) Z B = inS m (xs.drop (i + 1)) (ys.drop (i + 1)) (inZ m Z xs[i]) (inO m Z B xs[i] ys[i]) := by rw [List.drop_eq_getElem_cons hlt, List.drop_eq_getElem_cons hlt2]; rfl
  rw [hdr]
  refine ⟨ZD, dn_round ?_ ih⟩
  have hlt' : (i : Int) < xs.length := by omega
  generalize (skP (pd8 (inZ m Z xs[i]))).map arr8 = ND at *
  generalize (skP (pd8 (inO m Z B xs[i] ys[i]))).map arr8 = MD at *
  generalize (skP (pd8 Z)).map arr8 = ZZ at *
  generalize (skP (pd8 B)).map arr8 = BD at *
  generalize pad (row (lsC m (svI m xs[i] 0 Z 0))) = P3 at *
  generalize pad (row (frIt m 1 (svI m xs[i] 0 Z 0) * invm m (svI m xs[i] 0 Z 0) % m)) = P4 at *
  generalize pad (row (inC m Z B xs[i] ys[i])) = P6 at *
  generalize pad (row (ys[i] - svI m xs[i] 0 B 0)) = P7 at *
  generalize pad (row (invm m (svI m xs[i] 0 Z 0))) = P8 at *
  generalize pad (row (svI m xs[i] 0 Z 0)) = P1 at *
  generalize pad (row (svI m xs[i] 0 B 0)) = P9 at *
  generalize pad (row (1 : Fp p)) = P5 at *
  generalize pad (row xs[i]) = P2 at *
  generalize pad (row ys[i]) = Pa at *
  generalize xs.map padD = XD at *
  generalize ys.map padD = YD at *
  generalize pad (row m) = Pm at *
  simp [z8, z64_eq] at e9
  simp -implicitDefEqProofs [Z3w_L1, dn_cond, hlt, hlt', hXL, hYL, hxi, hyi, e1, e2, e3, e4, e5, st, e6, e7, e8, e9, w1, w4, hf1, z8, List.replicate]
end
def K_sInter (O : Oracle) : Prop := ∀ (p : Int) [IsP p] (m : Fp p) (xs ys : List (Fp p)), Fld m → (∀ x ∈ xs, x.len < m.len) → (∀ x ∈ ys, x.len < m.len) → ys.length = xs.length → xs.length ≤ 4 → ask O F3w [(D.int .i64 p), (D.arr 64 .leaf (ints .u8 (pad (row m)))), .sl (.arr 64 .leaf) (xs.map padD), .sl (.arr 64 .leaf) (ys.map padD)] = some (eS (inS m xs ys (termS 1 0) []))
theorem k_sInter (hT : T F3w = some Z3w) (hon : K_sOne3 (den T A)) (hva : K_sSkVal (den T A)) (hsu : K_sSub (den T A)) (hin : K_sInvZ (den T A)) (hmm : K_sMulMod (den T A)) (hpm : K_sPowMod (den T A)) (had : K_sAdd (den T A)) (h1 : K_sOne (den T A)) (hti : K_sTimes8 (den T A)) : K_sInter (den T A) := by
 intro p ip m xs ys hm hxs hys hl h4
 have e0 := hon p
 obtain ⟨ZD, e1⟩ := l_sInt1 (O := den T A) hva hsu hin hmm hpm had h1 hti hm hxs hys hl h4 (z := z8) xs.length 0 (termS 1 0) [] (Nat.zero_add _) (.one hm)
 rw [List.drop_zero, List.drop_zero, show ((0 : Nat) : Int) = 0 from rfl, show (skP (pd8 ([] : List (Fp p)))).map arr8 = z8 from z8_zs (p := p)] at e1
 have hf1 := flats_arr8 (skP (pd8 (termS (1 : Fp p) 0)))
 have hf2 := flats_arr8 (skP (pd8 (inS m xs ys (termS 1 0) [])))
 rw [eS_arr] at e0 ⊢
 refine ask_of hT rfl ?_
 generalize (skP (pd8 (inS m xs ys (termS 1 0) []))).map arr8 = ND at *
 generalize (skP (pd8 (termS (1 : Fp p) 0))).map arr8 = OD at *
 generalize xs.map padD = XD at *
 generalize ys.map padD = YD at *
 generalize pad (row m) = Pm at *
 simp -implicitDefEqProofs [Z3w, Z3w_B, e0, e1, hf1, List.replicate]
end Pe

namespace Pe
open Go Gq
variable {T : Nat → Option Fn} {A : Oracle}
theorem pl_ok {p : Int} {l : List Int} {ls ms : List (List Int)} {c : Prop} (h : codePl p l ls ms c = 0) : ∃ (_ : IsP p) (m : Fp p) (S R : List (Fp p)), l = pad (row m) ∧ Fld m ∧ ls = skP S ∧ ms = skP R ∧ (∀ a ∈ S, a.len < m.len) ∧ (∀ a ∈ R, a.len < m.len) ∧ S.length ≤ 4 ∧ c := by
 obtain ⟨⟨ip, m, e, hm, hs⟩, h1, h4, h2⟩ := codePl_ok h
 obtain ⟨S, hS0, hS⟩ := sk_of (m := m) (ls := ls) (fun x hx => hs x (by simp [hx]))
 obtain ⟨R, hR0, hR⟩ := sk_of (m := m) (ls := ms) (fun x hx => hs x (by simp [hx]))
 have hSl : ls.length = S.length := by rw [hS0, List.length_map]
 exact ⟨ip, m, S, R, e, hm, hS0, hR0, hS, hR, by omega, h2⟩
open Classical in
noncomputable def ieL (p : Int) (l : List Int) (ls ms : List (List Int)) : List (Fp p) :=
 if h : ∃ (_ : IsP p), True then
  haveI : IsP p := h.choose
  inS (polOf p l) (ls.map (polOf p)) (ms.map (polOf p)) (termS 1 0) []
 else []
theorem ieL_good {p : Int} [ip : IsP p] {m : Fp p} {S R : List (Fp p)} (hm : m.len ≤ 64) (hS : ∀ a ∈ S, a.len ≤ 64) (hR : ∀ a ∈ R, a.len ≤ 64) : ieL p (pad (row m)) (skP S) (skP R) = inS m S R (termS 1 0) [] := by
 unfold ieL
 rw [dif_pos ⟨ip, trivial⟩, polOf_pad hm, map_polOf hS, map_polOf hR]
def ieP (ls ms : List (List Int)) : Prop := ms.length = ls.length
open Classical in
noncomputable def ieD (p : Int) (l : List Int) (ls ms : List (List Int)) : D :=
 if codePl p l ls ms (ieP ls ms) = 0 then .tup [eS (ieL p l ls ms), (D.int .i64 0)] else .tup [skwD (List.replicate 8 (pad [])), (D.int .i64 (codePl p l ls ms (ieP ls ms)))]
theorem ieD_form (p : Int) (l : List Int) (ls ms : List (List Int)) : ∃ (r : List (List Int)) (k : Int), ieD p l ls ms = .tup [skwD r, (D.int .i64 k)] ∧ Sh8 r := by
 unfold ieD
 by_cases h : codePl p l ls ms (ieP ls ms) = 0
 ·rw [if_pos h]
  obtain ⟨ip, m, S, R, rfl, hm, rfl, rfl, hS, hR, h4, -⟩ := pl_ok h
  have h5 := hm.five
  rw [ieL_good (by omega) (fun a ha => by have := hS a ha; omega) (fun a ha => by have := hR a ha; omega)]
  exact ⟨_, _, rfl, eS_sh (InI.all hm S R _ _ 0 (.one hm) (by omega))⟩
 ·rw [if_neg h]
  exact ⟨_, _, rfl, sh8_zero⟩
def K_InterpolateSkew (O : Oracle) (F : Nat) : Prop := ∀ (p : Int) (l : List Int) (ls ms : List (List Int)), Bytes l → l.length = 64 → Arrs ls → Arrs ms → ls.length + ms.length < 2000000 → ask O F [(D.int .i64 p), (D.arr 64 .leaf (ints .u8 l)), .sl (.arr 64 .leaf) (ls.map arr8), .sl (.arr 64 .leaf) (ms.map arr8)] = some (ieD p l ls ms)
theorem k_InterpolateSkew (hT : T F4 = some Z4) (hp : C_places (den T A)) (hfo : K_fieldOf (den T A)) (hro : K_rows (den T A)) (hit : K_inter (den T A)) (hto : K_toldSk (den T A)) : K_InterpolateSkew (den T A) F4 := by
 intro p l ls ms bl gl ha hb hl
 have e1 := hp p l ls ms (decide (ms.length = ls.length)) bl gl ha hb hl
 rw [codePl_congr (ns := ms) (d := ieP ls ms) Iff.rfl (by rw [decide_eq_true_eq]; exact Iff.rfl)] at e1
 have hLL : (ls.map arr8).length = ls.length := List.length_map ..
 have hMM : (ms.map arr8).length = ms.length := List.length_map ..
 have hdec : decide ((ms.length : Int) = (ls.length : Int)) = decide (ms.length = ls.length) := by
  by_cases h : ms.length = ls.length
  ·rw [decide_eq_true h, decide_eq_true (by omega)]
  ·rw [decide_eq_false h, decide_eq_false (by omega)]
 rw [← hdec] at e1
 obtain ⟨k, hk⟩ : ∃ k : Int, (ls.length : Int) = k := ⟨_, rfl⟩
 obtain ⟨j, hj⟩ : ∃ j : Int, (ms.length : Int) = j := ⟨_, rfl⟩
 have hLk : ((ls.map arr8).length : Int) = k := by rw [List.length_map]; exact hk
 have hMj : ((ms.map arr8).length : Int) = j := by rw [List.length_map]; exact hj
 rw [hk, hj] at e1
 unfold ieD
 by_cases h : codePl p l ls ms (ieP ls ms) = 0
 ·rw [if_pos h]
  rw [h] at e1
  obtain ⟨ip, m, S, R, rfl, hm, rfl, rfl, hS, hR, h4, heq⟩ := pl_ok h
  have h5 := hm.five
  have hSl : (skP S).length = S.length := List.length_map ..
  have hRl : (skP R).length = R.length := List.length_map ..
  have heq2 : R.length = S.length := by unfold ieP at heq; omega
  rw [ieL_good (by omega) (fun a ha => by have := hS a ha; omega) (fun a ha => by have := hR a ha; omega)]
  have e3 := hfo p m (by omega)
  have e4 := hro p S (by omega) (fun x hx => by have := hS x hx; omega)
  have e5 := hro p R (by omega) (fun x hx => by have := hR x hx; omega)
  have e6 := hit p m S R hm hS hR heq2 h4
  have hI := InI.all hm S R _ _ 0 (.one hm) (by omega)
  have h8 := hI.eight
  have e7 := hto p (inS m S R (termS 1 0) []) (by omega) (fun a ha => by have := hI.res a ha; omega)
  unfold toldSkD at e7
  rw [if_pos (by omega), show skwD (skP (pd8 (inS m S R (termS 1 0) []))) = .arr 8 (.arr 64 .leaf) ((skP (pd8 (inS m S R (termS 1 0) []))).map arr8) from rfl] at e7
  rw [show skD (inS m S R (termS 1 0) []) = .sl .leaf ((inS m S R (termS 1 0) []).map rowD) from rfl] at e6 e7
  have hfd : fldD m = .st [.leaf, .leaf] [(D.int .i64 p), (D.sl .leaf (ints .i64 (row m)))] := rfl
  rw [hfd] at e3 e6
  have hf1 := flats_arr8 (skP (pd8 (inS m S R (termS 1 0) [])))
  rw [eS_arr]
  rw [map_padD S] at e1 hLk ⊢
  rw [map_padD R] at e1 hMj ⊢
  refine ask_of hT rfl ?_
  generalize (skP (pd8 (inS m S R (termS 1 0) []))).map arr8 = ND at *
  generalize (inS m S R (termS 1 0) []).map rowD = NR at *
  generalize S.map padD = SD at *
  generalize R.map padD = RD at *
  generalize S.map rowD = SR at *
  generalize R.map rowD = RR at *
  generalize pad (row m) = Pm at *
  generalize row m = Rm at *
  simp -implicitDefEqProofs [Z4, ir_impl_InterpolateSkew_B, dn_cond, e1, e3, e4, e5, e6, e7, hLk, hMj, hf1, List.replicate]
 ·rw [if_neg h, z8_pad]
  refine ask_of hT rfl ?_
  have hfz : D.flats z8 = true := rfl
  generalize codePl p l ls ms (ieP ls ms) = cc at *
  generalize ls.map arr8 = LD at *
  generalize ms.map arr8 = MD at *
  simp -implicitDefEqProofs [Z4, ir_impl_InterpolateSkew_B, dn_cond, e1, hLk, hMj, h, List.replicate]
theorem k_sInterpolateSkew (hT : T F32 = some Z32) (hp : C_sPlc (den T A)) (hit : K_sInter (den T A)) : K_InterpolateSkew (den T A) F32 := by
 intro p l ls ms bl gl ha hb hl
 have e1 := hp p l ls ms ls.length ls.length bl gl ha hb (by omega) (by omega)
 rw [codePl_congr (ns := ms) (d := ieP ls ms) Iff.rfl (by unfold ieP; omega)] at e1
 have hLL : (ls.map arr8).length = ls.length := List.length_map ..
 unfold ieD
 by_cases h : codePl p l ls ms (ieP ls ms) = 0
 ·rw [if_pos h]
  rw [h] at e1
  obtain ⟨ip, m, S, R, rfl, hm, rfl, rfl, hS, hR, h4, heq⟩ := pl_ok h
  have h5 := hm.five
  have hSl : (skP S).length = S.length := List.length_map ..
  have hRl : (skP R).length = R.length := List.length_map ..
  have heq2 : R.length = S.length := by unfold ieP at heq; omega
  rw [ieL_good (by omega) (fun a ha => by have := hS a ha; omega) (fun a ha => by have := hR a ha; omega)]
  have e6 := hit p m S R hm hS hR heq2 h4
  have hf1 := flats_arr8 (skP (pd8 (inS m S R (termS 1 0) [])))
  rw [eS_arr] at e6 ⊢
  rw [map_padD S] at e1 hLL ⊢
  rw [map_padD R] at e1 ⊢
  generalize (skP S).length = n at *
  refine ask_of hT rfl ?_
  generalize (skP (pd8 (inS m S R (termS 1 0) []))).map arr8 = ND at *
  generalize S.map padD = SD at *
  generalize R.map padD = RD at *
  generalize pad (row m) = Pm at *
  simp -implicitDefEqProofs [Z32, ir_spec_InterpolateSkew_B, dn_cond, e1, e6, hLL, hf1, List.replicate]
 ·rw [if_neg h, z8_pad]
  refine ask_of hT rfl ?_
  have hfz : D.flats z8 = true := rfl
  generalize codePl p l ls ms (ieP ls ms) = cc at *
  generalize ls.map arr8 = LD at *
  generalize ms.map arr8 = MD at *
  generalize ls.length = n at *
  simp -implicitDefEqProofs [Z32, ir_spec_InterpolateSkew_B, dn_cond, e1, hLL, h, List.replicate]
def L_InterpolateSkew (O : Oracle) : Prop := ∀ (p : Int) (l : List Int), Bytes l → l.length = 64 → ∀ (ls : List (List Int)), Arrs ls → ls.length ≤ 9223372036854775807 → ∀ (ms : List (List Int)), Arrs ms → ms.length ≤ 9223372036854775807 → ask O F1r [(D.int .i64 p), (D.arr 64 .leaf (ints .u8 l)), .sl (.arr 64 .leaf) (ls.map arr8), .sl (.arr 64 .leaf) (ms.map arr8)] = some (D.bool true)
theorem law_InterpolateSkew (hT : T F1r = some Z1r) (hp : C_toPoly (den T A)) (hk : C_toPs (den T A)) (he : C_eqPs (den T A)) (hes : C_eqSk (den T A)) (hsz : C_szPs (den T A)) (hi : K_InterpolateSkew (den T A) F4) (hs : K_InterpolateSkew (den T A) F32) : L_InterpolateSkew (den T A) := by
 intro p l bl gl ls ha hl ms hb hm
 have e0 := hsz (ls.map arr8) 1048576 (by omega) (by omega) (by rw [List.length_map]; exact hl)
 rw [List.length_map] at e0
 refine ask_of hT rfl ?_
 by_cases hbig : (1048576 : Int) < ls.length
 ·rw [if_pos hbig] at e0
  generalize ls.map arr8 = LD at *
  generalize ms.map arr8 = MD at *
  simp -implicitDefEqProofs [Z1r, ir_laws_FnExactInterpolateSkew_B, dn_cond, e0]
 ·rw [if_neg hbig] at e0
  have hn : ¬ (1048576 : Int) - ls.length < 0 := by omega
  have e0' := hsz (ms.map arr8) (1048576 - ls.length) (by omega) (by omega) (by rw [List.length_map]; exact hm)
  rw [List.length_map] at e0'
  by_cases hbig2 : (1048576 : Int) - ls.length < ms.length
  ·rw [if_pos hbig2] at e0'
   generalize (1048576 : Int) - ls.length = left at *
   generalize ls.map arr8 = LD at *
   generalize ms.map arr8 = MD at *
   simp -implicitDefEqProofs [Z1r, ir_laws_FnExactInterpolateSkew_B, dn_cond, e0, e0', hn]
  ·rw [if_neg hbig2] at e0'
   have hl2 : ls.length + ms.length < 2000000 := by omega
   have e1 := hp l bl gl
   have e2 := hk ls ha (by omega)
   have e2' := hk ms hb (by omega)
   have e3 := hi p l ls ms bl gl ha hb hl2
   have e4 := hs p l ls ms bl gl ha hb hl2
   obtain ⟨r, k, e5, g1⟩ := ieD_form p l ls ms
   rw [e5] at e3 e4
   have e6 := he ls (fun l hl => (ha l hl).1) (by omega)
   have e6' := he ms (fun l hl => (hb l hl).1) (by omega)
   have e7 := hes r g1
   have hn2 : ¬ (1048576 : Int) - ls.length - ms.length < 0 := by omega
   have hskr : skwD r = .arr 8 (.arr 64 .leaf) (r.map arr8) := rfl
   rw [hskr] at e3 e4 e7
   have hflr := flats_arr8 r
   generalize (1048576 : Int) - ls.length - ms.length = left2 at *
   generalize (1048576 : Int) - ls.length = left at *
   generalize ls.map arr8 = LD at *
   generalize ms.map arr8 = MD at *
   generalize r.map arr8 = LR at *
   simp -implicitDefEqProofs [Z1r, ir_laws_FnExactInterpolateSkew_B, dn_cond, e0, e0', e1, e2, e2', e3, e4, e6, e6', e7, hflr, hn, hn2, List.replicate]
end Pe

namespace Pe
open Go
theorem has_polys : ∀ (xs : List D), (∀ x ∈ xs, tyP.has x) → ∃ ls : List (List Int), xs = ls.map arr8 ∧ Arrs ls
 | [], _ => ⟨[], rfl, fun _ h => by cases h⟩
 | x :: xs, h => by
  obtain ⟨ls, rfl, hb⟩ := has_polys xs fun y hy => h y (List.mem_cons_of_mem _ hy)
  obtain ⟨l, rfl, b, g⟩ := has_P (h x (by simp))
  refine ⟨l :: ls, rfl, fun y hy => ?_⟩
  rcases List.mem_cons.1 hy with rfl | hy
  ·exact ⟨g, b⟩
  ·exact hb y hy
abbrev tyPs : Ty := .sl tyP
theorem has_Ps {d : D} (h : tyPs.has d) : ∃ ls : List (List Int), d = .sl (.arr 64 .leaf) (ls.map arr8) ∧ Arrs ls ∧ ls.length ≤ 9223372036854775807 := by
 cases d <;> simp only [Ty.has] at h
 obtain ⟨rfl, h1, h2⟩ := h
 obtain ⟨ls, rfl, hb⟩ := has_polys _ h2
 exact ⟨ls, rfl, hb, by simpa using h1⟩
end Pe
