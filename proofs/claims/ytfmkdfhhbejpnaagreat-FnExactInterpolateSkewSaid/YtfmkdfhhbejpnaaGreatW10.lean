/-
  Proved here: for all arguments the law FnExactInterpolateSkew returns true, and its arguments read afterwards as before. No conditions.
-/
import Derived.Test.YtfmkdfhhbejpnaaGreatRows
import Derived.WalkKit
import Derived.ProofKit
import Derived.OpenShut
import Derived.Test.YtfmkdfhhbejpnaaGreatW1
import Derived.Test.YtfmkdfhhbejpnaaGreatW2
import Derived.Test.YtfmkdfhhbejpnaaGreatW3
import Derived.Test.YtfmkdfhhbejpnaaGreatW4
import Derived.Test.YtfmkdfhhbejpnaaGreatW5
import Derived.Test.YtfmkdfhhbejpnaaGreatW6
import Derived.Test.YtfmkdfhhbejpnaaGreatW7
import Derived.Test.YtfmkdfhhbejpnaaGreatW8
import Derived.Test.YtfmkdfhhbejpnaaGreatW9

namespace Go.Proofs.YtfmkdfhhbejpnaaGreat.row
open Go.ChangeShapes Go.WideShapes Go.ChangeAt Go.RowKit Pe
theorem own : ownKnob Tryz.prog.godebug = Option.none := by kernel_rfl
theorem laid : laidOutB Tryz.prog = true := by kernel_rfl
theorem bool1 : boolOnly Tryz.prog Tryz.f4 = true := by kernel_rfl
theorem fit : fitsL Tryz.prog Tryz.f4.params.toList [tyN, tyP, tyPs, tyPs] = true := by kernel_rfl
theorem all {xs : List Pe.D} (h : Ty.hasAll [tyN, tyP, tyPs, tyPs] xs) : Pe.ask OO F1r xs = some (.bool true) := by
 obtain ⟨x0, r0, rfl, h0, h⟩ := hasAll_cons h
 obtain ⟨x1, r1, rfl, h1, h⟩ := hasAll_cons h
 obtain ⟨x2, r2, rfl, h2, h⟩ := hasAll_cons h
 obtain ⟨x3, r3, rfl, h3, h⟩ := hasAll_cons h
 obtain rfl := hasAll_nil h
 obtain ⟨n0, rfl, -, -⟩ := has_N h0
 obtain ⟨l1, rfl, b1, g1⟩ := has_P h1
 obtain ⟨s2, rfl, a2, g2⟩ := has_Ps h2
 obtain ⟨s3, rfl, a3, g3⟩ := has_Ps h3
 exact law n0 l1 b1 g1 s2 a2 g2 s3 a3 g3
theorem spec {H : Type} {w : World} {enc : TypeId × Value → H} {args : Array Value} {ds gs : List (DataW H)} {ps : List MemPlace} (h : DataW.Whole enc Tryz.prog Tryz.f4.params.toList Rows.fnExactInterpolateSkewSpec.vars false w args.toList ds gs ps) :
 Rows.fnExactInterpolateSkewSpec.fn H (ds ++ gs) = { results := [.lit (.bool true)], args := ds } := by
 obtain ⟨p, q, hA, hV, -, -, -⟩ := h
 obtain ⟨rfl, -⟩ := trodVars_none hV
 rw [Tryz.params4] at hA
 obtain ⟨v0, vs0, d0, ds0, p0, q0, -, rfl, -, -, r0⟩ := trodAll_cons hA
 obtain ⟨v1, vs1, d1, ds1, p1, q1, -, rfl, -, -, r1⟩ := trodAll_cons r0
 obtain ⟨v2, vs2, d2, ds2, p2, q2, -, rfl, -, -, r2⟩ := trodAll_cons r1
 obtain ⟨v3, vs3, d3, ds3, p3, q3, -, rfl, -, -, r3⟩ := trodAll_cons r2
 obtain ⟨-, rfl, -⟩ := trodAll_nil r3
 rfl
set_option maxRecDepth 100000 in
theorem lifted (os : Os) (started : os.Started) (H : Type) (enc : TypeId × Value → H) :
 ReturnsInHanded {} Tryz.checked os 4 .any (Rows.fnExactInterpolateSkewSpec.pre6 enc Tryz.prog Tryz.f4 Rows.fnExactInterpolateSkewRow.domain false) (Rows.fnExactInterpolateSkewSpec.post enc Tryz.prog Tryz.f4 false true false false) := by
 refine returnsInHanded_of_change (C := Tryz.checked) own started (by kernel_rfl) Tryz.func4
  (ChangeSpec.witness6 (enc := enc) (C := Tryz.checked) false ⟨#[], #[.int .i64 0, .agg (Array.replicate 64 (.int .u8 0)), .slice none 0 0, .slice none 0 0], []⟩ 8 (by kernel_rfl) (by kernel_rfl) (by kernel_rfl) (by kernel_rfl)) ?_
 intro W base args ds gs before hval hW hcnd _
 obtain ⟨p, q, hA, -, -, -, -⟩ := id hW
 obtain ⟨xs, h1, h2⟩ := read_args (C := ⟨W, fun b => b < W.heap.size, numF⟩) (fun _ h => h) _ _ _ _ _ fit hA (fun j t v hj hv => hval j t v (by simpa using hj) (by simpa using hv))
 have hc := calls_true sound (all h1) h2
 refine Calls.mono hc ?_
 rintro e W' ⟨rfl, hb⟩
 exact ⟨_, rfl, post_true hW rfl (spec hW) bool1 laid fit hb⟩
theorem j1 : (Rows.fnExactInterpolateSkewRow.lifted == Tryz.pinned.checked.prog.liftsFinal) = true := by kernel_rfl
theorem j2 : (Tryz.pinned.checked.prog.make == some Rows.fnExactInterpolateSkewRow.make) = true := by kernel_rfl
theorem j3 : (Rows.fnExactInterpolateSkewRow.inPlace == Tryz.pinned.checked.prog.inPlace 4) = true := by kernel_rfl
theorem j4 : (Rows.fnExactInterpolateSkewRow.unfollowed == Tryz.pinned.checked.prog.unfollowed 4) = true := by kernel_rfl
theorem j5 : (Rows.fnExactInterpolateSkewRow.recurses == Tryz.pinned.checked.prog.recurses 4) = true := by kernel_rfl
theorem j6 : (Rows.fnExactInterpolateSkewRow.named == Tryz.pinned.checked.prog.varsNamed 4) = true := by kernel_rfl
theorem j7 : laidOutB Tryz.pinned.checked.prog = true := by kernel_rfl
theorem j8 : mapsRowed Tryz.pinned.checked.prog = true := by kernel_rfl
theorem j9 : Tryz.pinned.checked.prog.stopsHeard = true := by kernel_rfl
theorem j10 : Tryz.pinned.checked.prog.mayEnter = true := by kernel_rfl
theorem joined : joinedFacts Tryz.pinned.checked.prog 4 Tryz.f4 Rows.fnExactInterpolateSkewSpec Rows.fnExactInterpolateSkewRow = true := by
 unfold joinedFacts
 rw [j1, j2, j3, j4, j5, j6, j7, j8, j9, j10]
 kernel_rfl
theorem over : Rows.fnExactInterpolateSkewRow.holds Tryz.pinned (OpenSpec.ofChange Rows.fnExactInterpolateSkewSpec) :=
 OpenClaim.holds_of_wide 4 Tryz.f4 rfl rfl rfl rfl rfl rfl rfl ⟨rfl, rfl, rfl, rfl, rfl⟩ rfl rfl rfl rfl rfl (by kernel_rfl) Tryz.func4 joined
  (of_decide_eq_true (by kernel_rfl)) (by unfold Func.isWrapper; first | (rw [if_pos (by decide +kernel)]; kernel_rfl) | (rw [if_neg (by decide +kernel)]; exact ⟨rfl, rfl⟩))
  (fun os started H enc _ => lifted os started H enc)
theorem proved : Rows.FnExactInterpolateSkewSaid := over
#print axioms proved
end Go.Proofs.YtfmkdfhhbejpnaaGreat.row
