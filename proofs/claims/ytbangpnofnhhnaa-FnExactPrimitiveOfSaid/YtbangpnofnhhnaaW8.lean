/-
  Proved here: for all arguments the law FnExactPrimitiveOf returns true, and its arguments read afterwards as before. No conditions.
-/
import Derived.Test.YtbangpnofnhhnaaRows
import Derived.WalkKit
import Derived.ProofKit
import Derived.OpenShut
import Derived.Test.YtbangpnofnhhnaaW1
import Derived.Test.YtbangpnofnhhnaaW2
import Derived.Test.YtbangpnofnhhnaaW3
import Derived.Test.YtbangpnofnhhnaaW4
import Derived.Test.YtbangpnofnhhnaaW5
import Derived.Test.YtbangpnofnhhnaaW6
import Derived.Test.YtbangpnofnhhnaaW7

namespace Go.Proofs.Ytbangpnofnhhnaa.row
open Go.ChangeShapes Go.WideShapes Go.ChangeAt Go.RowKit Pe
theorem own : ownKnob Try.prog.godebug = Option.none := by kernel_rfl
theorem laid : laidOutB Try.prog = true := by kernel_rfl
theorem bool1 : boolOnly Try.prog Try.f5 = true := by kernel_rfl
theorem fit : fitsL Try.prog Try.f5.params.toList [tyN, tyP] = true := by kernel_rfl
theorem all {xs : List Pe.D} (h : Ty.hasAll [tyN, tyP] xs) : Pe.ask OO F1e xs = some (.bool true) := by
 obtain ⟨x0, r0, rfl, h0, h⟩ := hasAll_cons h
 obtain ⟨x1, r1, rfl, h1, h⟩ := hasAll_cons h
 obtain rfl := hasAll_nil h
 obtain ⟨n0, rfl, -, -⟩ := has_N h0
 obtain ⟨l1, rfl, b1, g1⟩ := has_P h1
 exact law n0 l1 b1 g1
theorem spec {H : Type} {w : World} {enc : TypeId × Value → H} {args : Array Value} {ds gs : List (DataW H)} {ps : List MemPlace} (h : DataW.Whole enc Try.prog Try.f5.params.toList Rows.fnExactPrimitiveOfSpec.vars false w args.toList ds gs ps) :
 Rows.fnExactPrimitiveOfSpec.fn H (ds ++ gs) = { results := [.lit (.bool true)], args := ds } := by
 obtain ⟨p, q, hA, hV, -, -, -⟩ := h
 obtain ⟨rfl, -⟩ := trodVars_none hV
 rw [Try.params5] at hA
 obtain ⟨v0, vs0, d0, ds0, p0, q0, -, rfl, -, -, r0⟩ := trodAll_cons hA
 obtain ⟨v1, vs1, d1, ds1, p1, q1, -, rfl, -, -, r1⟩ := trodAll_cons r0
 obtain ⟨-, rfl, -⟩ := trodAll_nil r1
 rfl
set_option maxRecDepth 100000 in
theorem lifted (os : Os) (started : os.Started) (H : Type) (enc : TypeId × Value → H) :
 ReturnsInHanded {} Try.checked os 5 .any (Rows.fnExactPrimitiveOfSpec.pre6 enc Try.prog Try.f5 Rows.fnExactPrimitiveOfRow.domain false) (Rows.fnExactPrimitiveOfSpec.post enc Try.prog Try.f5 false true false false) := by
 refine returnsInHanded_of_change (C := Try.checked) own started (by kernel_rfl) Try.func5
  (ChangeSpec.witness6 (enc := enc) (C := Try.checked) false ⟨#[], #[.int .i64 0, .agg (Array.replicate 64 (.int .u8 0))], []⟩ 8 (by kernel_rfl) (by kernel_rfl) (by kernel_rfl) (by kernel_rfl)) ?_
 intro W base args ds gs before hval hW hcnd _
 obtain ⟨p, q, hA, -, -, -, -⟩ := id hW
 obtain ⟨xs, h1, h2⟩ := read_args (C := ⟨W, fun b => b < W.heap.size, numF⟩) (fun _ h => h) _ _ _ _ _ fit hA (fun j t v hj hv => hval j t v (by simpa using hj) (by simpa using hv))
 have hc := calls_true sound (all h1) h2
 refine Calls.mono hc ?_
 rintro e W' ⟨rfl, hb⟩
 exact ⟨_, rfl, post_true hW rfl (spec hW) bool1 laid fit hb⟩
theorem j1 : (Rows.fnExactPrimitiveOfRow.lifted == Try.pinned.checked.prog.liftsFinal) = true := by kernel_rfl
theorem j2 : (Try.pinned.checked.prog.make == some Rows.fnExactPrimitiveOfRow.make) = true := by kernel_rfl
theorem j3 : (Rows.fnExactPrimitiveOfRow.inPlace == Try.pinned.checked.prog.inPlace 5) = true := by kernel_rfl
theorem j4 : (Rows.fnExactPrimitiveOfRow.unfollowed == Try.pinned.checked.prog.unfollowed 5) = true := by kernel_rfl
theorem j5 : (Rows.fnExactPrimitiveOfRow.recurses == Try.pinned.checked.prog.recurses 5) = true := by kernel_rfl
theorem j6 : (Rows.fnExactPrimitiveOfRow.named == Try.pinned.checked.prog.varsNamed 5) = true := by kernel_rfl
theorem j7 : laidOutB Try.pinned.checked.prog = true := by kernel_rfl
theorem j8 : mapsRowed Try.pinned.checked.prog = true := by kernel_rfl
theorem j9 : Try.pinned.checked.prog.stopsHeard = true := by kernel_rfl
theorem j10 : Try.pinned.checked.prog.mayEnter = true := by kernel_rfl
theorem joined : joinedFacts Try.pinned.checked.prog 5 Try.f5 Rows.fnExactPrimitiveOfSpec Rows.fnExactPrimitiveOfRow = true := by
 unfold joinedFacts
 rw [j1, j2, j3, j4, j5, j6, j7, j8, j9, j10]
 kernel_rfl
theorem over : Rows.fnExactPrimitiveOfRow.holds Try.pinned (OpenSpec.ofChange Rows.fnExactPrimitiveOfSpec) :=
 OpenClaim.holds_of_wide 5 Try.f5 rfl rfl rfl rfl rfl rfl rfl ⟨rfl, rfl, rfl, rfl, rfl⟩ rfl rfl rfl rfl rfl (by kernel_rfl) Try.func5 joined
  (of_decide_eq_true (by kernel_rfl)) (by unfold Func.isWrapper; first | (rw [if_pos (by decide +kernel)]; kernel_rfl) | (rw [if_neg (by decide +kernel)]; exact ⟨rfl, rfl⟩))
  (fun os started H enc _ => lifted os started H enc)
theorem proved : Rows.FnExactPrimitiveOfSaid := over
#print axioms proved
end Go.Proofs.Ytbangpnofnhhnaa.row
