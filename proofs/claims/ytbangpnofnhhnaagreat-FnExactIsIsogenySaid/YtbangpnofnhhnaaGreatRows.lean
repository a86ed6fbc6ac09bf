/-
  No cell of these rows narrows 'for every input' (looked for: loops, veiled, ifaces, maps, wideKeys, modest, calm, conditions, laid).
  DERIVED. THE GIVEN ROWS OF THIS SEAT. 9 by the template 'for every input the law returns true; each argument reads behind the call as it read before'; 0 by the template 'total and deterministic' (their statements: YtbangpnofnhhnaaGreatTotals.lean).
  GIVEN WITH THE SEED: the statements are not yours to turn. If you find one false, say at which input.
  Laid BY PROGRAM, IN A SANDBOX (cutbox-rows.mjs): the forced cells as the released guide's own fill.sh prints them over the translation b12bdbd9fd2d5623… (all of the seat's roots in one cut). By AI agents, Wed Nov 11 2026. No macro, syntax, notation, axiom, sorry.
-/
import Derived.Test.YtbangpnofnhhnaaGreatChecked
import GoSem.Claim
import GoSem.ClaimJoined
import GoSem.ClaimMapViews
import Derived.JoinedTies
import Derived.KernelRfl
namespace Go.Proofs.YtbangpnofnhhnaaGreat
/- THE CELL 'sum', in the pinned program and in every row, IS THE sha256 OF THE DUMP (.gsa) THAT YtbangpnofnhhnaaGreatProg.lean LOADS. Nothing in Lean hashes anything: it is a label: what it is worth is what the hold of that sum in a sandbox is worth. -/
noncomputable def Tryz.pinned : Pinned := { name := "ytbangpnofnhhnaagreat", sum := "b12bdbd9fd2d562392a47ec609c691cd9cbb1e5b5d539e70b65599e9ff2c3c59", checked := Tryz.checked }
namespace Rows
def none {H : Type} : Left H := { results := [], args := [] }

/-- 'laws.FnExactTwistOf': WHATEVER THE INPUT: true; the input reads as it did. -/
def fnExactTwistOfSpec : ChangeSpec := { name := "fnExactTwistOf", fn := fun _ => fun
  | [d1, d2] => { results := [.lit (.bool true)], args := [d1, d2] }
  | _ => none }
def fnExactTwistOfRow : OpenClaim := { program := "ytbangpnofnhhnaagreat", sum := "b12bdbd9fd2d562392a47ec609c691cd9cbb1e5b5d539e70b65599e9ff2c3c59", func := "loop.example/g01245/laws.FnExactTwistOf", spec := "fnExactTwistOf", unfollowed := true, recurses := true, apart := false }
def FnExactTwistOfSaid : Prop := fnExactTwistOfRow.holds Tryz.pinned (OpenSpec.ofChange fnExactTwistOfSpec)

/-- ITS FALSE NEIGHBOUR: 'it returns false'. Refute it at one input. -/
def fnExactTwistOfWrong : ChangeSpec := { name := "fnExactTwistOf", fn := fun _ => fun
  | [d1, d2] => { results := [.lit (.bool false)], args := [d1, d2] }
  | _ => none }
def FnExactTwistOfWrongFalsely : Prop := fnExactTwistOfRow.holds Tryz.pinned (OpenSpec.ofChange fnExactTwistOfWrong)

/-- 'laws.FnExactDrinfeldValue': WHATEVER THE INPUT: true; the input reads as it did. -/
def fnExactDrinfeldValueSpec : ChangeSpec := { name := "fnExactDrinfeldValue", fn := fun _ => fun
  | [d1, d2, d3] => { results := [.lit (.bool true)], args := [d1, d2, d3] }
  | _ => none }
def fnExactDrinfeldValueRow : OpenClaim := { program := "ytbangpnofnhhnaagreat", sum := "b12bdbd9fd2d562392a47ec609c691cd9cbb1e5b5d539e70b65599e9ff2c3c59", func := "loop.example/g01245/laws.FnExactDrinfeldValue", spec := "fnExactDrinfeldValue", unfollowed := true, recurses := true, apart := false }
def FnExactDrinfeldValueSaid : Prop := fnExactDrinfeldValueRow.holds Tryz.pinned (OpenSpec.ofChange fnExactDrinfeldValueSpec)

/-- ITS FALSE NEIGHBOUR: 'it returns false'. Refute it at one input. -/
def fnExactDrinfeldValueWrong : ChangeSpec := { name := "fnExactDrinfeldValue", fn := fun _ => fun
  | [d1, d2, d3] => { results := [.lit (.bool false)], args := [d1, d2, d3] }
  | _ => none }
def FnExactDrinfeldValueWrongFalsely : Prop := fnExactDrinfeldValueRow.holds Tryz.pinned (OpenSpec.ofChange fnExactDrinfeldValueWrong)

/-- 'laws.FnExactValueOfSkew': WHATEVER THE INPUT: true; the input reads as it did. -/
def fnExactValueOfSkewSpec : ChangeSpec := { name := "fnExactValueOfSkew", fn := fun _ => fun
  | [d1, d2, d3, d4] => { results := [.lit (.bool true)], args := [d1, d2, d3, d4] }
  | _ => none }
def fnExactValueOfSkewRow : OpenClaim := { program := "ytbangpnofnhhnaagreat", sum := "b12bdbd9fd2d562392a47ec609c691cd9cbb1e5b5d539e70b65599e9ff2c3c59", func := "loop.example/g01245/laws.FnExactValueOfSkew", spec := "fnExactValueOfSkew", unfollowed := true, recurses := true, apart := false }
def FnExactValueOfSkewSaid : Prop := fnExactValueOfSkewRow.holds Tryz.pinned (OpenSpec.ofChange fnExactValueOfSkewSpec)

/-- ITS FALSE NEIGHBOUR: 'it returns false'. Refute it at one input. -/
def fnExactValueOfSkewWrong : ChangeSpec := { name := "fnExactValueOfSkew", fn := fun _ => fun
  | [d1, d2, d3, d4] => { results := [.lit (.bool false)], args := [d1, d2, d3, d4] }
  | _ => none }
def FnExactValueOfSkewWrongFalsely : Prop := fnExactValueOfSkewRow.holds Tryz.pinned (OpenSpec.ofChange fnExactValueOfSkewWrong)

/-- 'laws.FnExactSquareOfSkew': WHATEVER THE INPUT: true; the input reads as it did. -/
def fnExactSquareOfSkewSpec : ChangeSpec := { name := "fnExactSquareOfSkew", fn := fun _ => fun
  | [d1, d2, d3] => { results := [.lit (.bool true)], args := [d1, d2, d3] }
  | _ => none }
def fnExactSquareOfSkewRow : OpenClaim := { program := "ytbangpnofnhhnaagreat", sum := "b12bdbd9fd2d562392a47ec609c691cd9cbb1e5b5d539e70b65599e9ff2c3c59", func := "loop.example/g01245/laws.FnExactSquareOfSkew", spec := "fnExactSquareOfSkew", unfollowed := true, recurses := true, apart := false }
def FnExactSquareOfSkewSaid : Prop := fnExactSquareOfSkewRow.holds Tryz.pinned (OpenSpec.ofChange fnExactSquareOfSkewSpec)

/-- ITS FALSE NEIGHBOUR: 'it returns false'. Refute it at one input. -/
def fnExactSquareOfSkewWrong : ChangeSpec := { name := "fnExactSquareOfSkew", fn := fun _ => fun
  | [d1, d2, d3] => { results := [.lit (.bool false)], args := [d1, d2, d3] }
  | _ => none }
def FnExactSquareOfSkewWrongFalsely : Prop := fnExactSquareOfSkewRow.holds Tryz.pinned (OpenSpec.ofChange fnExactSquareOfSkewWrong)

/-- 'laws.FnExactRankOfWord': WHATEVER THE INPUT: true; the input reads as it did. -/
def fnExactRankOfWordSpec : ChangeSpec := { name := "fnExactRankOfWord", fn := fun _ => fun
  | [d1, d2, d3] => { results := [.lit (.bool true)], args := [d1, d2, d3] }
  | _ => none }
def fnExactRankOfWordRow : OpenClaim := { program := "ytbangpnofnhhnaagreat", sum := "b12bdbd9fd2d562392a47ec609c691cd9cbb1e5b5d539e70b65599e9ff2c3c59", func := "loop.example/g01245/laws.FnExactRankOfWord", spec := "fnExactRankOfWord", unfollowed := true, recurses := true, apart := false }
def FnExactRankOfWordSaid : Prop := fnExactRankOfWordRow.holds Tryz.pinned (OpenSpec.ofChange fnExactRankOfWordSpec)

/-- ITS FALSE NEIGHBOUR: 'it returns false'. Refute it at one input. -/
def fnExactRankOfWordWrong : ChangeSpec := { name := "fnExactRankOfWord", fn := fun _ => fun
  | [d1, d2, d3] => { results := [.lit (.bool false)], args := [d1, d2, d3] }
  | _ => none }
def FnExactRankOfWordWrongFalsely : Prop := fnExactRankOfWordRow.holds Tryz.pinned (OpenSpec.ofChange fnExactRankOfWordWrong)

/-- 'laws.FnExactMultiplySkews': WHATEVER THE INPUT: true; the input reads as it did. -/
def fnExactMultiplySkewsSpec : ChangeSpec := { name := "fnExactMultiplySkews", fn := fun _ => fun
  | [d1, d2, d3, d4] => { results := [.lit (.bool true)], args := [d1, d2, d3, d4] }
  | _ => none }
def fnExactMultiplySkewsRow : OpenClaim := { program := "ytbangpnofnhhnaagreat", sum := "b12bdbd9fd2d562392a47ec609c691cd9cbb1e5b5d539e70b65599e9ff2c3c59", func := "loop.example/g01245/laws.FnExactMultiplySkews", spec := "fnExactMultiplySkews", unfollowed := true, recurses := true, apart := false }
def FnExactMultiplySkewsSaid : Prop := fnExactMultiplySkewsRow.holds Tryz.pinned (OpenSpec.ofChange fnExactMultiplySkewsSpec)

/-- ITS FALSE NEIGHBOUR: 'it returns false'. Refute it at one input. -/
def fnExactMultiplySkewsWrong : ChangeSpec := { name := "fnExactMultiplySkews", fn := fun _ => fun
  | [d1, d2, d3, d4] => { results := [.lit (.bool false)], args := [d1, d2, d3, d4] }
  | _ => none }
def FnExactMultiplySkewsWrongFalsely : Prop := fnExactMultiplySkewsRow.holds Tryz.pinned (OpenSpec.ofChange fnExactMultiplySkewsWrong)

/-- 'laws.FnExactSpanOf': WHATEVER THE INPUT: true; the input reads as it did. -/
def fnExactSpanOfSpec : ChangeSpec := { name := "fnExactSpanOf", fn := fun _ => fun
  | [d1, d2, d3] => { results := [.lit (.bool true)], args := [d1, d2, d3] }
  | _ => none }
def fnExactSpanOfRow : OpenClaim := { program := "ytbangpnofnhhnaagreat", sum := "b12bdbd9fd2d562392a47ec609c691cd9cbb1e5b5d539e70b65599e9ff2c3c59", func := "loop.example/g01245/laws.FnExactSpanOf", spec := "fnExactSpanOf", unfollowed := true, recurses := true, apart := false }
def FnExactSpanOfSaid : Prop := fnExactSpanOfRow.holds Tryz.pinned (OpenSpec.ofChange fnExactSpanOfSpec)

/-- ITS FALSE NEIGHBOUR: 'it returns false'. Refute it at one input. -/
def fnExactSpanOfWrong : ChangeSpec := { name := "fnExactSpanOf", fn := fun _ => fun
  | [d1, d2, d3] => { results := [.lit (.bool false)], args := [d1, d2, d3] }
  | _ => none }
def FnExactSpanOfWrongFalsely : Prop := fnExactSpanOfRow.holds Tryz.pinned (OpenSpec.ofChange fnExactSpanOfWrong)

/-- 'laws.FnExactMooreMatrix': WHATEVER THE INPUT: true; the input reads as it did. -/
def fnExactMooreMatrixSpec : ChangeSpec := { name := "fnExactMooreMatrix", fn := fun _ => fun
  | [d1, d2, d3] => { results := [.lit (.bool true)], args := [d1, d2, d3] }
  | _ => none }
def fnExactMooreMatrixRow : OpenClaim := { program := "ytbangpnofnhhnaagreat", sum := "b12bdbd9fd2d562392a47ec609c691cd9cbb1e5b5d539e70b65599e9ff2c3c59", func := "loop.example/g01245/laws.FnExactMooreMatrix", spec := "fnExactMooreMatrix", unfollowed := true, recurses := true, apart := false }
def FnExactMooreMatrixSaid : Prop := fnExactMooreMatrixRow.holds Tryz.pinned (OpenSpec.ofChange fnExactMooreMatrixSpec)

/-- ITS FALSE NEIGHBOUR: 'it returns false'. Refute it at one input. -/
def fnExactMooreMatrixWrong : ChangeSpec := { name := "fnExactMooreMatrix", fn := fun _ => fun
  | [d1, d2, d3] => { results := [.lit (.bool false)], args := [d1, d2, d3] }
  | _ => none }
def FnExactMooreMatrixWrongFalsely : Prop := fnExactMooreMatrixRow.holds Tryz.pinned (OpenSpec.ofChange fnExactMooreMatrixWrong)

/-- 'laws.FnExactIsIsogeny': WHATEVER THE INPUT: true; the input reads as it did. -/
def fnExactIsIsogenySpec : ChangeSpec := { name := "fnExactIsIsogeny", fn := fun _ => fun
  | [d1, d2, d3] => { results := [.lit (.bool true)], args := [d1, d2, d3] }
  | _ => none }
def fnExactIsIsogenyRow : OpenClaim := { program := "ytbangpnofnhhnaagreat", sum := "b12bdbd9fd2d562392a47ec609c691cd9cbb1e5b5d539e70b65599e9ff2c3c59", func := "loop.example/g01245/laws.FnExactIsIsogeny", spec := "fnExactIsIsogeny", unfollowed := true, recurses := true, apart := false }
def FnExactIsIsogenySaid : Prop := fnExactIsIsogenyRow.holds Tryz.pinned (OpenSpec.ofChange fnExactIsIsogenySpec)

/-- ITS FALSE NEIGHBOUR: 'it returns false'. Refute it at one input. -/
def fnExactIsIsogenyWrong : ChangeSpec := { name := "fnExactIsIsogeny", fn := fun _ => fun
  | [d1, d2, d3] => { results := [.lit (.bool false)], args := [d1, d2, d3] }
  | _ => none }
def FnExactIsIsogenyWrongFalsely : Prop := fnExactIsIsogenyRow.holds Tryz.pinned (OpenSpec.ofChange fnExactIsIsogenyWrong)

/- THE SECOND FORM. 'bulk': how many values and letters a reading holds, each counted each time it is reached (what is shared counts as often as it is met; a slice's spare places count too). A statement '..UptoSaid' is the law's where the arguments, and the package variables that the reading takes, are together of bulk at most 1048576: NARROWER than '..Said'. Prove '..Said' where nothing that the law and all that it calls make is longer than what came in: it says more and counts as full. Else prove '..UptoSaid'. A law counts once. -/
mutual
def uptoBulk {H : Type} : DataW H → Nat
  | .lit (.string bytes) => bytes.length + 1
  | .lit _ => 1
  | .nil => 1
  | .ptr d => uptoBulk d + 1
  | .slice elems spare => uptoBulkAll elems + uptoBulkAll spare + 1
  | .agg parts => uptoBulkAll parts + 1
  | .iface _ d => uptoBulk d + 1
  | .map entries => uptoBulkEntries entries + 1
  | .held _ => 1
def uptoBulkAll {H : Type} : List (DataW H) → Nat
  | [] => 0
  | d :: r => uptoBulk d + uptoBulkAll r
def uptoBulkEntries {H : Type} : List (Lit × DataW H) → Nat
  | [] => 0
  | x :: r => uptoBulkEntry x + uptoBulkEntries r
def uptoBulkEntry {H : Type} : Lit × DataW H → Nat
  | (.string bytes, d) => bytes.length + uptoBulk d + 1
  | (_, d) => uptoBulk d + 1
 end
def uptoSmall : (H : Type) → List (DataW H) → Bool := fun _ ds => decide (uptoBulkAll ds ≤ 1048576)
def OpenSpec.upto (s : _root_.Go.ChangeSpec) : _root_.Go.OpenSpec := { _root_.Go.OpenSpec.ofChange s with cond := some uptoSmall }

/-- 'laws.FnExactTwistOf', WHERE WHAT IT READS IS OF BULK AT MOST 1048576: true; the input reads as it did. -/
def fnExactTwistOfUptoRow : OpenClaim := { program := "ytbangpnofnhhnaagreat", sum := "b12bdbd9fd2d562392a47ec609c691cd9cbb1e5b5d539e70b65599e9ff2c3c59", func := "loop.example/g01245/laws.FnExactTwistOf", spec := "fnExactTwistOf", unfollowed := true, recurses := true, apart := false, narrowed := true }
def FnExactTwistOfUptoSaid : Prop := fnExactTwistOfUptoRow.holds Tryz.pinned (OpenSpec.upto fnExactTwistOfSpec)

/-- 'laws.FnExactDrinfeldValue', WHERE WHAT IT READS IS OF BULK AT MOST 1048576: true; the input reads as it did. -/
def fnExactDrinfeldValueUptoRow : OpenClaim := { program := "ytbangpnofnhhnaagreat", sum := "b12bdbd9fd2d562392a47ec609c691cd9cbb1e5b5d539e70b65599e9ff2c3c59", func := "loop.example/g01245/laws.FnExactDrinfeldValue", spec := "fnExactDrinfeldValue", unfollowed := true, recurses := true, apart := false, narrowed := true }
def FnExactDrinfeldValueUptoSaid : Prop := fnExactDrinfeldValueUptoRow.holds Tryz.pinned (OpenSpec.upto fnExactDrinfeldValueSpec)

/-- 'laws.FnExactValueOfSkew', WHERE WHAT IT READS IS OF BULK AT MOST 1048576: true; the input reads as it did. -/
def fnExactValueOfSkewUptoRow : OpenClaim := { program := "ytbangpnofnhhnaagreat", sum := "b12bdbd9fd2d562392a47ec609c691cd9cbb1e5b5d539e70b65599e9ff2c3c59", func := "loop.example/g01245/laws.FnExactValueOfSkew", spec := "fnExactValueOfSkew", unfollowed := true, recurses := true, apart := false, narrowed := true }
def FnExactValueOfSkewUptoSaid : Prop := fnExactValueOfSkewUptoRow.holds Tryz.pinned (OpenSpec.upto fnExactValueOfSkewSpec)

/-- 'laws.FnExactSquareOfSkew', WHERE WHAT IT READS IS OF BULK AT MOST 1048576: true; the input reads as it did. -/
def fnExactSquareOfSkewUptoRow : OpenClaim := { program := "ytbangpnofnhhnaagreat", sum := "b12bdbd9fd2d562392a47ec609c691cd9cbb1e5b5d539e70b65599e9ff2c3c59", func := "loop.example/g01245/laws.FnExactSquareOfSkew", spec := "fnExactSquareOfSkew", unfollowed := true, recurses := true, apart := false, narrowed := true }
def FnExactSquareOfSkewUptoSaid : Prop := fnExactSquareOfSkewUptoRow.holds Tryz.pinned (OpenSpec.upto fnExactSquareOfSkewSpec)

/-- 'laws.FnExactRankOfWord', WHERE WHAT IT READS IS OF BULK AT MOST 1048576: true; the input reads as it did. -/
def fnExactRankOfWordUptoRow : OpenClaim := { program := "ytbangpnofnhhnaagreat", sum := "b12bdbd9fd2d562392a47ec609c691cd9cbb1e5b5d539e70b65599e9ff2c3c59", func := "loop.example/g01245/laws.FnExactRankOfWord", spec := "fnExactRankOfWord", unfollowed := true, recurses := true, apart := false, narrowed := true }
def FnExactRankOfWordUptoSaid : Prop := fnExactRankOfWordUptoRow.holds Tryz.pinned (OpenSpec.upto fnExactRankOfWordSpec)

/-- 'laws.FnExactMultiplySkews', WHERE WHAT IT READS IS OF BULK AT MOST 1048576: true; the input reads as it did. -/
def fnExactMultiplySkewsUptoRow : OpenClaim := { program := "ytbangpnofnhhnaagreat", sum := "b12bdbd9fd2d562392a47ec609c691cd9cbb1e5b5d539e70b65599e9ff2c3c59", func := "loop.example/g01245/laws.FnExactMultiplySkews", spec := "fnExactMultiplySkews", unfollowed := true, recurses := true, apart := false, narrowed := true }
def FnExactMultiplySkewsUptoSaid : Prop := fnExactMultiplySkewsUptoRow.holds Tryz.pinned (OpenSpec.upto fnExactMultiplySkewsSpec)

/-- 'laws.FnExactSpanOf', WHERE WHAT IT READS IS OF BULK AT MOST 1048576: true; the input reads as it did. -/
def fnExactSpanOfUptoRow : OpenClaim := { program := "ytbangpnofnhhnaagreat", sum := "b12bdbd9fd2d562392a47ec609c691cd9cbb1e5b5d539e70b65599e9ff2c3c59", func := "loop.example/g01245/laws.FnExactSpanOf", spec := "fnExactSpanOf", unfollowed := true, recurses := true, apart := false, narrowed := true }
def FnExactSpanOfUptoSaid : Prop := fnExactSpanOfUptoRow.holds Tryz.pinned (OpenSpec.upto fnExactSpanOfSpec)

/-- 'laws.FnExactMooreMatrix', WHERE WHAT IT READS IS OF BULK AT MOST 1048576: true; the input reads as it did. -/
def fnExactMooreMatrixUptoRow : OpenClaim := { program := "ytbangpnofnhhnaagreat", sum := "b12bdbd9fd2d562392a47ec609c691cd9cbb1e5b5d539e70b65599e9ff2c3c59", func := "loop.example/g01245/laws.FnExactMooreMatrix", spec := "fnExactMooreMatrix", unfollowed := true, recurses := true, apart := false, narrowed := true }
def FnExactMooreMatrixUptoSaid : Prop := fnExactMooreMatrixUptoRow.holds Tryz.pinned (OpenSpec.upto fnExactMooreMatrixSpec)

/-- 'laws.FnExactIsIsogeny', WHERE WHAT IT READS IS OF BULK AT MOST 1048576: true; the input reads as it did. -/
def fnExactIsIsogenyUptoRow : OpenClaim := { program := "ytbangpnofnhhnaagreat", sum := "b12bdbd9fd2d562392a47ec609c691cd9cbb1e5b5d539e70b65599e9ff2c3c59", func := "loop.example/g01245/laws.FnExactIsIsogeny", spec := "fnExactIsIsogeny", unfollowed := true, recurses := true, apart := false, narrowed := true }
def FnExactIsIsogenyUptoSaid : Prop := fnExactIsIsogenyUptoRow.holds Tryz.pinned (OpenSpec.upto fnExactIsIsogenySpec)

end Rows
end Go.Proofs.YtbangpnofnhhnaaGreat
