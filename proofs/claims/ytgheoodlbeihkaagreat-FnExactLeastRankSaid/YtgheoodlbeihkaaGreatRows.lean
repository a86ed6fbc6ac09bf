/-
  No cell of these rows narrows 'for every input' (looked for: loops, veiled, ifaces, maps, wideKeys, modest, calm, conditions, laid).
  DERIVED. THE GIVEN ROWS OF THIS SEAT. 12 by the template 'for every input the law returns true; each argument reads behind the call as it read before'; 0 by the template 'total and deterministic' (their statements: YtgheoodlbeihkaaGreatTotals.lean).
  GIVEN WITH THE SEED: the statements are not yours to turn. If you find one false, say at which input.
  Laid BY PROGRAM, IN A SANDBOX (cutbox-rows.mjs): the forced cells as the released guide's own fill.sh prints them over the translation 1f68240f222cf152… (all of the seat's roots in one cut). By AI agents, Wed Nov 11 2026. No macro, syntax, notation, axiom, sorry.
-/
import Derived.Test.YtgheoodlbeihkaaGreatChecked
import GoSem.Claim
import GoSem.ClaimJoined
import GoSem.ClaimMapViews
import Derived.JoinedTies
import Derived.KernelRfl
namespace Go.Proofs.YtgheoodlbeihkaaGreat
/- THE CELL 'sum', in the pinned program and in every row, IS THE sha256 OF THE DUMP (.gsa) THAT YtgheoodlbeihkaaGreatProg.lean LOADS. Nothing in Lean hashes anything: it is a label: what it is worth is what the hold of that sum in a sandbox is worth. -/
noncomputable def Tryz.pinned : Pinned := { name := "ytgheoodlbeihkaagreat", sum := "1f68240f222cf15299c3ce3e139eebd0800031f6dd217a020389b12cf8a90266", checked := Tryz.checked }
namespace Rows
def none {H : Type} : Left H := { results := [], args := [] }

/-- 'laws.FnExactRankDistance': WHATEVER THE INPUT: true; the input reads as it did. -/
def fnExactRankDistanceSpec : ChangeSpec := { name := "fnExactRankDistance", fn := fun _ => fun
  | [d1, d2, d3, d4] => { results := [.lit (.bool true)], args := [d1, d2, d3, d4] }
  | _ => none }
def fnExactRankDistanceRow : OpenClaim := { program := "ytgheoodlbeihkaagreat", sum := "1f68240f222cf15299c3ce3e139eebd0800031f6dd217a020389b12cf8a90266", func := "loop.example/g01245/laws.FnExactRankDistance", spec := "fnExactRankDistance", unfollowed := true, recurses := true, apart := false }
def FnExactRankDistanceSaid : Prop := fnExactRankDistanceRow.holds Tryz.pinned (OpenSpec.ofChange fnExactRankDistanceSpec)

/-- ITS FALSE NEIGHBOUR: 'it returns false'. Refute it at one input. -/
def fnExactRankDistanceWrong : ChangeSpec := { name := "fnExactRankDistance", fn := fun _ => fun
  | [d1, d2, d3, d4] => { results := [.lit (.bool false)], args := [d1, d2, d3, d4] }
  | _ => none }
def FnExactRankDistanceWrongFalsely : Prop := fnExactRankDistanceRow.holds Tryz.pinned (OpenSpec.ofChange fnExactRankDistanceWrong)

/-- 'laws.FnExactPowerOfSkew': WHATEVER THE INPUT: true; the input reads as it did. -/
def fnExactPowerOfSkewSpec : ChangeSpec := { name := "fnExactPowerOfSkew", fn := fun _ => fun
  | [d1, d2, d3, d4] => { results := [.lit (.bool true)], args := [d1, d2, d3, d4] }
  | _ => none }
def fnExactPowerOfSkewRow : OpenClaim := { program := "ytgheoodlbeihkaagreat", sum := "1f68240f222cf15299c3ce3e139eebd0800031f6dd217a020389b12cf8a90266", func := "loop.example/g01245/laws.FnExactPowerOfSkew", spec := "fnExactPowerOfSkew", unfollowed := true, recurses := true, apart := false }
def FnExactPowerOfSkewSaid : Prop := fnExactPowerOfSkewRow.holds Tryz.pinned (OpenSpec.ofChange fnExactPowerOfSkewSpec)

/-- ITS FALSE NEIGHBOUR: 'it returns false'. Refute it at one input. -/
def fnExactPowerOfSkewWrong : ChangeSpec := { name := "fnExactPowerOfSkew", fn := fun _ => fun
  | [d1, d2, d3, d4] => { results := [.lit (.bool false)], args := [d1, d2, d3, d4] }
  | _ => none }
def FnExactPowerOfSkewWrongFalsely : Prop := fnExactPowerOfSkewRow.holds Tryz.pinned (OpenSpec.ofChange fnExactPowerOfSkewWrong)

/-- 'laws.FnExactLeastRank': WHATEVER THE INPUT: true; the input reads as it did. -/
def fnExactLeastRankSpec : ChangeSpec := { name := "fnExactLeastRank", fn := fun _ => fun
  | [d1, d2, d3, d4] => { results := [.lit (.bool true)], args := [d1, d2, d3, d4] }
  | _ => none }
def fnExactLeastRankRow : OpenClaim := { program := "ytgheoodlbeihkaagreat", sum := "1f68240f222cf15299c3ce3e139eebd0800031f6dd217a020389b12cf8a90266", func := "loop.example/g01245/laws.FnExactLeastRank", spec := "fnExactLeastRank", unfollowed := true, recurses := true, apart := false }
def FnExactLeastRankSaid : Prop := fnExactLeastRankRow.holds Tryz.pinned (OpenSpec.ofChange fnExactLeastRankSpec)

/-- ITS FALSE NEIGHBOUR: 'it returns false'. Refute it at one input. -/
def fnExactLeastRankWrong : ChangeSpec := { name := "fnExactLeastRank", fn := fun _ => fun
  | [d1, d2, d3, d4] => { results := [.lit (.bool false)], args := [d1, d2, d3, d4] }
  | _ => none }
def FnExactLeastRankWrongFalsely : Prop := fnExactLeastRankRow.holds Tryz.pinned (OpenSpec.ofChange fnExactLeastRankWrong)

/-- 'laws.FnExactIsSupersingular': WHATEVER THE INPUT: true; the input reads as it did. -/
def fnExactIsSupersingularSpec : ChangeSpec := { name := "fnExactIsSupersingular", fn := fun _ => fun
  | [d] => { results := [.lit (.bool true)], args := [d] }
  | _ => none }
def fnExactIsSupersingularRow : OpenClaim := { program := "ytgheoodlbeihkaagreat", sum := "1f68240f222cf15299c3ce3e139eebd0800031f6dd217a020389b12cf8a90266", func := "loop.example/g01245/laws.FnExactIsSupersingular", spec := "fnExactIsSupersingular", unfollowed := true, recurses := true, apart := false }
def FnExactIsSupersingularSaid : Prop := fnExactIsSupersingularRow.holds Tryz.pinned (OpenSpec.ofChange fnExactIsSupersingularSpec)

/-- ITS FALSE NEIGHBOUR: 'it returns false'. Refute it at one input. -/
def fnExactIsSupersingularWrong : ChangeSpec := { name := "fnExactIsSupersingular", fn := fun _ => fun
  | [d] => { results := [.lit (.bool false)], args := [d] }
  | _ => none }
def FnExactIsSupersingularWrongFalsely : Prop := fnExactIsSupersingularRow.holds Tryz.pinned (OpenSpec.ofChange fnExactIsSupersingularWrong)

/-- 'laws.FnExactMooreDeterminant': WHATEVER THE INPUT: true; the input reads as it did. -/
def fnExactMooreDeterminantSpec : ChangeSpec := { name := "fnExactMooreDeterminant", fn := fun _ => fun
  | [d1, d2, d3] => { results := [.lit (.bool true)], args := [d1, d2, d3] }
  | _ => none }
def fnExactMooreDeterminantRow : OpenClaim := { program := "ytgheoodlbeihkaagreat", sum := "1f68240f222cf15299c3ce3e139eebd0800031f6dd217a020389b12cf8a90266", func := "loop.example/g01245/laws.FnExactMooreDeterminant", spec := "fnExactMooreDeterminant", unfollowed := true, recurses := true, apart := false }
def FnExactMooreDeterminantSaid : Prop := fnExactMooreDeterminantRow.holds Tryz.pinned (OpenSpec.ofChange fnExactMooreDeterminantSpec)

/-- ITS FALSE NEIGHBOUR: 'it returns false'. Refute it at one input. -/
def fnExactMooreDeterminantWrong : ChangeSpec := { name := "fnExactMooreDeterminant", fn := fun _ => fun
  | [d1, d2, d3] => { results := [.lit (.bool false)], args := [d1, d2, d3] }
  | _ => none }
def FnExactMooreDeterminantWrongFalsely : Prop := fnExactMooreDeterminantRow.holds Tryz.pinned (OpenSpec.ofChange fnExactMooreDeterminantWrong)

/-- 'laws.FnExactFrobeniusOf': WHATEVER THE INPUT: true; the input reads as it did. -/
def fnExactFrobeniusOfSpec : ChangeSpec := { name := "fnExactFrobeniusOf", fn := fun _ => fun
  | [d] => { results := [.lit (.bool true)], args := [d] }
  | _ => none }
def fnExactFrobeniusOfRow : OpenClaim := { program := "ytgheoodlbeihkaagreat", sum := "1f68240f222cf15299c3ce3e139eebd0800031f6dd217a020389b12cf8a90266", func := "loop.example/g01245/laws.FnExactFrobeniusOf", spec := "fnExactFrobeniusOf", unfollowed := true, recurses := true, apart := false }
def FnExactFrobeniusOfSaid : Prop := fnExactFrobeniusOfRow.holds Tryz.pinned (OpenSpec.ofChange fnExactFrobeniusOfSpec)

/-- ITS FALSE NEIGHBOUR: 'it returns false'. Refute it at one input. -/
def fnExactFrobeniusOfWrong : ChangeSpec := { name := "fnExactFrobeniusOf", fn := fun _ => fun
  | [d] => { results := [.lit (.bool false)], args := [d] }
  | _ => none }
def FnExactFrobeniusOfWrongFalsely : Prop := fnExactFrobeniusOfRow.holds Tryz.pinned (OpenSpec.ofChange fnExactFrobeniusOfWrong)

/-- 'laws.FnExactCountPoints': WHATEVER THE INPUT: true; the input reads as it did. -/
def fnExactCountPointsSpec : ChangeSpec := { name := "fnExactCountPoints", fn := fun _ => fun
  | [d1, d2] => { results := [.lit (.bool true)], args := [d1, d2] }
  | _ => none }
def fnExactCountPointsRow : OpenClaim := { program := "ytgheoodlbeihkaagreat", sum := "1f68240f222cf15299c3ce3e139eebd0800031f6dd217a020389b12cf8a90266", func := "loop.example/g01245/laws.FnExactCountPoints", spec := "fnExactCountPoints", unfollowed := true, recurses := true, apart := false }
def FnExactCountPointsSaid : Prop := fnExactCountPointsRow.holds Tryz.pinned (OpenSpec.ofChange fnExactCountPointsSpec)

/-- ITS FALSE NEIGHBOUR: 'it returns false'. Refute it at one input. -/
def fnExactCountPointsWrong : ChangeSpec := { name := "fnExactCountPoints", fn := fun _ => fun
  | [d1, d2] => { results := [.lit (.bool false)], args := [d1, d2] }
  | _ => none }
def FnExactCountPointsWrongFalsely : Prop := fnExactCountPointsRow.holds Tryz.pinned (OpenSpec.ofChange fnExactCountPointsWrong)

/-- 'laws.FnExactKernelOfSkew': WHATEVER THE INPUT: true; the input reads as it did. -/
def fnExactKernelOfSkewSpec : ChangeSpec := { name := "fnExactKernelOfSkew", fn := fun _ => fun
  | [d1, d2, d3] => { results := [.lit (.bool true)], args := [d1, d2, d3] }
  | _ => none }
def fnExactKernelOfSkewRow : OpenClaim := { program := "ytgheoodlbeihkaagreat", sum := "1f68240f222cf15299c3ce3e139eebd0800031f6dd217a020389b12cf8a90266", func := "loop.example/g01245/laws.FnExactKernelOfSkew", spec := "fnExactKernelOfSkew", unfollowed := true, recurses := true, apart := false }
def FnExactKernelOfSkewSaid : Prop := fnExactKernelOfSkewRow.holds Tryz.pinned (OpenSpec.ofChange fnExactKernelOfSkewSpec)

/-- ITS FALSE NEIGHBOUR: 'it returns false'. Refute it at one input. -/
def fnExactKernelOfSkewWrong : ChangeSpec := { name := "fnExactKernelOfSkew", fn := fun _ => fun
  | [d1, d2, d3] => { results := [.lit (.bool false)], args := [d1, d2, d3] }
  | _ => none }
def FnExactKernelOfSkewWrongFalsely : Prop := fnExactKernelOfSkewRow.holds Tryz.pinned (OpenSpec.ofChange fnExactKernelOfSkewWrong)

/-- 'laws.FnExactDivideRight': WHATEVER THE INPUT: true; the input reads as it did. -/
def fnExactDivideRightSpec : ChangeSpec := { name := "fnExactDivideRight", fn := fun _ => fun
  | [d1, d2, d3, d4] => { results := [.lit (.bool true)], args := [d1, d2, d3, d4] }
  | _ => none }
def fnExactDivideRightRow : OpenClaim := { program := "ytgheoodlbeihkaagreat", sum := "1f68240f222cf15299c3ce3e139eebd0800031f6dd217a020389b12cf8a90266", func := "loop.example/g01245/laws.FnExactDivideRight", spec := "fnExactDivideRight", unfollowed := true, recurses := true, apart := false }
def FnExactDivideRightSaid : Prop := fnExactDivideRightRow.holds Tryz.pinned (OpenSpec.ofChange fnExactDivideRightSpec)

/-- ITS FALSE NEIGHBOUR: 'it returns false'. Refute it at one input. -/
def fnExactDivideRightWrong : ChangeSpec := { name := "fnExactDivideRight", fn := fun _ => fun
  | [d1, d2, d3, d4] => { results := [.lit (.bool false)], args := [d1, d2, d3, d4] }
  | _ => none }
def FnExactDivideRightWrongFalsely : Prop := fnExactDivideRightRow.holds Tryz.pinned (OpenSpec.ofChange fnExactDivideRightWrong)

/-- 'laws.FnExactDivideLeft': WHATEVER THE INPUT: true; the input reads as it did. -/
def fnExactDivideLeftSpec : ChangeSpec := { name := "fnExactDivideLeft", fn := fun _ => fun
  | [d1, d2, d3, d4] => { results := [.lit (.bool true)], args := [d1, d2, d3, d4] }
  | _ => none }
def fnExactDivideLeftRow : OpenClaim := { program := "ytgheoodlbeihkaagreat", sum := "1f68240f222cf15299c3ce3e139eebd0800031f6dd217a020389b12cf8a90266", func := "loop.example/g01245/laws.FnExactDivideLeft", spec := "fnExactDivideLeft", unfollowed := true, recurses := true, apart := false }
def FnExactDivideLeftSaid : Prop := fnExactDivideLeftRow.holds Tryz.pinned (OpenSpec.ofChange fnExactDivideLeftSpec)

/-- ITS FALSE NEIGHBOUR: 'it returns false'. Refute it at one input. -/
def fnExactDivideLeftWrong : ChangeSpec := { name := "fnExactDivideLeft", fn := fun _ => fun
  | [d1, d2, d3, d4] => { results := [.lit (.bool false)], args := [d1, d2, d3, d4] }
  | _ => none }
def FnExactDivideLeftWrongFalsely : Prop := fnExactDivideLeftRow.holds Tryz.pinned (OpenSpec.ofChange fnExactDivideLeftWrong)

/-- 'laws.FnExactRightDivisor': WHATEVER THE INPUT: true; the input reads as it did. -/
def fnExactRightDivisorSpec : ChangeSpec := { name := "fnExactRightDivisor", fn := fun _ => fun
  | [d1, d2, d3, d4] => { results := [.lit (.bool true)], args := [d1, d2, d3, d4] }
  | _ => none }
def fnExactRightDivisorRow : OpenClaim := { program := "ytgheoodlbeihkaagreat", sum := "1f68240f222cf15299c3ce3e139eebd0800031f6dd217a020389b12cf8a90266", func := "loop.example/g01245/laws.FnExactRightDivisor", spec := "fnExactRightDivisor", unfollowed := true, recurses := true, apart := false }
def FnExactRightDivisorSaid : Prop := fnExactRightDivisorRow.holds Tryz.pinned (OpenSpec.ofChange fnExactRightDivisorSpec)

/-- ITS FALSE NEIGHBOUR: 'it returns false'. Refute it at one input. -/
def fnExactRightDivisorWrong : ChangeSpec := { name := "fnExactRightDivisor", fn := fun _ => fun
  | [d1, d2, d3, d4] => { results := [.lit (.bool false)], args := [d1, d2, d3, d4] }
  | _ => none }
def FnExactRightDivisorWrongFalsely : Prop := fnExactRightDivisorRow.holds Tryz.pinned (OpenSpec.ofChange fnExactRightDivisorWrong)

/-- 'laws.FnExactLeftMultiple': WHATEVER THE INPUT: true; the input reads as it did. -/
def fnExactLeftMultipleSpec : ChangeSpec := { name := "fnExactLeftMultiple", fn := fun _ => fun
  | [d1, d2, d3, d4] => { results := [.lit (.bool true)], args := [d1, d2, d3, d4] }
  | _ => none }
def fnExactLeftMultipleRow : OpenClaim := { program := "ytgheoodlbeihkaagreat", sum := "1f68240f222cf15299c3ce3e139eebd0800031f6dd217a020389b12cf8a90266", func := "loop.example/g01245/laws.FnExactLeftMultiple", spec := "fnExactLeftMultiple", unfollowed := true, recurses := true, apart := false }
def FnExactLeftMultipleSaid : Prop := fnExactLeftMultipleRow.holds Tryz.pinned (OpenSpec.ofChange fnExactLeftMultipleSpec)

/-- ITS FALSE NEIGHBOUR: 'it returns false'. Refute it at one input. -/
def fnExactLeftMultipleWrong : ChangeSpec := { name := "fnExactLeftMultiple", fn := fun _ => fun
  | [d1, d2, d3, d4] => { results := [.lit (.bool false)], args := [d1, d2, d3, d4] }
  | _ => none }
def FnExactLeftMultipleWrongFalsely : Prop := fnExactLeftMultipleRow.holds Tryz.pinned (OpenSpec.ofChange fnExactLeftMultipleWrong)

/- THE SECOND FORM. 'bulk': how many values and letters a reading holds, each counted each time it is reached (what is shared counts as often as it is met; a slice's spare places count too). A statement '..UptoSaid' is the law's where the arguments, and the package variables that the reading takes, are together of bulk at most 1048576: NARROWER than '..Said'. Prove '..Said' where nothing that the law and all that it calls make is longer than what came in: it says more and counts as full. Else prove '..UptoSaid'. A law counts once. -/
mutual
def uptoBulk {H : Type} : DataW H → Nat
  | .lit (.string bytes) => bytes.length + 1
  | .lit _ => 1
  | .nil => 1
  | .ptr d => uptoBulk d + 1
  | .slice elems spare => uptoBulkAll elems + uptoBulkAll spare + 1
  | .agg parts => uptoBulkAll parts + 1
  | .iface _ d => uptoBulk d + 1
  | .map entries => uptoBulkEntries entries + 1
  | .held _ => 1
def uptoBulkAll {H : Type} : List (DataW H) → Nat
  | [] => 0
  | d :: r => uptoBulk d + uptoBulkAll r
def uptoBulkEntries {H : Type} : List (Lit × DataW H) → Nat
  | [] => 0
  | x :: r => uptoBulkEntry x + uptoBulkEntries r
def uptoBulkEntry {H : Type} : Lit × DataW H → Nat
  | (.string bytes, d) => bytes.length + uptoBulk d + 1
  | (_, d) => uptoBulk d + 1
 end
def uptoSmall : (H : Type) → List (DataW H) → Bool := fun _ ds => decide (uptoBulkAll ds ≤ 1048576)
def OpenSpec.upto (s : _root_.Go.ChangeSpec) : _root_.Go.OpenSpec := { _root_.Go.OpenSpec.ofChange s with cond := some uptoSmall }

/-- 'laws.FnExactRankDistance', WHERE WHAT IT READS IS OF BULK AT MOST 1048576: true; the input reads as it did. -/
def fnExactRankDistanceUptoRow : OpenClaim := { program := "ytgheoodlbeihkaagreat", sum := "1f68240f222cf15299c3ce3e139eebd0800031f6dd217a020389b12cf8a90266", func := "loop.example/g01245/laws.FnExactRankDistance", spec := "fnExactRankDistance", unfollowed := true, recurses := true, apart := false, narrowed := true }
def FnExactRankDistanceUptoSaid : Prop := fnExactRankDistanceUptoRow.holds Tryz.pinned (OpenSpec.upto fnExactRankDistanceSpec)

/-- 'laws.FnExactPowerOfSkew', WHERE WHAT IT READS IS OF BULK AT MOST 1048576: true; the input reads as it did. -/
def fnExactPowerOfSkewUptoRow : OpenClaim := { program := "ytgheoodlbeihkaagreat", sum := "1f68240f222cf15299c3ce3e139eebd0800031f6dd217a020389b12cf8a90266", func := "loop.example/g01245/laws.FnExactPowerOfSkew", spec := "fnExactPowerOfSkew", unfollowed := true, recurses := true, apart := false, narrowed := true }
def FnExactPowerOfSkewUptoSaid : Prop := fnExactPowerOfSkewUptoRow.holds Tryz.pinned (OpenSpec.upto fnExactPowerOfSkewSpec)

/-- 'laws.FnExactLeastRank', WHERE WHAT IT READS IS OF BULK AT MOST 1048576: true; the input reads as it did. -/
def fnExactLeastRankUptoRow : OpenClaim := { program := "ytgheoodlbeihkaagreat", sum := "1f68240f222cf15299c3ce3e139eebd0800031f6dd217a020389b12cf8a90266", func := "loop.example/g01245/laws.FnExactLeastRank", spec := "fnExactLeastRank", unfollowed := true, recurses := true, apart := false, narrowed := true }
def FnExactLeastRankUptoSaid : Prop := fnExactLeastRankUptoRow.holds Tryz.pinned (OpenSpec.upto fnExactLeastRankSpec)

/-- 'laws.FnExactIsSupersingular', WHERE WHAT IT READS IS OF BULK AT MOST 1048576: true; the input reads as it did. -/
def fnExactIsSupersingularUptoRow : OpenClaim := { program := "ytgheoodlbeihkaagreat", sum := "1f68240f222cf15299c3ce3e139eebd0800031f6dd217a020389b12cf8a90266", func := "loop.example/g01245/laws.FnExactIsSupersingular", spec := "fnExactIsSupersingular", unfollowed := true, recurses := true, apart := false, narrowed := true }
def FnExactIsSupersingularUptoSaid : Prop := fnExactIsSupersingularUptoRow.holds Tryz.pinned (OpenSpec.upto fnExactIsSupersingularSpec)

/-- 'laws.FnExactMooreDeterminant', WHERE WHAT IT READS IS OF BULK AT MOST 1048576: true; the input reads as it did. -/
def fnExactMooreDeterminantUptoRow : OpenClaim := { program := "ytgheoodlbeihkaagreat", sum := "1f68240f222cf15299c3ce3e139eebd0800031f6dd217a020389b12cf8a90266", func := "loop.example/g01245/laws.FnExactMooreDeterminant", spec := "fnExactMooreDeterminant", unfollowed := true, recurses := true, apart := false, narrowed := true }
def FnExactMooreDeterminantUptoSaid : Prop := fnExactMooreDeterminantUptoRow.holds Tryz.pinned (OpenSpec.upto fnExactMooreDeterminantSpec)

/-- 'laws.FnExactFrobeniusOf', WHERE WHAT IT READS IS OF BULK AT MOST 1048576: true; the input reads as it did. -/
def fnExactFrobeniusOfUptoRow : OpenClaim := { program := "ytgheoodlbeihkaagreat", sum := "1f68240f222cf15299c3ce3e139eebd0800031f6dd217a020389b12cf8a90266", func := "loop.example/g01245/laws.FnExactFrobeniusOf", spec := "fnExactFrobeniusOf", unfollowed := true, recurses := true, apart := false, narrowed := true }
def FnExactFrobeniusOfUptoSaid : Prop := fnExactFrobeniusOfUptoRow.holds Tryz.pinned (OpenSpec.upto fnExactFrobeniusOfSpec)

/-- 'laws.FnExactCountPoints', WHERE WHAT IT READS IS OF BULK AT MOST 1048576: true; the input reads as it did. -/
def fnExactCountPointsUptoRow : OpenClaim := { program := "ytgheoodlbeihkaagreat", sum := "1f68240f222cf15299c3ce3e139eebd0800031f6dd217a020389b12cf8a90266", func := "loop.example/g01245/laws.FnExactCountPoints", spec := "fnExactCountPoints", unfollowed := true, recurses := true, apart := false, narrowed := true }
def FnExactCountPointsUptoSaid : Prop := fnExactCountPointsUptoRow.holds Tryz.pinned (OpenSpec.upto fnExactCountPointsSpec)

/-- 'laws.FnExactKernelOfSkew', WHERE WHAT IT READS IS OF BULK AT MOST 1048576: true; the input reads as it did. -/
def fnExactKernelOfSkewUptoRow : OpenClaim := { program := "ytgheoodlbeihkaagreat", sum := "1f68240f222cf15299c3ce3e139eebd0800031f6dd217a020389b12cf8a90266", func := "loop.example/g01245/laws.FnExactKernelOfSkew", spec := "fnExactKernelOfSkew", unfollowed := true, recurses := true, apart := false, narrowed := true }
def FnExactKernelOfSkewUptoSaid : Prop := fnExactKernelOfSkewUptoRow.holds Tryz.pinned (OpenSpec.upto fnExactKernelOfSkewSpec)

/-- 'laws.FnExactDivideRight', WHERE WHAT IT READS IS OF BULK AT MOST 1048576: true; the input reads as it did. -/
def fnExactDivideRightUptoRow : OpenClaim := { program := "ytgheoodlbeihkaagreat", sum := "1f68240f222cf15299c3ce3e139eebd0800031f6dd217a020389b12cf8a90266", func := "loop.example/g01245/laws.FnExactDivideRight", spec := "fnExactDivideRight", unfollowed := true, recurses := true, apart := false, narrowed := true }
def FnExactDivideRightUptoSaid : Prop := fnExactDivideRightUptoRow.holds Tryz.pinned (OpenSpec.upto fnExactDivideRightSpec)

/-- 'laws.FnExactDivideLeft', WHERE WHAT IT READS IS OF BULK AT MOST 1048576: true; the input reads as it did. -/
def fnExactDivideLeftUptoRow : OpenClaim := { program := "ytgheoodlbeihkaagreat", sum := "1f68240f222cf15299c3ce3e139eebd0800031f6dd217a020389b12cf8a90266", func := "loop.example/g01245/laws.FnExactDivideLeft", spec := "fnExactDivideLeft", unfollowed := true, recurses := true, apart := false, narrowed := true }
def FnExactDivideLeftUptoSaid : Prop := fnExactDivideLeftUptoRow.holds Tryz.pinned (OpenSpec.upto fnExactDivideLeftSpec)

/-- 'laws.FnExactRightDivisor', WHERE WHAT IT READS IS OF BULK AT MOST 1048576: true; the input reads as it did. -/
def fnExactRightDivisorUptoRow : OpenClaim := { program := "ytgheoodlbeihkaagreat", sum := "1f68240f222cf15299c3ce3e139eebd0800031f6dd217a020389b12cf8a90266", func := "loop.example/g01245/laws.FnExactRightDivisor", spec := "fnExactRightDivisor", unfollowed := true, recurses := true, apart := false, narrowed := true }
def FnExactRightDivisorUptoSaid : Prop := fnExactRightDivisorUptoRow.holds Tryz.pinned (OpenSpec.upto fnExactRightDivisorSpec)

/-- 'laws.FnExactLeftMultiple', WHERE WHAT IT READS IS OF BULK AT MOST 1048576: true; the input reads as it did. -/
def fnExactLeftMultipleUptoRow : OpenClaim := { program := "ytgheoodlbeihkaagreat", sum := "1f68240f222cf15299c3ce3e139eebd0800031f6dd217a020389b12cf8a90266", func := "loop.example/g01245/laws.FnExactLeftMultiple", spec := "fnExactLeftMultiple", unfollowed := true, recurses := true, apart := false, narrowed := true }
def FnExactLeftMultipleUptoSaid : Prop := fnExactLeftMultipleUptoRow.holds Tryz.pinned (OpenSpec.upto fnExactLeftMultipleSpec)

end Rows
end Go.Proofs.YtgheoodlbeihkaaGreat
