/-
  No cell of these rows narrows 'for every input' (looked for: loops, veiled, ifaces, maps, wideKeys, modest, calm, conditions, laid).
  DERIVED. THE GIVEN ROWS OF THIS SEAT. 6 by the template 'for every input the law returns true; each argument reads behind the call as it read before'; 0 by the template 'total and deterministic' (their statements: YtmbifmkpdbiadaaGreatTotals.lean).
  GIVEN WITH THE SEED: the statements are not yours to turn. If you find one false, say at which input.
  Laid BY PROGRAM, IN A SANDBOX (cutbox-rows.mjs): the forced cells as the released guide's own fill.sh prints them over the translation 6fa0830f05824f56… (all of the seat's roots in one cut). By AI agents, Wed Nov 11 2026. No macro, syntax, notation, axiom, sorry.
-/
import Derived.Test.YtmbifmkpdbiadaaGreatChecked
import GoSem.Claim
import GoSem.ClaimJoined
import GoSem.ClaimMapViews
import Derived.JoinedTies
import Derived.KernelRfl
namespace Go.Proofs.YtmbifmkpdbiadaaGreat
/- THE CELL 'sum', in the pinned program and in every row, IS THE sha256 OF THE DUMP (.gsa) THAT YtmbifmkpdbiadaaGreatProg.lean LOADS. Nothing in Lean hashes anything: it is a label: what it is worth is what the hold of that sum in a sandbox is worth. -/
noncomputable def Tryz.pinned : Pinned := { name := "ytmbifmkpdbiadaagreat", sum := "6fa0830f05824f560814c67f03bdd32080062b3df1bd1ea0383bec377241d476", checked := Tryz.checked }
namespace Rows
def none {H : Type} : Left H := { results := [], args := [] }

/-- 'laws.FnExactLeastSkew': WHATEVER THE INPUT: true; the input reads as it did. -/
def fnExactLeastSkewSpec : ChangeSpec := { name := "fnExactLeastSkew", fn := fun _ => fun
  | [d1, d2, d3] => { results := [.lit (.bool true)], args := [d1, d2, d3] }
  | _ => none }
def fnExactLeastSkewRow : OpenClaim := { program := "ytmbifmkpdbiadaagreat", sum := "6fa0830f05824f560814c67f03bdd32080062b3df1bd1ea0383bec377241d476", func := "loop.example/g01245/laws.FnExactLeastSkew", spec := "fnExactLeastSkew", unfollowed := true, recurses := true, apart := false }
def FnExactLeastSkewSaid : Prop := fnExactLeastSkewRow.holds Tryz.pinned (OpenSpec.ofChange fnExactLeastSkewSpec)

/-- ITS FALSE NEIGHBOUR: 'it returns false'. Refute it at one input. -/
def fnExactLeastSkewWrong : ChangeSpec := { name := "fnExactLeastSkew", fn := fun _ => fun
  | [d1, d2, d3] => { results := [.lit (.bool false)], args := [d1, d2, d3] }
  | _ => none }
def FnExactLeastSkewWrongFalsely : Prop := fnExactLeastSkewRow.holds Tryz.pinned (OpenSpec.ofChange fnExactLeastSkewWrong)

/-- 'laws.FnExactOrderPolynomial': WHATEVER THE INPUT: true; the input reads as it did. -/
def fnExactOrderPolynomialSpec : ChangeSpec := { name := "fnExactOrderPolynomial", fn := fun _ => fun
  | [d] => { results := [.lit (.bool true)], args := [d] }
  | _ => none }
def fnExactOrderPolynomialRow : OpenClaim := { program := "ytmbifmkpdbiadaagreat", sum := "6fa0830f05824f560814c67f03bdd32080062b3df1bd1ea0383bec377241d476", func := "loop.example/g01245/laws.FnExactOrderPolynomial", spec := "fnExactOrderPolynomial", unfollowed := true, recurses := true, apart := false }
def FnExactOrderPolynomialSaid : Prop := fnExactOrderPolynomialRow.holds Tryz.pinned (OpenSpec.ofChange fnExactOrderPolynomialSpec)

/-- ITS FALSE NEIGHBOUR: 'it returns false'. Refute it at one input. -/
def fnExactOrderPolynomialWrong : ChangeSpec := { name := "fnExactOrderPolynomial", fn := fun _ => fun
  | [d] => { results := [.lit (.bool false)], args := [d] }
  | _ => none }
def FnExactOrderPolynomialWrongFalsely : Prop := fnExactOrderPolynomialRow.holds Tryz.pinned (OpenSpec.ofChange fnExactOrderPolynomialWrong)

/-- 'laws.FnExactDrinfeldAction': WHATEVER THE INPUT: true; the input reads as it did. -/
def fnExactDrinfeldActionSpec : ChangeSpec := { name := "fnExactDrinfeldAction", fn := fun _ => fun
  | [d1, d2] => { results := [.lit (.bool true)], args := [d1, d2] }
  | _ => none }
def fnExactDrinfeldActionRow : OpenClaim := { program := "ytmbifmkpdbiadaagreat", sum := "6fa0830f05824f560814c67f03bdd32080062b3df1bd1ea0383bec377241d476", func := "loop.example/g01245/laws.FnExactDrinfeldAction", spec := "fnExactDrinfeldAction", unfollowed := true, recurses := true, apart := false }
def FnExactDrinfeldActionSaid : Prop := fnExactDrinfeldActionRow.holds Tryz.pinned (OpenSpec.ofChange fnExactDrinfeldActionSpec)

/-- ITS FALSE NEIGHBOUR: 'it returns false'. Refute it at one input. -/
def fnExactDrinfeldActionWrong : ChangeSpec := { name := "fnExactDrinfeldAction", fn := fun _ => fun
  | [d1, d2] => { results := [.lit (.bool false)], args := [d1, d2] }
  | _ => none }
def FnExactDrinfeldActionWrongFalsely : Prop := fnExactDrinfeldActionRow.holds Tryz.pinned (OpenSpec.ofChange fnExactDrinfeldActionWrong)

/-- 'laws.FnExactDicksonOf': WHATEVER THE INPUT: true; the input reads as it did. -/
def fnExactDicksonOfSpec : ChangeSpec := { name := "fnExactDicksonOf", fn := fun _ => fun
  | [d1, d2, d3] => { results := [.lit (.bool true)], args := [d1, d2, d3] }
  | _ => none }
def fnExactDicksonOfRow : OpenClaim := { program := "ytmbifmkpdbiadaagreat", sum := "6fa0830f05824f560814c67f03bdd32080062b3df1bd1ea0383bec377241d476", func := "loop.example/g01245/laws.FnExactDicksonOf", spec := "fnExactDicksonOf", unfollowed := true, recurses := true, apart := false }
def FnExactDicksonOfSaid : Prop := fnExactDicksonOfRow.holds Tryz.pinned (OpenSpec.ofChange fnExactDicksonOfSpec)

/-- ITS FALSE NEIGHBOUR: 'it returns false'. Refute it at one input. -/
def fnExactDicksonOfWrong : ChangeSpec := { name := "fnExactDicksonOf", fn := fun _ => fun
  | [d1, d2, d3] => { results := [.lit (.bool false)], args := [d1, d2, d3] }
  | _ => none }
def FnExactDicksonOfWrongFalsely : Prop := fnExactDicksonOfRow.holds Tryz.pinned (OpenSpec.ofChange fnExactDicksonOfWrong)

/-- 'laws.FnExactEncodeRank': WHATEVER THE INPUT: true; the input reads as it did. -/
def fnExactEncodeRankSpec : ChangeSpec := { name := "fnExactEncodeRank", fn := fun _ => fun
  | [d1, d2, d3, d4] => { results := [.lit (.bool true)], args := [d1, d2, d3, d4] }
  | _ => none }
def fnExactEncodeRankRow : OpenClaim := { program := "ytmbifmkpdbiadaagreat", sum := "6fa0830f05824f560814c67f03bdd32080062b3df1bd1ea0383bec377241d476", func := "loop.example/g01245/laws.FnExactEncodeRank", spec := "fnExactEncodeRank", unfollowed := true, recurses := true, apart := false }
def FnExactEncodeRankSaid : Prop := fnExactEncodeRankRow.holds Tryz.pinned (OpenSpec.ofChange fnExactEncodeRankSpec)

/-- ITS FALSE NEIGHBOUR: 'it returns false'. Refute it at one input. -/
def fnExactEncodeRankWrong : ChangeSpec := { name := "fnExactEncodeRank", fn := fun _ => fun
  | [d1, d2, d3, d4] => { results := [.lit (.bool false)], args := [d1, d2, d3, d4] }
  | _ => none }
def FnExactEncodeRankWrongFalsely : Prop := fnExactEncodeRankRow.holds Tryz.pinned (OpenSpec.ofChange fnExactEncodeRankWrong)

/-- 'laws.FnExactCountByTrace': WHATEVER THE INPUT: true; the input reads as it did. -/
def fnExactCountByTraceSpec : ChangeSpec := { name := "fnExactCountByTrace", fn := fun _ => fun
  | [d1, d2] => { results := [.lit (.bool true)], args := [d1, d2] }
  | _ => none }
def fnExactCountByTraceRow : OpenClaim := { program := "ytmbifmkpdbiadaagreat", sum := "6fa0830f05824f560814c67f03bdd32080062b3df1bd1ea0383bec377241d476", func := "loop.example/g01245/laws.FnExactCountByTrace", spec := "fnExactCountByTrace", unfollowed := true, recurses := true, apart := false }
def FnExactCountByTraceSaid : Prop := fnExactCountByTraceRow.holds Tryz.pinned (OpenSpec.ofChange fnExactCountByTraceSpec)

/-- ITS FALSE NEIGHBOUR: 'it returns false'. Refute it at one input. -/
def fnExactCountByTraceWrong : ChangeSpec := { name := "fnExactCountByTrace", fn := fun _ => fun
  | [d1, d2] => { results := [.lit (.bool false)], args := [d1, d2] }
  | _ => none }
def FnExactCountByTraceWrongFalsely : Prop := fnExactCountByTraceRow.holds Tryz.pinned (OpenSpec.ofChange fnExactCountByTraceWrong)

/- THE SECOND FORM. 'bulk': how many values and letters a reading holds, each counted each time it is reached (what is shared counts as often as it is met; a slice's spare places count too). A statement '..UptoSaid' is the law's where the arguments, and the package variables that the reading takes, are together of bulk at most 1048576: NARROWER than '..Said'. Prove '..Said' where nothing that the law and all that it calls make is longer than what came in: it says more and counts as full. Else prove '..UptoSaid'. A law counts once. -/
mutual
def uptoBulk {H : Type} : DataW H → Nat
  | .lit (.string bytes) => bytes.length + 1
  | .lit _ => 1
  | .nil => 1
  | .ptr d => uptoBulk d + 1
  | .slice elems spare => uptoBulkAll elems + uptoBulkAll spare + 1
  | .agg parts => uptoBulkAll parts + 1
  | .iface _ d => uptoBulk d + 1
  | .map entries => uptoBulkEntries entries + 1
  | .held _ => 1
def uptoBulkAll {H : Type} : List (DataW H) → Nat
  | [] => 0
  | d :: r => uptoBulk d + uptoBulkAll r
def uptoBulkEntries {H : Type} : List (Lit × DataW H) → Nat
  | [] => 0
  | x :: r => uptoBulkEntry x + uptoBulkEntries r
def uptoBulkEntry {H : Type} : Lit × DataW H → Nat
  | (.string bytes, d) => bytes.length + uptoBulk d + 1
  | (_, d) => uptoBulk d + 1
 end
def uptoSmall : (H : Type) → List (DataW H) → Bool := fun _ ds => decide (uptoBulkAll ds ≤ 1048576)
def OpenSpec.upto (s : _root_.Go.ChangeSpec) : _root_.Go.OpenSpec := { _root_.Go.OpenSpec.ofChange s with cond := some uptoSmall }

/-- 'laws.FnExactLeastSkew', WHERE WHAT IT READS IS OF BULK AT MOST 1048576: true; the input reads as it did. -/
def fnExactLeastSkewUptoRow : OpenClaim := { program := "ytmbifmkpdbiadaagreat", sum := "6fa0830f05824f560814c67f03bdd32080062b3df1bd1ea0383bec377241d476", func := "loop.example/g01245/laws.FnExactLeastSkew", spec := "fnExactLeastSkew", unfollowed := true, recurses := true, apart := false, narrowed := true }
def FnExactLeastSkewUptoSaid : Prop := fnExactLeastSkewUptoRow.holds Tryz.pinned (OpenSpec.upto fnExactLeastSkewSpec)

/-- 'laws.FnExactOrderPolynomial', WHERE WHAT IT READS IS OF BULK AT MOST 1048576: true; the input reads as it did. -/
def fnExactOrderPolynomialUptoRow : OpenClaim := { program := "ytmbifmkpdbiadaagreat", sum := "6fa0830f05824f560814c67f03bdd32080062b3df1bd1ea0383bec377241d476", func := "loop.example/g01245/laws.FnExactOrderPolynomial", spec := "fnExactOrderPolynomial", unfollowed := true, recurses := true, apart := false, narrowed := true }
def FnExactOrderPolynomialUptoSaid : Prop := fnExactOrderPolynomialUptoRow.holds Tryz.pinned (OpenSpec.upto fnExactOrderPolynomialSpec)

/-- 'laws.FnExactDrinfeldAction', WHERE WHAT IT READS IS OF BULK AT MOST 1048576: true; the input reads as it did. -/
def fnExactDrinfeldActionUptoRow : OpenClaim := { program := "ytmbifmkpdbiadaagreat", sum := "6fa0830f05824f560814c67f03bdd32080062b3df1bd1ea0383bec377241d476", func := "loop.example/g01245/laws.FnExactDrinfeldAction", spec := "fnExactDrinfeldAction", unfollowed := true, recurses := true, apart := false, narrowed := true }
def FnExactDrinfeldActionUptoSaid : Prop := fnExactDrinfeldActionUptoRow.holds Tryz.pinned (OpenSpec.upto fnExactDrinfeldActionSpec)

/-- 'laws.FnExactDicksonOf', WHERE WHAT IT READS IS OF BULK AT MOST 1048576: true; the input reads as it did. -/
def fnExactDicksonOfUptoRow : OpenClaim := { program := "ytmbifmkpdbiadaagreat", sum := "6fa0830f05824f560814c67f03bdd32080062b3df1bd1ea0383bec377241d476", func := "loop.example/g01245/laws.FnExactDicksonOf", spec := "fnExactDicksonOf", unfollowed := true, recurses := true, apart := false, narrowed := true }
def FnExactDicksonOfUptoSaid : Prop := fnExactDicksonOfUptoRow.holds Tryz.pinned (OpenSpec.upto fnExactDicksonOfSpec)

/-- 'laws.FnExactEncodeRank', WHERE WHAT IT READS IS OF BULK AT MOST 1048576: true; the input reads as it did. -/
def fnExactEncodeRankUptoRow : OpenClaim := { program := "ytmbifmkpdbiadaagreat", sum := "6fa0830f05824f560814c67f03bdd32080062b3df1bd1ea0383bec377241d476", func := "loop.example/g01245/laws.FnExactEncodeRank", spec := "fnExactEncodeRank", unfollowed := true, recurses := true, apart := false, narrowed := true }
def FnExactEncodeRankUptoSaid : Prop := fnExactEncodeRankUptoRow.holds Tryz.pinned (OpenSpec.upto fnExactEncodeRankSpec)

/-- 'laws.FnExactCountByTrace', WHERE WHAT IT READS IS OF BULK AT MOST 1048576: true; the input reads as it did. -/
def fnExactCountByTraceUptoRow : OpenClaim := { program := "ytmbifmkpdbiadaagreat", sum := "6fa0830f05824f560814c67f03bdd32080062b3df1bd1ea0383bec377241d476", func := "loop.example/g01245/laws.FnExactCountByTrace", spec := "fnExactCountByTrace", unfollowed := true, recurses := true, apart := false, narrowed := true }
def FnExactCountByTraceUptoSaid : Prop := fnExactCountByTraceUptoRow.holds Tryz.pinned (OpenSpec.upto fnExactCountByTraceSpec)

end Rows
end Go.Proofs.YtmbifmkpdbiadaaGreat
