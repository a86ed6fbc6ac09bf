/-
  Proved here: for all arguments the law FnExactMooreMatrix returns true, and its arguments read afterwards as before. No conditions.
-/
import Derived.Test.YtbhdhgbmgfokoaaGreatRows
import Derived.WalkKit
import Derived.ProofKit
import Derived.OpenShut
import Derived.Test.YtbhdhgbmgfokoaaGreatW1
import Derived.Test.YtbhdhgbmgfokoaaGreatW2
import Derived.Test.YtbhdhgbmgfokoaaGreatW3
import Derived.Test.YtbhdhgbmgfokoaaGreatW4
import Derived.Test.YtbhdhgbmgfokoaaGreatW5
import Derived.Test.YtbhdhgbmgfokoaaGreatW6
import Derived.Test.YtbhdhgbmgfokoaaGreatW7

namespace Go.Proofs.YtbhdhgbmgfokoaaGreat.row
open Go.ChangeShapes Go.WideShapes Go.ChangeAt Go.RowKit Pe
theorem own:ownKnob Tryz.prog.godebug=Option.none:=by kernel_rfl
theorem laid:laidOutB Tryz.prog=true:=by kernel_rfl
theorem a5v:z3 Tryz.prog Tryz.f3=true:=by kernel_rfl
theorem fit:ud Tryz.prog Tryz.f3.params.toList [tyN,tyP,tyPs]=true:=by kernel_rfl
theorem all {xs:List Pe.D} (h:Ty.hasAll [tyN,tyP,tyPs] xs):Pe.ask OO F1h xs=some (.bool true):=by
 obtain ⟨x0,r0,rfl,h0,h⟩:=v6 h;obtain ⟨x1,r1,rfl,h1,h⟩:=v6 h;obtain ⟨x2,r2,rfl,h2,h⟩:=v6 h;obtain rfl:=O5 h;obtain ⟨n0,rfl,-,-⟩:=a6f h0;obtain ⟨l1,rfl,b1,g1⟩:=a19 h1;obtain ⟨s2,rfl,a2,g2⟩:=a30 h2;exact law n0 l1 b1 g1 s2 a2 g2
theorem aap {H:Type} {w:World} {enc:TypeId×Value→H} {args:Array Value} {ds gs:List (DataW H)} {ps:List MemPlace} (h:DataW.Whole enc Tryz.prog Tryz.f3.params.toList Rows.fnExactMooreMatrixSpec.vars false w args.toList ds gs ps) :
 Rows.fnExactMooreMatrixSpec.fn H (ds++gs) = { results:=[.lit (.bool true)],args:=ds }:=by
 obtain ⟨p,q,hA,hV,-,-,-⟩:=h;obtain ⟨rfl,-⟩:=trodVars_none hV;rw [Tryz.params3] at hA;obtain ⟨v0,vs0,d0,ds0,p0,q0,-,rfl,-,-,r0⟩:=trodAll_cons hA;obtain ⟨v1,vs1,d1,ds1,p1,q1,-,rfl,-,-,r1⟩:=trodAll_cons r0;obtain ⟨v2,vs2,d2,ds2,p2,q2,-,rfl,-,-,r2⟩:=trodAll_cons r1;obtain ⟨-,rfl,-⟩:=trodAll_nil r2;rfl
set_option maxRecDepth 100000 in
theorem lifted (os:Os) (started:os.Started) (H:Type) (enc:TypeId×Value→H) :
 ReturnsInHanded {} Tryz.checked os 3 .any (Rows.fnExactMooreMatrixSpec.pre6 enc Tryz.prog Tryz.f3 Rows.fnExactMooreMatrixRow.domain false) (Rows.fnExactMooreMatrixSpec.post enc Tryz.prog Tryz.f3 false true false false):=by
 refine returnsInHanded_of_change (C:=Tryz.checked) own started (by kernel_rfl) Tryz.func3
  (ChangeSpec.witness6 (enc:=enc) (C:=Tryz.checked) false ⟨#[],#[.int .i64 0,.agg (Array.replicate 64 (.int .u8 0)),.slice none 0 0],[]⟩ 8 (by kernel_rfl) (by kernel_rfl) (by kernel_rfl) (by kernel_rfl)) ?_
 intro W base args ds gs before hval hW hcnd _;obtain ⟨p,q,hA,-,-,-,-⟩:=id hW;obtain ⟨xs,h1,h2⟩:=G7 (C:=⟨W,fun b=>b<W.heap.size,numF⟩) (fun _ h=>h) _ _ _ _ _ fit hA (fun j t v hj hv=>hval j t v (by simpa using hj) (by simpa using hv))
 have hc:=Od sound (all h1) h2;refine Calls.mono hc ?_
 rintro e W' ⟨rfl,hb⟩
 exact ⟨_,rfl,To hW rfl (aap hW) a5v laid fit hb⟩
theorem j1:(Rows.fnExactMooreMatrixRow.lifted == Tryz.pinned.checked.prog.liftsFinal)=true:=by kernel_rfl
theorem j2:(Tryz.pinned.checked.prog.make == some Rows.fnExactMooreMatrixRow.make)=true:=by kernel_rfl
theorem j3:(Rows.fnExactMooreMatrixRow.inPlace == Tryz.pinned.checked.prog.inPlace 3)=true:=by kernel_rfl
theorem j4:(Rows.fnExactMooreMatrixRow.unfollowed == Tryz.pinned.checked.prog.unfollowed 3)=true:=by kernel_rfl
theorem j5:(Rows.fnExactMooreMatrixRow.recurses == Tryz.pinned.checked.prog.recurses 3)=true:=by kernel_rfl
theorem j6:(Rows.fnExactMooreMatrixRow.named == Tryz.pinned.checked.prog.varsNamed 3)=true:=by kernel_rfl
theorem j7:laidOutB Tryz.pinned.checked.prog=true:=by kernel_rfl
theorem j8:mapsRowed Tryz.pinned.checked.prog=true:=by kernel_rfl
theorem j9:Tryz.pinned.checked.prog.stopsHeard=true:=by kernel_rfl
theorem j10:Tryz.pinned.checked.prog.mayEnter=true:=by kernel_rfl
theorem a1r:joinedFacts Tryz.pinned.checked.prog 3 Tryz.f3 Rows.fnExactMooreMatrixSpec Rows.fnExactMooreMatrixRow=true:=by
 unfold joinedFacts;rw [j1,j2,j3,j4,j5,j6,j7,j8,j9,j10]
 kernel_rfl
theorem over:Rows.fnExactMooreMatrixRow.holds Tryz.pinned (OpenSpec.ofChange Rows.fnExactMooreMatrixSpec):=
 OpenClaim.holds_of_wide 3 Tryz.f3 rfl rfl rfl rfl rfl rfl rfl ⟨rfl,rfl,rfl,rfl,rfl⟩ rfl rfl rfl rfl rfl (by kernel_rfl) Tryz.func3 a1r
  (of_decide_eq_true (by kernel_rfl)) (by unfold Func.isWrapper; first | (rw [if_pos (by decide +kernel)]; kernel_rfl) | (rw [if_neg (by decide +kernel)]; exact ⟨rfl,rfl⟩))
  (fun os started H enc _=>lifted os started H enc)
theorem proved:Rows.FnExactMooreMatrixSaid:=over
#print axioms proved
end Go.Proofs.YtbhdhgbmgfokoaaGreat.row
