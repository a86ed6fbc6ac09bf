/-
  Proved here: for all arguments the law FnTorsion returns true, and its arguments read afterwards as before. No conditions.
-/
import Derived.Test.YtcefdljcmgjpeaaGreatRows
import Derived.WalkKit
import Derived.ProofKit
import Derived.OpenShut
import Derived.Test.YtcefdljcmgjpeaaGreatW1
import Derived.Test.YtcefdljcmgjpeaaGreatW2
import Derived.Test.YtcefdljcmgjpeaaGreatW3
import Derived.Test.YtcefdljcmgjpeaaGreatW4
import Derived.Test.YtcefdljcmgjpeaaGreatW5
import Derived.Test.YtcefdljcmgjpeaaGreatW6
import Derived.Test.YtcefdljcmgjpeaaGreatW7
import Derived.Test.YtcefdljcmgjpeaaGreatW8

namespace Go.Proofs.YtcefdljcmgjpeaaGreat.row
open Go.ChangeShapes Go.WideShapes Go.ChangeAt Go.RowKit Pe
theorem own:ownKnob Tryz.prog.godebug=Option.none:=by kernel_rfl
theorem laid:laidOutB Tryz.prog=true:=by kernel_rfl
theorem ae5:Dr Tryz.prog Tryz.f3=true:=by kernel_rfl
theorem fit:Ax Tryz.prog Tryz.f3.params.toList [tyB]=true:=by kernel_rfl
theorem all {xs:List Pe.D} (h:Ty.hasAll [tyB] xs):Pe.ask OO F1x xs=some (.bool true):=by
 obtain ⟨x0,r0,rfl,h0,h⟩:=Sn h;obtain rfl:=Vg h;obtain ⟨l0,rfl,b0,g0⟩:=ae9 h0;exact law l0 b0 g0
theorem ak4 {H:Type} {w:World} {enc:TypeId×Value→H} {args:Array Value} {ds gs:List (DataW H)} {ps:List MemPlace} (h:DataW.Whole enc Tryz.prog Tryz.f3.params.toList Rows.fnTorsionSpec.vars false w args.toList ds gs ps) :
 Rows.fnTorsionSpec.fn H (ds++gs) = { results:=[.lit (.bool true)],args:=ds }:=by
 obtain ⟨p,q,hA,hV,-,-,-⟩:=h;obtain ⟨rfl,-⟩:=trodVars_none hV;rw [Tryz.params3] at hA;obtain ⟨v0,vs0,d0,ds0,p0,q0,-,rfl,-,-,r0⟩:=trodAll_cons hA;obtain ⟨-,rfl,-⟩:=trodAll_nil r0;rfl
set_option maxRecDepth 100000 in
theorem lifted (os:Os) (started:os.Started) (H:Type) (enc:TypeId×Value→H) :
 ReturnsInHanded {} Tryz.checked os 3 .any (Rows.fnTorsionSpec.pre6 enc Tryz.prog Tryz.f3 Rows.fnTorsionRow.domain false) (Rows.fnTorsionSpec.post enc Tryz.prog Tryz.f3 false true false false):=by
 refine returnsInHanded_of_change (C:=Tryz.checked) own started (by kernel_rfl) Tryz.func3
  (ChangeSpec.witness6 (enc:=enc) (C:=Tryz.checked) false ⟨#[],#[.slice none 0 0],[]⟩ 8 (by kernel_rfl) (by kernel_rfl) (by kernel_rfl) (by kernel_rfl)) ?_
 intro W base args ds gs before hval hW hcnd _;obtain ⟨p,q,hA,-,-,-,-⟩:=id hW;obtain ⟨xs,h1,h2⟩:=Mt (C:=⟨W,fun b=>b<W.heap.size,numF⟩) (fun _ h=>h) _ _ _ _ _ fit hA (fun j t v hj hv=>hval j t v (by simpa using hj) (by simpa using hv))
 have hc:=Tq sound (all h1) h2;refine Calls.mono hc ?_
 rintro e W' ⟨rfl,hb⟩
 exact ⟨_,rfl,a0v hW rfl (ak4 hW) ae5 laid fit hb⟩
theorem j1:(Rows.fnTorsionRow.lifted == Tryz.pinned.checked.prog.liftsFinal)=true:=by kernel_rfl
theorem j2:(Tryz.pinned.checked.prog.make == some Rows.fnTorsionRow.make)=true:=by kernel_rfl
theorem j3:(Rows.fnTorsionRow.inPlace == Tryz.pinned.checked.prog.inPlace 3)=true:=by kernel_rfl
theorem j4:(Rows.fnTorsionRow.unfollowed == Tryz.pinned.checked.prog.unfollowed 3)=true:=by kernel_rfl
theorem j5:(Rows.fnTorsionRow.recurses == Tryz.pinned.checked.prog.recurses 3)=true:=by kernel_rfl
theorem j6:(Rows.fnTorsionRow.named == Tryz.pinned.checked.prog.varsNamed 3)=true:=by kernel_rfl
theorem j7:laidOutB Tryz.pinned.checked.prog=true:=by kernel_rfl
theorem j8:mapsRowed Tryz.pinned.checked.prog=true:=by kernel_rfl
theorem j9:Tryz.pinned.checked.prog.stopsHeard=true:=by kernel_rfl
theorem j10:Tryz.pinned.checked.prog.mayEnter=true:=by kernel_rfl
theorem ac3:joinedFacts Tryz.pinned.checked.prog 3 Tryz.f3 Rows.fnTorsionSpec Rows.fnTorsionRow=true:=by
 unfold joinedFacts;rw [j1,j2,j3,j4,j5,j6,j7,j8,j9,j10]
 kernel_rfl
theorem over:Rows.fnTorsionRow.holds Tryz.pinned (OpenSpec.ofChange Rows.fnTorsionSpec):=
 OpenClaim.holds_of_wide 3 Tryz.f3 rfl rfl rfl rfl rfl rfl rfl ⟨rfl,rfl,rfl,rfl,rfl⟩ rfl rfl rfl rfl rfl (by kernel_rfl) Tryz.func3 ac3
  (of_decide_eq_true (by kernel_rfl)) (by unfold Func.isWrapper; first | (rw [if_pos (by decide +kernel)]; kernel_rfl) | (rw [if_neg (by decide +kernel)]; exact ⟨rfl,rfl⟩))
  (fun os started H enc _=>lifted os started H enc)
theorem proved:Rows.FnTorsionSaid:=over
#print axioms proved
end Go.Proofs.YtcefdljcmgjpeaaGreat.row
