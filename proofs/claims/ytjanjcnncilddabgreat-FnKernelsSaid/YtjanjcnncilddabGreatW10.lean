/-
  Proved here: for all arguments the law FnKernels returns true, and its arguments read afterwards as before. No conditions.
-/
import Derived.Test.YtjanjcnncilddabGreatRows
import Derived.WalkKit
import Derived.ProofKit
import Derived.OpenShut
import Derived.Test.YtjanjcnncilddabGreatW1
import Derived.Test.YtjanjcnncilddabGreatW2
import Derived.Test.YtjanjcnncilddabGreatW3
import Derived.Test.YtjanjcnncilddabGreatW4
import Derived.Test.YtjanjcnncilddabGreatW5
import Derived.Test.YtjanjcnncilddabGreatW6
import Derived.Test.YtjanjcnncilddabGreatW7
import Derived.Test.YtjanjcnncilddabGreatW8
import Derived.Test.YtjanjcnncilddabGreatW9

namespace Go.Proofs.YtjanjcnncilddabGreat.row
open Go.ChangeShapes Go.WideShapes Go.ChangeAt Go.RowKit Pe
theorem own:ownKnob Tryz.prog.godebug=Option.none:=by kernel_rfl
theorem laid:laidOutB Tryz.prog=true:=by kernel_rfl
theorem ah2:Eh Tryz.prog Tryz.f3=true:=by kernel_rfl
theorem fit:B5 Tryz.prog Tryz.f3.params.toList [tyB]=true:=by kernel_rfl
theorem all {xs:List Pe.D} (h:Ty.hasAll [tyB] xs):Pe.ask OO F2b xs=some (.bool true):=by
 obtain ⟨x0,r0,rfl,h0,h⟩:=Uv h;obtain rfl:=Wt h;obtain ⟨l0,rfl,b0,g0⟩:=ail h0;exact law l0 b0 g0
theorem alm {H:Type} {w:World} {enc:TypeId×Value→H} {args:Array Value} {ds gs:List (DataW H)} {ps:List MemPlace} (h:DataW.Whole enc Tryz.prog Tryz.f3.params.toList Rows.fnKernelsSpec.vars false w args.toList ds gs ps) :
 Rows.fnKernelsSpec.fn H (ds++gs) = { results:=[.lit (.bool true)],args:=ds }:=by
 obtain ⟨p,q,hA,hV,-,-,-⟩:=h;obtain ⟨rfl,-⟩:=trodVars_none hV;rw [Tryz.params3] at hA;obtain ⟨v0,vs0,d0,ds0,p0,q0,-,rfl,-,-,r0⟩:=trodAll_cons hA;obtain ⟨-,rfl,-⟩:=trodAll_nil r0;rfl
set_option maxRecDepth 100000 in
theorem lifted (os:Os) (started:os.Started) (H:Type) (enc:TypeId×Value→H) :
 ReturnsInHanded {} Tryz.checked os 3 .any (Rows.fnKernelsSpec.pre6 enc Tryz.prog Tryz.f3 Rows.fnKernelsRow.domain false) (Rows.fnKernelsSpec.post enc Tryz.prog Tryz.f3 false true false false):=by
 refine returnsInHanded_of_change (C:=Tryz.checked) own started (by kernel_rfl) Tryz.func3
  (ChangeSpec.witness6 (enc:=enc) (C:=Tryz.checked) false ⟨#[],#[.slice none 0 0],[]⟩ 8 (by kernel_rfl) (by kernel_rfl) (by kernel_rfl) (by kernel_rfl)) ?_
 intro W base args ds gs before hval hW hcnd _;obtain ⟨p,q,hA,-,-,-,-⟩:=id hW;obtain ⟨xs,h1,h2⟩:=Og (C:=⟨W,fun b=>b<W.heap.size,numF⟩) (fun _ h=>h) _ _ _ _ _ fit hA (fun j t v hj hv=>hval j t v (by simpa using hj) (by simpa using hv))
 have hc:=Ya sound (all h1) h2;refine Calls.mono hc ?_
 rintro e W' ⟨rfl,hb⟩
 exact ⟨_,rfl,a3e hW rfl (alm hW) ah2 laid fit hb⟩
theorem j1:(Rows.fnKernelsRow.lifted == Tryz.pinned.checked.prog.liftsFinal)=true:=by kernel_rfl
theorem j2:(Tryz.pinned.checked.prog.make == some Rows.fnKernelsRow.make)=true:=by kernel_rfl
theorem j3:(Rows.fnKernelsRow.inPlace == Tryz.pinned.checked.prog.inPlace 3)=true:=by kernel_rfl
theorem j4:(Rows.fnKernelsRow.unfollowed == Tryz.pinned.checked.prog.unfollowed 3)=true:=by kernel_rfl
theorem j5:(Rows.fnKernelsRow.recurses == Tryz.pinned.checked.prog.recurses 3)=true:=by kernel_rfl
theorem j6:(Rows.fnKernelsRow.named == Tryz.pinned.checked.prog.varsNamed 3)=true:=by kernel_rfl
theorem j7:laidOutB Tryz.pinned.checked.prog=true:=by kernel_rfl
theorem j8:mapsRowed Tryz.pinned.checked.prog=true:=by kernel_rfl
theorem j9:Tryz.pinned.checked.prog.stopsHeard=true:=by kernel_rfl
theorem j10:Tryz.pinned.checked.prog.mayEnter=true:=by kernel_rfl
theorem ae2:joinedFacts Tryz.pinned.checked.prog 3 Tryz.f3 Rows.fnKernelsSpec Rows.fnKernelsRow=true:=by
 unfold joinedFacts;rw [j1,j2,j3,j4,j5,j6,j7,j8,j9,j10]
 kernel_rfl
theorem over:Rows.fnKernelsRow.holds Tryz.pinned (OpenSpec.ofChange Rows.fnKernelsSpec):=
 OpenClaim.holds_of_wide 3 Tryz.f3 rfl rfl rfl rfl rfl rfl rfl ⟨rfl,rfl,rfl,rfl,rfl⟩ rfl rfl rfl rfl rfl (by kernel_rfl) Tryz.func3 ae2
  (of_decide_eq_true (by kernel_rfl)) (by unfold Func.isWrapper; first | (rw [if_pos (by decide +kernel)]; kernel_rfl) | (rw [if_neg (by decide +kernel)]; exact ⟨rfl,rfl⟩))
  (fun os started H enc _=>lifted os started H enc)
theorem proved:Rows.FnKernelsSaid:=over
#print axioms proved
end Go.Proofs.YtjanjcnncilddabGreat.row
