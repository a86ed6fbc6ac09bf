/-
  Proved here: for all arguments the law FnExactDecodeRank returns true, and its arguments read afterwards as before. No conditions.
-/
import Derived.Test.YtngaenaglaiblaaGreatRows
import Derived.WalkKit
import Derived.ProofKit
import Derived.OpenShut
import Derived.Test.YtngaenaglaiblaaGreatW1
import Derived.Test.YtngaenaglaiblaaGreatW2
import Derived.Test.YtngaenaglaiblaaGreatW3
import Derived.Test.YtngaenaglaiblaaGreatW4
import Derived.Test.YtngaenaglaiblaaGreatW5
import Derived.Test.YtngaenaglaiblaaGreatW6
import Derived.Test.YtngaenaglaiblaaGreatW7
import Derived.Test.YtngaenaglaiblaaGreatW8
import Derived.Test.YtngaenaglaiblaaGreatW9

namespace Go.Proofs.YtngaenaglaiblaaGreat.row
open Go.ChangeShapes Go.WideShapes Go.ChangeAt Go.RowKit Pe
theorem own:ownKnob Tryz.prog.godebug=Option.none:=by kernel_rfl
theorem laid:laidOutB Tryz.prog=true:=by kernel_rfl
theorem ajc:Et Tryz.prog Tryz.f3=true:=by kernel_rfl
theorem fit:At Tryz.prog Tryz.f3.params.toList [tyN,tyP,tyPs,tyN,tyPs]=true:=by kernel_rfl
theorem all {xs:List Pe.D} (h:Ty.hasAll [tyN,tyP,tyPs,tyN,tyPs] xs):Pe.ask OO F1y xs=some (.bool true):=by
 obtain ⟨x0,r0,rfl,h0,h⟩:=uc h;obtain ⟨x1,r1,rfl,h1,h⟩:=uc h;obtain ⟨x2,r2,rfl,h2,h⟩:=uc h;obtain ⟨x3,r3,rfl,h3,h⟩:=uc h;obtain ⟨x4,r4,rfl,h4,h⟩:=uc h;obtain rfl:=Wi h;obtain ⟨n0,rfl,-,-⟩:=acv h0;obtain ⟨l1,rfl,b1,g1⟩:=ad1 h1;obtain ⟨s2,rfl,a2,g2⟩:=a6w h2;obtain ⟨n3,rfl,-,-⟩:=acv h3;obtain ⟨s4,rfl,a4,g4⟩:=a6w h4;exact law n0 l1 b1 g1 s2 a2 g2 n3 s4 a4 g4
theorem amo {H:Type} {w:World} {enc:TypeId×Value→H} {args:Array Value} {ds gs:List (DataW H)} {ps:List MemPlace} (h:DataW.Whole enc Tryz.prog Tryz.f3.params.toList Rows.fnExactDecodeRankSpec.vars false w args.toList ds gs ps) :
 Rows.fnExactDecodeRankSpec.fn H (ds++gs) = { results:=[.lit (.bool true)],args:=ds }:=by
 obtain ⟨p,q,hA,hV,-,-,-⟩:=h;obtain ⟨rfl,-⟩:=trodVars_none hV;rw [Tryz.params3] at hA;obtain ⟨v0,vs0,d0,ds0,p0,q0,-,rfl,-,-,r0⟩:=trodAll_cons hA;obtain ⟨v1,vs1,d1,ds1,p1,q1,-,rfl,-,-,r1⟩:=trodAll_cons r0;obtain ⟨v2,vs2,d2,ds2,p2,q2,-,rfl,-,-,r2⟩:=trodAll_cons r1;obtain ⟨v3,vs3,d3,ds3,p3,q3,-,rfl,-,-,r3⟩:=trodAll_cons r2;obtain ⟨v4,vs4,d4,ds4,p4,q4,-,rfl,-,-,r4⟩:=trodAll_cons r3;obtain ⟨-,rfl,-⟩:=trodAll_nil r4;rfl
set_option maxRecDepth 100000 in
theorem lifted (os:Os) (started:os.Started) (H:Type) (enc:TypeId×Value→H) :
 ReturnsInHanded {} Tryz.checked os 3 .any (Rows.fnExactDecodeRankSpec.pre6 enc Tryz.prog Tryz.f3 Rows.fnExactDecodeRankRow.domain false) (Rows.fnExactDecodeRankSpec.post enc Tryz.prog Tryz.f3 false true false false):=by
 refine returnsInHanded_of_change (C:=Tryz.checked) own started (by kernel_rfl) Tryz.func3
  (ChangeSpec.witness6 (enc:=enc) (C:=Tryz.checked) false ⟨#[],#[.int .i64 0,.agg (Array.replicate 64 (.int .u8 0)),.slice none 0 0,.int .i64 0,.slice none 0 0],[]⟩ 8 (by kernel_rfl) (by kernel_rfl) (by kernel_rfl) (by kernel_rfl)) ?_
 intro W base args ds gs before hval hW hcnd _;obtain ⟨p,q,hA,-,-,-,-⟩:=id hW;obtain ⟨xs,h1,h2⟩:=Ob (C:=⟨W,fun b=>b<W.heap.size,numF⟩) (fun _ h=>h) _ _ _ _ _ fit hA (fun j t v hj hv=>hval j t v (by simpa using hj) (by simpa using hv))
 have hc:=Xr sound (all h1) h2;refine Calls.mono hc ?_
 rintro e W' ⟨rfl,hb⟩
 exact ⟨_,rfl,a46 hW rfl (amo hW) ajc laid fit hb⟩
theorem j1:(Rows.fnExactDecodeRankRow.lifted == Tryz.pinned.checked.prog.liftsFinal)=true:=by kernel_rfl
theorem j2:(Tryz.pinned.checked.prog.make == some Rows.fnExactDecodeRankRow.make)=true:=by kernel_rfl
theorem j3:(Rows.fnExactDecodeRankRow.inPlace == Tryz.pinned.checked.prog.inPlace 3)=true:=by kernel_rfl
theorem j4:(Rows.fnExactDecodeRankRow.unfollowed == Tryz.pinned.checked.prog.unfollowed 3)=true:=by kernel_rfl
theorem j5:(Rows.fnExactDecodeRankRow.recurses == Tryz.pinned.checked.prog.recurses 3)=true:=by kernel_rfl
theorem j6:(Rows.fnExactDecodeRankRow.named == Tryz.pinned.checked.prog.varsNamed 3)=true:=by kernel_rfl
theorem j7:laidOutB Tryz.pinned.checked.prog=true:=by kernel_rfl
theorem j8:mapsRowed Tryz.pinned.checked.prog=true:=by kernel_rfl
theorem j9:Tryz.pinned.checked.prog.stopsHeard=true:=by kernel_rfl
theorem j10:Tryz.pinned.checked.prog.mayEnter=true:=by kernel_rfl
theorem ae7:joinedFacts Tryz.pinned.checked.prog 3 Tryz.f3 Rows.fnExactDecodeRankSpec Rows.fnExactDecodeRankRow=true:=by
 unfold joinedFacts;rw [j1,j2,j3,j4,j5,j6,j7,j8,j9,j10]
 kernel_rfl
theorem over:Rows.fnExactDecodeRankRow.holds Tryz.pinned (OpenSpec.ofChange Rows.fnExactDecodeRankSpec):=
 OpenClaim.holds_of_wide 3 Tryz.f3 rfl rfl rfl rfl rfl rfl rfl ⟨rfl,rfl,rfl,rfl,rfl⟩ rfl rfl rfl rfl rfl (by kernel_rfl) Tryz.func3 ae7
  (of_decide_eq_true (by kernel_rfl)) (by unfold Func.isWrapper; first | (rw [if_pos (by decide +kernel)]; kernel_rfl) | (rw [if_neg (by decide +kernel)]; exact ⟨rfl,rfl⟩))
  (fun os started H enc _=>lifted os started H enc)
theorem proved:Rows.FnExactDecodeRankSaid:=over
#print axioms proved
end Go.Proofs.YtngaenaglaiblaaGreat.row
