/-
  A part of the proof: an evaluator for a small form of the code, its soundness, and contracts of functions over it.
-/
import Derived.Shelf.Spec.SlicesInsertGrow
import Derived.Lib.AppendZeros
import Derived.KernelRfl
import Derived.Test.YtkkcmeenhegdiaaGreatW1
import Derived.Test.YtkkcmeenhegdiaaGreatW2
import Derived.Test.YtkkcmeenhegdiaaGreatW3

namespace Pe
open Go Go.Shelf Go.RowKit Go.Lib Go.Proofs
variable {P:Program} {ρ:Ren}
noncomputable def H1 (ρ : Ren) : Func := { Body2.n22 ρ with name := "slices.Insert[[]loop.example/g01245/impl.row,loop.example/g01245/impl.row]" }
theorem sr (ρ:Ren):(H1 ρ).ntmps=95:=rfl
theorem Mz (ρ : Ren) : (H1 ρ).name ≠ "runtime.NumGoroutine" := by
 show ("slices.Insert[[]loop.example/g01245/impl.row,loop.example/g01245/impl.row]" : String) ≠ "runtime.NumGoroutine"
 decide
noncomputable def a7p (ρ : Ren) : Func := { Body2.n29 ρ with name := "slices.overlaps[loop.example/g01245/impl.row]" }
structure InsL (P:Program) (ρ:Ren):Prop where
 mixed:P.follows .mixedOrders=true
 f22:P.funcs[ρ.f 22]? = some (H1 ρ)
 f29:P.funcs[ρ.f 29]? = some (a7p ρ)
 t0:P.underlying (ρ.t 0)=some (TypeDesc.tuple #[])
 t3:P.underlying (ρ.t 3)=some (TypeDesc.int IntKind.i64)
 a3:∀w,(Go.isAgg (ρ.t 3)).run P w=.ok false w
 z3:∀w,(Go.sizeOf (ρ.t 3)).run P w=.ok 1 w
 v3:∀w,(zeroValue (ρ.t 3)).run P w=.ok (Value.int IntKind.i64 0) w
 t4:P.underlying (ρ.t 4)=some (TypeDesc.bool)
 a4:∀w,(Go.isAgg (ρ.t 4)).run P w=.ok false w
 z4:∀w,(Go.sizeOf (ρ.t 4)).run P w=.ok 1 w
 v4:∀w,(zeroValue (ρ.t 4)).run P w=.ok (Value.bool false) w
 t9:∃t,P.underlying (ρ.t 9)=some (TypeDesc.slice t)
 a9:∀w,(Go.isAgg (ρ.t 9)).run P w=.ok false w
 z9:∀w,(Go.sizeOf (ρ.t 9)).run P w=.ok 1 w
 v9:∀w,(zeroValue (ρ.t 9)).run P w=.ok (Value.slice none 0 0) w
 t24:P.underlying (ρ.t 24)=some (TypeDesc.slice (ρ.t 9))
 a24:∀w,(Go.isAgg (ρ.t 24)).run P w=.ok false w
 z24:∀w,(Go.sizeOf (ρ.t 24)).run P w=.ok 1 w
 v24:∀w,(zeroValue (ρ.t 24)).run P w=.ok (Value.slice none 0 0) w
 i9:(P.info? (ρ.t 9)).map (fun i=>(i.zero,i.size,i.bytes))=some (some (Value.slice none 0 0),1,24)
theorem InsL.apart (L:InsL P ρ) {b vb off voff n m vc:Nat} (w:World) (hvb:vb≠b) {tA tB:TypeId} {kA kB:Nat} (hsa:w.shape? vb=some (tA,kA)) (hsb:w.shape? b=some (tB,kB)) (hkB:kB≠0) (hfa:w.frozen? ⟨vb,voff,none⟩=false) (hfe:w.frozen? ⟨vb,kA,none⟩=false) (lb cb:Nat) :
 (callFunc (ρ.f 29) #[.slice (some ⟨vb,voff,none⟩) m vc,.slice (some ⟨b,off+(n+m),none⟩) lb cb]).run P w=.ok (.value (.bool false)) w:=by
 rw [run_callFunc_extern L.f29 (by kernel_rfl) (by kernel_rfl) (by kernel_rfl) (e:=Extern.SlicesOverlaps.overlaps #[(ρ.t 24),(ρ.t 24)] #[(ρ.t 4)]) (by kernel_rfl),
  Lib.run_overlaps_apart w (ρ.t 24) (ρ.t 4) (ρ.t 9) L.t24 1 L.z9 ⟨vb,voff,none⟩ ⟨b,off+(n+m),none⟩ m vc lb cb hvb tA tB kA kB hsa hsb hkB hfa hfe]
 rfl
theorem InsL.one (L:InsL P ρ):(P.info? (ρ.t 9)).map (·.size)=some 1:=by
 obtain ⟨i0,hi0,h0,h1,h2⟩:=info_parts L.i9;rw [hi0]; simp [h1]
set_option maxHeartbeats 4000000 in
set_option maxRecDepth 100000 in
theorem InsL.shift (L:InsL P ρ) (b off n c i vb voff vc:Nat) (cs:List Value) (v:Value) (w:World) (hi:i<n) (hroom:n+1≤c) (hc63:n+1≤9223372036854775807) (hvb:vb≠b) (hcl:cs.length=n)
 (hcs:∀j u,cs[j]? = some u→w.cell? ⟨b,off+j,none⟩=some u) (hsp:∀j,j<n+1→(w.cell? ⟨b,off+j,none⟩).isSome=true) (hfz:∀j,j<n+1→w.frozen? ⟨b,off+j,none⟩=false)
 (hvs:w.cell? ⟨vb,voff,none⟩=some v) (h1c:∀u∈cs,u.oneCell'=true) (h1v:v.oneCell'=true)
 {tA tB:TypeId} {kA kB:Nat} (hsa:w.shape? vb=some (tA,kA)) (hsb:w.shape? b=some (tB,kB)) (hkB:kB≠0) (hfa:w.frozen? ⟨vb,voff,none⟩=false) (hfe:w.frozen? ⟨vb,kA,none⟩=false) :
 Calls P (ρ.f 22) #[.slice (some ⟨b,off,none⟩) n c,.int .i64 i,.slice (some ⟨vb,voff,none⟩) 1 vc] w fun e w'=>
  e=.returned (.slice (some ⟨b,off,none⟩) (n+1) c)∧w'=(w.drew.setCells b (off+(i+1)) (cs.drop i)).setCells b (off+i) [v]:=by
 have t0:=L.t0; have t3:=L.t3; have a3:=L.a3; have z3:=L.z3; have v3:=L.v3; have t4:=L.t4; have a4:=L.a4; have z4:=L.z4; have v4:=L.v4; have a9:=L.a9; have z9:=L.z9; have v9:=L.v9; have t24:=L.t24; have a24:=L.a24; have z24:=L.z24; have v24:=L.v24;have u0:=run_underlying L.t0; have u3:=run_underlying L.t3; have u4:=run_underlying L.t4; have u24:=run_underlying L.t24;obtain ⟨m,hm⟩:∃m:Nat,m=1:=⟨1,rfl⟩;have mixed:=L.mixed;rw [←hm] at hroom hsp hfz hc63 ⊢;have hm0:0<m:=by omega
 have hz1:¬ ((m:Int)=0):=by omega
 have hz2:¬ ((i:Int)=(n:Int)):=by omega
 have hsz:=L.one;have hov:∀lb cb,(callFunc (ρ.f 29) #[.slice (some ⟨vb,voff,none⟩) m vc,.slice (some ⟨b,off+(i+m),none⟩) lb cb]).run P w=.ok (.value (.bool false)) w:=fun lb cb=>L.apart w hvb hsa hsb hkB hfa hfe lb cb
 have hdl:(cs.drop i).length=n-i:=by rw [dp,hcl]
 have hw1:IntKind.i64.wrap ((i:Int)+(m:Int))=(i:Int)+(m:Int):=by rw [IntKind.wrap_i64]; omega
 have hb1:(0:Int)≤(i:Int)+(m:Int):=by omega
 have hin:i≤n:=by omega
 have htn:((i:Int)+(m:Int)).toNat=i+m:=by omega
 have hb2:¬ (c=i+m):=by omega
 have hb3:(i:Int)≤(n:Int)+(m:Int):=by omega
 have hb4:¬ (c=i):=by omega
 have hvl:([v]:List Value).length=m:=by rw [hm]; rfl
 have hcp1:∀ty dc sc,(Builtin.copy_ #[(ρ.t 24),(ρ.t 24)] ty #[.slice (some ⟨b,off+(i+m),none⟩) (n+m-(i+m)) dc,.slice (some ⟨b,off+i,none⟩) (n+m-i) sc]).run P w.drew=.ok (goInt (cs.drop i).length) (w.drew.setCells b (off+(i+m)) (cs.drop i)):=fun ty dc sc=>
  run_copy_cells w.drew _ _ ty (ρ.t 9) b (off+(i+m)) (n+m-(i+m)) dc ⟨b,off+i,none⟩ (n+m-i) sc (cs.drop i) L.t24 hsz (by rw [hdl]; simp only [Nat.min_def]; split <;> omega)
   (fun j u hj=>by rw [Addr.add_lit,eh]; exact hcs (i+j) u (by rwa [gp] at hj))
   (fun j hj=>by rw [eh]; exact hsp _ (by omega)) (fun j hj=>by rw [eh]; exact hfz _ (by omega)) (fun u hu=>h1c u (List.mem_of_mem_drop hu))
 obtain ⟨W1,hW1⟩:∃W1,W1=w.drew.setCells b (off+(i+m)) (cs.drop i):=⟨_,rfl⟩
 have hsp1:∀k,k<n+m→(W1.cell? ⟨b,off+k,none⟩).isSome=true:=fun k hk=>by
  rw [hW1];exact isSome_setCells b _ _ _ (fun j hj=>by rw [eh]; exact hsp _ (by omega)) _ (hsp k hk)
 have hcp2:∀(W:World),(∀x,W.cell? x=W1.cell? x)→(∀x,W.frozen? x=W1.frozen? x)→∀ty dc,(Builtin.copy_ #[(ρ.t 24),(ρ.t 24)] ty #[.slice (some ⟨b,off+i,none⟩) (n+m-i) dc,.slice (some ⟨vb,voff,none⟩) m vc]).run P W=.ok (goInt [v].length) (W.setCells b (off+i) [v]):=fun W hWc hWf ty dc=>
  run_copy_cells W _ _ ty (ρ.t 9) b (off+i) (n+m-i) dc ⟨vb,voff,none⟩ m vc [v] L.t24 hsz (by rw [hvl]; simp only [Nat.min_def]; split <;> omega)
   (fun j u hj=>by
    obtain rfl:j=0:=by
     have:=(aq.1 hj).1
     simpa using this
    rw [Addr.add_lit,hWc,hW1,World.cell?_setCells_out b _ _ _ _ (fun h _=>absurd h hvb)]
    obtain rfl:v=u:=by simpa using hj
    exact hvs)
   (fun j hj=>by rw [hWc,eh]; exact hsp1 _ (by omega)) (fun j hj=>by rw [hWf,hW1,World.frozen?_setCells,eh]; exact hfz _ (by omega)) (fun u hu=>by rw [br.1 hu]; exact h1v)
 rw [←hW1] at hcp1;rw [←hW1];clear hm hW1
 go_enter L.f22,sr ρ
 go_wp2_with (simp only [hov])
 go_region_law_o (refine step_copy_runI rfl _ _ (ρ.t 24) (ρ.t 24) rfl _ _ (by simp [Act.eval,Act.put]) (by simp [Act.eval,Act.put]) (hcp1 _ _ _) ?_)
 go_wp2_with (at_builtin; refine wpList_copy_runI _ rfl _ _ (ρ.t 24) (ρ.t 24) rfl _ _ rfl rfl (hcp2 _ (fun _=>rfl) (fun _=>rfl) _ _) ?_)
 go_ret
 exact ⟨rfl,rfl⟩
set_option maxHeartbeats 4000000 in
set_option maxRecDepth 100000 in
theorem InsL.end_room (L:InsL P ρ) (b off n c vb voff vc:Nat) (v:Value) (w:World) (hroom:n+1≤c) (hc63:n+1≤9223372036854775807)
 (hsp:(w.cell? ⟨b,off+n,none⟩).isSome=true) (hfz:w.frozen? ⟨b,off+n,none⟩=false) (hvs:w.cell? ⟨vb,voff,none⟩=some v) (h1v:v.oneCell'=true) :
 Calls P (ρ.f 22) #[.slice (some ⟨b,off,none⟩) n c,.int .i64 n,.slice (some ⟨vb,voff,none⟩) 1 vc] w fun e w'=>
  e=.returned (.slice (some ⟨b,off,none⟩) (n+1) c)∧w'=w.setCells b (off+n) [v]:=by
 have t0:=L.t0; have t3:=L.t3; have a3:=L.a3; have z3:=L.z3; have v3:=L.v3; have t4:=L.t4; have a4:=L.a4; have z4:=L.z4; have v4:=L.v4; have a9:=L.a9; have z9:=L.z9; have v9:=L.v9; have t24:=L.t24; have a24:=L.a24; have z24:=L.z24; have v24:=L.v24;have u0:=run_underlying L.t0; have u3:=run_underlying L.t3; have u4:=run_underlying L.t4; have u24:=run_underlying L.t24;have mixed:=L.mixed;obtain ⟨m,hm⟩:∃m:Nat,m=1:=⟨1,rfl⟩;rw [←hm] at hroom hc63 ⊢;have hz1:¬ ((m:Int)=0):=by omega
 have hsrc:Src P 1 (ρ.t 24) (.slice (some ⟨vb,voff,none⟩) m vc) m [v] w:=Src.ofSlice w L.t24 ⟨vb,voff,none⟩ m vc [v] (by rw [hm]; rfl) (fun j u hj=>by
  obtain rfl:j=0:=by
   have:=(aq.1 hj).1
   simpa using this
  obtain rfl:v=u:=by simpa using hj
  rw [Addr.add_lit]; exact hvs) (fun u hu=>by rw [br.1 hu]; exact h1v)
 have h0:∀j,j<([v]:List Value).length→j=0:=fun j hj=>by simpa using hj
 clear hm
 go_enter L.f22,sr ρ
 go_wp2_with (at_builtin; refine wpList_append_room1 _ rfl _ _ (ρ.t 24) (ρ.t 24) rfl (ρ.t 9) _ _ L.t24 L.i9 b off n c rfl _ rfl m [v] hsrc hroom (fun j hj=>by rw [h0 j hj]; exact hsp) (fun j hj=>by rw [h0 j hj]; exact hfz) ?_)
 go_ret
 exact ⟨rfl,rfl⟩
set_option maxHeartbeats 4000000 in
set_option maxRecDepth 100000 in
theorem InsL.end_grow (L:InsL P ρ) (base:Option Addr) (n c vb voff vc:Nat) (cs:List Value) (v:Value) (w:World) (hnc:n≤c) (hroom:c<n+1) (hbig:(n+1)*24≤140737488355328)
 (hcl:cs.length=n) (hnil:base=none→n=0) (hcs:∀a,base=some a→∀j u,cs[j]? = some u→w.cell? (a.add j)=some u) (hvs:w.cell? ⟨vb,voff,none⟩=some v) (h1v:v.oneCell'=true) :
 Calls P (ρ.f 22) #[.slice base n c,.int .i64 n,.slice (some ⟨vb,voff,none⟩) 1 vc] w fun e w'=>
  e=.returned (.slice (some ⟨w.heap.size,0,none⟩) (n+1) (grownCap w (n+1) c (ρ.t 9))) ∧
  w'=w.drew.alloc (.cells ((cs++[v]).toArray++Builtin.zeroCells (Value.slice none 0 0).cells (grownCap w (n+1) c (ρ.t 9)-(n+1))) (ρ.t 9)):=by
 have t0:=L.t0; have t3:=L.t3; have a3:=L.a3; have z3:=L.z3; have v3:=L.v3; have t4:=L.t4; have a4:=L.a4; have z4:=L.z4; have v4:=L.v4; have a9:=L.a9; have z9:=L.z9; have v9:=L.v9; have t24:=L.t24; have a24:=L.a24; have z24:=L.z24; have v24:=L.v24;have u0:=run_underlying L.t0; have u3:=run_underlying L.t3; have u4:=run_underlying L.t4; have u24:=run_underlying L.t24;have mixed:=L.mixed;obtain ⟨i0,hi0,hz0,hzs,hzb⟩:=info_parts L.i9;obtain ⟨m,hm⟩:∃m:Nat,m=1:=⟨1,rfl⟩;rw [←hm] at hroom hbig ⊢;have hz1:¬ ((m:Int)=0):=by omega
 have hsrc:Src P i0.size (ρ.t 24) (.slice (some ⟨vb,voff,none⟩) m vc) m [v] w:=by
  rw [hzs]
  exact Src.ofSlice w L.t24 ⟨vb,voff,none⟩ m vc [v] (by rw [hm]; rfl) (fun j u hj=>by
   obtain rfl:j=0:=by
    have:=(aq.1 hj).1
    simpa using this
   obtain rfl:v=u:=by simpa using hj
   rw [Addr.add_lit]; exact hvs) (fun u hu=>by rw [br.1 hu]; exact h1v)
 have hold:(Builtin.firstCells i0.size n (.slice base n c)).run P w.drew=.ok cs.toArray w.drew:=by
  rw [hzs];cases base with
  | none=>
   have h0:=hnil rfl;subst h0;rw [f9.1 hcl];exact run_firstCells_none w.drew 1 0 0 c
  | some a=>exact run_firstCells_some w.drew 1 n a n c cs (by omega) (fun j u hj=>hcs a rfl j u hj)
 have hrun:∀ty,(Builtin.append_ #[(ρ.t 24),(ρ.t 24)] ty #[.slice base n c,.slice (some ⟨vb,voff,none⟩) m vc]).run P w=_:=fun ty=>
  run_append_grow_src w (ρ.t 24) (ρ.t 24) ty (ρ.t 9) i0 _ L.t24 hi0 hz0 base n c cs hold _ m [v] hsrc hroom (by omega) (by rw [hzb]; exact growslice_fits hroom hbig)
 clear hm
 go_enter L.f22,sr ρ
 cases base with
 | none=>
  have h0:=hnil rfl;subst h0
  go_wp2_with (at_builtin; refine Lib.wpList_append_run _ rfl _ _ _ _ rfl _ _ rfl rfl _ _ (hrun _) ?_)
  go_ret
  exact ⟨rfl,rfl⟩
 | some a=>
  obtain ⟨ab,ao,asp⟩:=a
  go_wp2_with (at_builtin; refine Lib.wpList_append_run _ rfl _ _ _ _ rfl _ _ rfl rfl _ _ (hrun _) ?_)
  all_goals (go_ret; exact ⟨rfl,rfl⟩)
set_option maxHeartbeats 4000000 in
set_option maxRecDepth 100000 in
theorem InsL.grow (L:InsL P ρ) (b off n c i vb voff vc:Nat) (cs:List Value) (v:Value) (w:World) (hi:i<n) (hnc:n≤c) (hroom:c<n+1) (hbig:(n+1)*24≤140737488355328) (hcl:cs.length=n)
 (hcs:∀j u,cs[j]? = some u→w.cell? ⟨b,off+j,none⟩=some u) (hvs:w.cell? ⟨vb,voff,none⟩=some v) (h1c:∀u∈cs,u.oneCell'=true) (h1v:v.oneCell'=true) :
 Calls P (ρ.f 22) #[.slice (some ⟨b,off,none⟩) n c,.int .i64 i,.slice (some ⟨vb,voff,none⟩) 1 vc] w fun e w'=>
  e=.returned (.slice (some ⟨w.heap.size,0,none⟩) (n+1) (grownCap w (n+1) c (ρ.t 9))) ∧
  w'=(((w.alloc (.cells ((cs.take i).toArray++Builtin.zeroCells (Value.slice none 0 0).cells (n+1-i)++Builtin.zeroCells (Value.slice none 0 0).cells (grownCap w (n+1) c (ρ.t 9)-(n+1))) (ρ.t 9))).drew.setCells w.heap.size i [v]).drew).setCells w.heap.size (i+1) (cs.drop i):=by
 have t0:=L.t0; have t3:=L.t3; have a3:=L.a3; have z3:=L.z3; have v3:=L.v3; have t4:=L.t4; have a4:=L.a4; have z4:=L.z4; have v4:=L.v4; have a9:=L.a9; have z9:=L.z9; have v9:=L.v9; have t24:=L.t24; have a24:=L.a24; have z24:=L.z24; have v24:=L.v24;have u0:=run_underlying L.t0; have u3:=run_underlying L.t3; have u4:=run_underlying L.t4; have u24:=run_underlying L.t24;have mixed:=L.mixed;obtain ⟨i0,hi0,hz0,hzs,hzb⟩:=info_parts L.i9;obtain ⟨m,hm⟩:∃m:Nat,m=1:=⟨1,rfl⟩;have hvl:([v]:List Value).length=m:=by rw [hm]; rfl
 rw [←hm] at hroom hbig ⊢;have hm0:0<m:=by omega
 have hz1:¬ ((m:Int)=0):=by omega
 have hz2:¬ ((i:Int)=(n:Int)):=by omega
 have hz3:(c:Int)<(n:Int)+(m:Int):=by omega
 have hsz:=L.one;have hbw:b<w.heap.size:=block_lt_of_cell (hcs 0 _ (b7 (by omega)))
 have hvw:vb<w.heap.size:=block_lt_of_cell hvs;have hkk:(n:Int)+(m:Int)-(i:Int)=((n+m-i:Nat):Int):=by omega
 have hik:i+(n+m-i)=n+m:=by omega
 have hold:(Builtin.firstCells i0.size i (.slice (some ⟨b,off,none⟩) i c)).run P w.drew=.ok (cs.take i).toArray w.drew:=by
  rw [hzs]
  exact run_firstCells_some w.drew 1 i ⟨b,off,none⟩ i c (cs.take i) (by rw [bm]; omega) (fun j u hj=>by
   rw [Addr.add_lit];rw [dg] at hj
   split at hj
   ·exact hcs j u hj
   ·cases hj)
 have hrz:∀ty,(Builtin.append_ #[(ρ.t 24),(ρ.t 3)] ty #[.slice (some ⟨b,off,none⟩) i c,.int .i64 ((n:Int)+(m:Int)-(i:Int))]).run P w =
  .ok (.slice (some ⟨w.heap.size,0,none⟩) (n+m) (grownCap w (n+m) c (ρ.t 9))) (w.drew.alloc (.cells ((cs.take i).toArray++Builtin.zeroCells (Value.slice none 0 0).cells (n+m-i)++Builtin.zeroCells (Value.slice none 0 0).cells (grownCap w (n+m) c (ρ.t 9)-(n+m))) (ρ.t 9))):=by
  intro ty;have h:=Lib.run_append_grow_zeros w (ρ.t 24) (ρ.t 3) ty (ρ.t 9) i0 _ .i64 .i64 L.t24 L.t3 hi0 hz0 (some ⟨b,off,none⟩) i c (cs.take i) hold (n+m-i) (by omega) (by omega) (by omega) (by omega) (by rw [hzb]; omega) (by rw [hzb,hik]; exact growslice_fits hroom hbig)
  rw [hik] at h;rw [hkk];exact h
 obtain ⟨G,hG⟩:∃G,G=grownCap w (n+m) c (ρ.t 9):=⟨_,rfl⟩;obtain ⟨ROW,hROW⟩:∃ROW:Array Value,ROW=(cs.take i).toArray++Builtin.zeroCells (Value.slice none 0 0).cells (n+m-i)++Builtin.zeroCells (Value.slice none 0 0).cells (G-(n+m)):=⟨_,rfl⟩;rw [←hG] at hrz ⊢;rw [←hROW] at hrz ⊢
 have hRl:n+m≤ROW.size:=by
  rw [hROW];simp [Builtin.zeroCells,Value.cells];omega
 obtain ⟨W1,hW1⟩:∃W1,W1=w.drew.alloc (.cells ROW (ρ.t 9)):=⟨_,rfl⟩;rw [←hW1] at hrz
 have hN:∀j,j<n+m→(W1.cell? ⟨w.heap.size,j,none⟩).isSome=true:=fun j hj=>by
  rw [hW1,World.cell?_alloc_at (w:=w.drew) ROW _ w.heap.size j rfl,jd (by omega)]; rfl
 have hNf:∀j,W1.frozen? ⟨w.heap.size,j,none⟩=false:=fun j=>by rw [hW1]; exact World.frozen?_alloc_at (w:=w.drew) ROW _ w.heap.size j rfl
 have hOb:∀j u,w.cell? ⟨b,j,none⟩=some u→W1.cell? ⟨b,j,none⟩=some u:=fun j u h=>by rw [hW1,World.cell?_alloc_past (w:=w.drew) _ b j hbw]; exact h
 have hOv:∀j u,w.cell? ⟨vb,j,none⟩=some u→W1.cell? ⟨vb,j,none⟩=some u:=fun j u h=>by rw [hW1,World.cell?_alloc_past (w:=w.drew) _ vb j hvw]; exact h
 have hcpA:∀(W:World),(∀x,W.cell? x=W1.cell? x)→(∀x,W.frozen? x=W1.frozen? x)→∀ty dc,(Builtin.copy_ #[(ρ.t 24),(ρ.t 24)] ty #[.slice (some ⟨w.heap.size,i,none⟩) (n+m-i) dc,.slice (some ⟨vb,voff,none⟩) m vc]).run P W=.ok (goInt [v].length) (W.setCells w.heap.size i [v]):=fun W hWc hWf ty dc=>
  run_copy_cells W _ _ ty (ρ.t 9) w.heap.size i (n+m-i) dc ⟨vb,voff,none⟩ m vc [v] L.t24 hsz (by rw [hvl]; simp only [Nat.min_def]; split <;> omega)
   (fun j u hj=>by
    obtain rfl:j=0:=by
     have:=(aq.1 hj).1
     simpa using this
    obtain rfl:v=u:=by simpa using hj
    rw [Addr.add_lit,hWc]; exact hOv _ v hvs)
   (fun j hj=>by rw [hWc]; exact hN _ (by omega)) (fun j hj=>by rw [hWf]; exact hNf _) (fun u hu=>by rw [br.1 hu]; exact h1v)
 have hGn:n+m≤G:=by rw [hG]; exact grownCap_ge w _ _ _
 have hG63:G≤9223372036854775807:=by
  have:=grownCap_le_maxLen w (n+m) c (ρ.t 9) (by unfold maxLen; omega)
  rw [←hG] at this;unfold maxLen at this;omega
 have hGi:¬ (G=i):=by omega
 have hGim:¬ (G=i+m):=by omega
 have hci:¬ (c=i):=by omega
 have hbN:b≠w.heap.size:=by omega
 have hdl:(cs.drop i).length=n-i:=by rw [dp,hcl]
 have hcpB:∀(W:World),(∀x,W.cell? x=(W1.setCells w.heap.size i [v]).cell? x)→(∀x,W.frozen? x=(W1.setCells w.heap.size i [v]).frozen? x)→∀ty dc sc,(Builtin.copy_ #[(ρ.t 24),(ρ.t 24)] ty #[.slice (some ⟨w.heap.size,i+m,none⟩) (n+m-(i+m)) dc,.slice (some ⟨b,off+i,none⟩) (n-i) sc]).run P W=.ok (goInt (cs.drop i).length) (W.setCells w.heap.size (i+m) (cs.drop i)):=fun W hWc hWf ty dc sc=>
  run_copy_cells W _ _ ty (ρ.t 9) w.heap.size (i+m) (n+m-(i+m)) dc ⟨b,off+i,none⟩ (n-i) sc (cs.drop i) L.t24 hsz (by rw [hdl]; simp only [Nat.min_def]; split <;> omega)
   (fun j u hj=>by
    rw [Addr.add_lit,hWc,World.cell?_setCells_out _ _ _ _ _ (fun h _=>absurd h hbN),eh]
    exact hOb _ u (hcs (i+j) u (by rwa [gp] at hj)))
   (fun j hj=>by rw [hWc]; exact isSome_setCells _ _ _ _ (fun t ht=>hN _ (by omega)) _ (hN _ (by omega)))
   (fun j hj=>by rw [hWf,World.frozen?_setCells]; exact hNf _) (fun u hu=>h1c u (List.mem_of_mem_drop hu))
 subst hW1;have hE1:∀x,((w.alloc (.cells ROW (ρ.t 9))).drew).cell? x=(w.drew.alloc (.cells ROW (ρ.t 9))).cell? x:=fun x=>rfl
 have hE2:∀x,((w.alloc (.cells ROW (ρ.t 9))).drew).frozen? x=(w.drew.alloc (.cells ROW (ρ.t 9))).frozen? x:=fun x=>rfl
 have hF1:∀x,(((w.alloc (.cells ROW (ρ.t 9))).drew.setCells w.heap.size i [v]).drew).cell? x=((w.drew.alloc (.cells ROW (ρ.t 9))).setCells w.heap.size i [v]).cell? x:=fun x=>rfl
 have hF2:∀x,(((w.alloc (.cells ROW (ρ.t 9))).drew.setCells w.heap.size i [v]).drew).frozen? x=((w.drew.alloc (.cells ROW (ρ.t 9))).setCells w.heap.size i [v]).frozen? x:=fun x=>rfl
 have hw1:IntKind.i64.wrap ((i:Int)+(m:Int))=(i:Int)+(m:Int):=by rw [IntKind.wrap_i64]; omega
 have hb1:(0:Int)≤(i:Int)+(m:Int):=by omega
 have hin:i≤n:=by omega
 have htn:((i:Int)+(m:Int)).toNat=i+m:=by omega
 have hb3:(i:Int)≤(n:Int):=by omega
 clear hkk hik hold hROW hG hRl hm
 go_enter L.f22,sr ρ
 go_wp2_with (first
  | (at_builtin; refine Lib.wpList_append_run _ rfl _ _ _ _ rfl _ _ rfl rfl _ _ (hrz _) ?_)
  | (at_builtin; refine wpList_copy_runI _ rfl _ _ (ρ.t 24) (ρ.t 24) rfl _ _ rfl rfl (hcpA _ hE1 hE2 _ _) ?_)
  | (at_builtin; refine wpList_copy_runI _ rfl _ _ (ρ.t 24) (ρ.t 24) rfl _ _ rfl rfl (hcpB _ (fun _=>rfl) (fun _=>rfl) _ _ _) ?_))
 go_region_law_o (refine step_copy_runI rfl _ _ (ρ.t 24) (ρ.t 24) rfl (.slice (some ⟨w.heap.size,i+m,none⟩) (n+m-(i+m)) (G-(i+m))) (.slice (some ⟨b,off+i,none⟩) (n-i) (c-i)) (by simp [Act.eval,Act.put]) (by simp [Act.eval,Act.put]) (hcpB _ hF1 hF2 (ρ.t 3) (G-(i+m)) (c-i)) ?_)
 go_wp2
 go_ret
 exact ⟨rfl,rfl⟩
end Pe
namespace Pe
open Go
variable {P:Program} {num:Nat→Nat}
def Goes (P:Program) (num:Nat→Nat) (ops:Array Oper) (N np:Nat) (js:List Nat) (s s':St):Prop:=
 ∀(Q:Exit→Act→World→Prop) (rest:List Nat) (C:Cx) (φ:Loc) (a:Act),C.num=num→SR C φ s a.tmps→N≤a.tmps.size →
  (∀C' φ' a',C'.num=num→Runs np C C' φ φ' s.h s'.h→SR C' φ' s' a'.tmps→a'.tmps.size=a.tmps.size→a'.defers=a.defers→wpOps P ops Q rest a' C'.w)→wpOps P ops Q (js++rest) a C.w
theorem Goes.trans {ops:Array Oper} {N np:Nat} {js ks:List Nat} {s s1 s2:St} (h1:Goes P num ops N np js s s1) (h2:Goes P num ops N np ks s1 s2):Goes P num ops N np (js++ks) s s2:=by
 intro Q rest C φ a hC hs hN hK;rw [gw];refine h1 Q (ks++rest) C φ a hC hs hN fun C1 φ1 a1 k1 r1 hs1 z1 d1=>?_
 refine h2 Q rest C1 φ1 a1 k1 hs1 (by rw [z1]; exact hN) fun C2 φ2 a2 k2 r2 hs2 z2 d2=>?_
 exact hK C2 φ2 a2 k2 (r1.trans r2) hs2 (z2.trans z1) (d2.trans d1)
def orA (A B:ap):ap:=fun f vs bs=>match A f vs bs with
 | some r=>some r
 | none=>B f vs bs
theorem Yv {A B:ap} (ha:lq P num A) (hb:lq P num B):lq P num (orA A B):=by
 intro f vs bs ans h;unfold orA at h
 split at h
 ·rename_i r hr
  obtain rfl:=aw h;exact ha f vs bs _ hr
 ·exact hb f vs bs ans h
theorem a27 {A B:ap} {f:Nat} {vs:List V} {bs:Heap} {r:Ans} (h:A f vs bs=some r):orA A B f vs bs=some r:=by
 simp [orA,h]
theorem Yq {A B:ap} {f:Nat} {vs:List V} {bs:Heap} {r:Ans} (h:B f vs bs=some r) (h0:A f vs bs=none):orA A B f vs bs=some r:=by
 simp [orA,h,h0]
end Pe
namespace Pe
open Go Go.Shelf
variable {P:Program} {num:Nat→Nat}
theorem Nv {C:Cx} {φ:Loc} {xs:List D} {v:D} {i n:Nat} {us:List Value} {vv:Value} (hr:HR C φ [.sl false .leaf xs,.sl false .leaf [v]]) (hb:∀b,C.I b→b<C.w.heap.size) (hn:xs.length=n) (hin:i≤n) (hus:RDs C .leaf xs us) (hvv:RDs C .leaf [v] [vv])
 {w':World} (bw:Option Nat) {b' o' c':Nat} (hl:C.w.heap.size≤b'∧bw=none∨φ 0 0=some (b',o')∧bw=some b')
 (hoth:∀b,b<C.w.heap.size→bw≠some b→w'.heap[b]? = C.w.heap[b]?) (hsize:C.w.heap.size≤w'.heap.size) (hos:w'.os=C.w.os) (hout:w'.output=C.w.output) (htape:w'.tape=C.w.tape) (hwd:∀b,Wide C.w w' b)
 {arr:Array Value} {el:TypeId} (hcell:w'.heap[b']? = some (.cells arr el (0,0))) (hins:∀j u,(us.take i++vv::us.drop i)[j]? = some u→arr[o'+j]? = some u) (hcap:o'+c'≤arr.size) (hc':n+1≤c') :
 ∃C' φ',C'.w=w'∧Step C C' φ φ' [.sl false .leaf xs,.sl false .leaf [v]] [Blk.toGone (.sl false .leaf xs),.sl false .leaf [v],.sl false .leaf (xs.take i++v::xs.drop i)] ∧
  Keeps C C' φ φ' [.sl false .leaf xs,.sl false .leaf [v]] [Blk.toGone (.sl false .leaf xs),.sl false .leaf [v],.sl false .leaf (xs.take i++v::xs.drop i)] (fun _=>False) ∧
  RX C' φ' [Blk.toGone (.sl false .leaf xs),.sl false .leaf [v],.sl false .leaf (xs.take i++v::xs.drop i)] (.sl 2 [] 0 (n+1) none) (.slice (some ⟨b',o',none⟩) (n+1) c'):=by
 have hbw:∀b,bw=some b→OwnB φ [.sl false .leaf xs,.sl false .leaf [v]] b:=fun b e=>by
  rcases hl with ⟨_,h⟩ | ⟨h1,h2⟩
  ·rw [h] at e; cases e
  ·obtain rfl:=aw (h2.symm.trans e)
   exact ⟨0,0,_,_,rfl,rfl,by simp [Blk.parts],h1⟩
 have hC:C.Le { C with w:=w' }:=⟨rfl,fun _ g=>g,fun b g=>hoth b (hb b g) fun e=>OwnB.not_I hr (hbw b e) g⟩
 have hb1:∀b o,φ 1 0=some (b,o)→bw≠some b:=fun b o h1 e=>by
  rcases hl with ⟨_,h⟩ | ⟨h0,h2⟩
  ·rw [h] at e; cases e
  ·obtain rfl:=aw (h2.symm.trans e)
   exact hr.inj 0 1 0 0 _ _ _ _ _ (.inl (by omega)) rfl rfl rfl rfl (by simp [Blk.parts]) (by simp [Blk.parts]) h0 h1
 have hnI:¬ C.I b':=fun g=>by
  rcases hl with ⟨h,_⟩ | ⟨_,h2⟩
  ·have:=hb b' g; omega
  ·exact OwnB.not_I hr (hbw b' h2) g
 have hul:=m5 _ _ _ hus;simp only [Sh.size,Nat.mul_one] at hul
 have hrd:RDs { C with w:=w' } .leaf (xs.take i++v::xs.drop i) (us.take i++vv::us.drop i):=by
  have h1:=rm i hus;have h2:=ri i hus;simp only [Sh.size,Nat.mul_one] at h1 h2;exact RDs.mono hC _ _ _ (oo h1 (oo (xs:=[v]) (us:=[vv]) hvv h2))
 have ilen:(xs.take i++v::xs.drop i).length=n+1:=by
  simp only [bo,bm,bu,dp]; omega
 let φ':Loc:=fun q m=>if q=2 then (if m=0 then some (b',o') else none) else φ q m
 have hφ2:φ' 2 0=some (b',o'):=rfl
 have hφo:∀q,q≠2→φ' q=φ q:=fun q hq=>by
  funext m
  show (if q=2 then _ else _)=_
  rw [if_neg hq]
 have st:Step C { C with w:=w' } φ φ' [.sl false .leaf xs,.sl false .leaf [v]] [Blk.toGone (.sl false .leaf xs),.sl false .leaf [v],.sl false .leaf (xs.take i++v::xs.drop i)]:=by
  refine Dy hr hb bw hbw hoth hsize hos hout htape hwd (fun q m=>if q=2 then (if bw=none then none else some (0,0)) else some (q,m)) ?_ ?_ ?_
  ·intro q m B b2 o2 hq hown hm hφq
   match q,hq with
   | 0,hq=>
    obtain rfl:=aw hq;simp [Blk.toGone,Blk.own] at hown
   | 1,hq=>
    obtain rfl:=aw hq;rw [hφo 1 (by omega)] at hφq
    exact ⟨_,o2,rfl,hown,hm,hφq⟩
   | 2,hq=>
    obtain rfl:=aw hq;have hm0:m=0:=by simp [Blk.parts] at hm; omega
    subst hm0
    obtain ⟨rfl,rfl⟩:b'=b2∧o'=o2:=by
     have:=hφ2.symm.trans hφq
     simpa using this
    rcases hl with ⟨h,h2⟩ | ⟨h,h2⟩
    ·subst h2; simpa using h
    ·subst h2; exact ⟨_,o',rfl,rfl,by simp [Blk.parts],h⟩
   | q+3,hq=>simp at hq
  ·intro q m r k B B' hq hoq hm hr' hor hk hσ
   match q,r,hq,hr' with
   | 0,_,hq,_=>
    obtain rfl:=aw hq;simp [Blk.toGone,Blk.own] at hoq
   | _,0,_,hr'=>
    obtain rfl:=aw hr';simp [Blk.toGone,Blk.own] at hor
   | 1,1,_,_=>simpa using hσ
   | 1,2,_,_=>
    simp at hσ
   | 2,1,_,_=>
    simp at hσ
   | 2,2,hq,hr'=>
    obtain rfl:=aw hq;obtain rfl:=aw hr';simp [Blk.parts] at hm hk;exact ⟨rfl,by omega⟩
   | q+3,_,hq,_=>simp at hq
   | _,r+3,_,hr'=>simp at hr'
  ·intro q B hq
   match q,hq with
   | 0,hq=>
    obtain rfl:=aw hq;simp [Blk.toGone,RB]
   | 1,hq=>
    obtain rfl:=aw hq;rw [hφo 1 (by omega)]
    have h1:=hr.blk 1 _ rfl;simp only [RB] at h1 ⊢;cases e:φ 1 0 with
    | none=>rw [e] at h1; exact h1
    | some p=>
     obtain ⟨b,o⟩:=p;rw [e] at h1;obtain ⟨cs,g1,g2⟩:=h1;refine ⟨cs,RDs.mono hC _ _ _ g1,?_⟩;have hlt:=g2.lt;simp only [RAt,b8,if_false] at g2 ⊢;obtain ⟨g2,a2,e2,g3,g4⟩:=g2;exact ⟨g2,a2,e2,(hoth b hlt (hb1 b o e)).trans g3,g4⟩
   | 2,hq=>
    obtain rfl:=aw hq;simp only [RB,hφ2];refine ⟨_,hrd,?_⟩;simp only [RAt,b8,if_false];exact ⟨hnI,arr,el,hcell,hins⟩
   | q+3,hq=>simp at hq
 refine ⟨{ C with w:=w' },φ',rfl,st,fun v u _ g=>?_,?_⟩
 ·refine RX.congr hC v u (fun k hk B hB=>?_) (fun k hk=>?_) hwd g
  ·match k,hB with
   | 0,hB=>
    obtain rfl:=aw hB;exact ⟨_,rfl,Bv _⟩
   | 1,hB=>
    obtain rfl:=aw hB;exact ⟨_,rfl,.refl _⟩
   | k+2,hB=>simp at hB
  ·obtain ⟨B,hB,_⟩:=RX.refs v u g k hk
   refine hφo k ?_
   rintro rfl
   simp at hB
 ·simp only [RX]
  refine ⟨_,0,.leaf,n+1,_,c',rfl,by simp [Blk.run,ilen],by omega,rfl,hc',by simp,fun _=>⟨b',o',arr,el,(0,0),hφ2,by simp,hcell,?_⟩⟩
  simp only [Sh.size]; omega
theorem a3n {C:Cx} {v:D} {cs:List Value} (h:RDs C .leaf [v] cs):∃vv,cs=[vv]:=by
 have:=m5 _ _ _ h;simp only [Sh.size,jh,Nat.mul_one] at this;exact List.length_eq_one_iff.1 this
theorem afb {C:Cx} {xs:List D} {us:List Value} (h:RDs C .leaf xs us):∀u∈us,u.oneCell'=true:=fun u hu=>by rw [Dp]; exact Ha _ _ _ h u hu
theorem D5 {w:World} {b o:Nat} {a:Array Value} {el:TypeId} (h:w.heap[b]? = some (.cells a el (0,0))) {j:Nat} {u:Value} (hu:a[o+j]? = some u):w.cell? ⟨b,o+j,none⟩=some u:=by
 simp [World.cell?,h,hu]
theorem Ik {w:World} {b o:Nat} {vs:List Value} {a:Array Value} {el:TypeId} (h:w.heap[b]? = some (.cells a el (0,0))) (hl:o+vs.length≤a.size) (k:Nat):Wide w (w.setCells b o vs) k:=by
 by_cases hk:k=b
 ·subst hk
  intro a2 el2 fz2 h2;obtain ⟨a',h3,h4,_⟩:=fq k vs o w a el (0,0) h hl;rw [h] at h2;simp only [aa,Obj.cells.injEq] at h2;obtain ⟨rfl,rfl,rfl⟩:=h2;exact ⟨a',el,_,h3,by omega⟩
 ·exact .of_eq (ej b vs o w k hk)
theorem No {ρ:Ren} (L:InsL P ρ) {f:Nat} (hf:ρ.f 22=num f) {xs:List D} {v:D} {i:Nat} {cap:Option Nat} (hi:i≤xs.length) (hbig:xs.length<1000000)
 {C:Cx} {φ:Loc} {us:List Value} (hr:HR C φ [.sl false .leaf xs,.sl false .leaf [v]]) (hb:∀b,C.I b→b<C.w.heap.size) (hv:RXs C φ [.sl false .leaf xs,.sl false .leaf [v]] [.sl 0 [] 0 xs.length cap,.d (.int .i64 i),.sl 1 [] 0 1 (some 1)] us) :
 Sm P (num f) us C φ [.sl false .leaf xs,.sl false .leaf [v]] [Blk.toGone (.sl false .leaf xs),.sl false .leaf [v],.sl false .leaf (xs.take i++v::xs.drop i)] (.sl 2 [] 0 (xs.length+1) none):=by
 simp only [RXs] at hv;obtain ⟨u0,r0,rfl,h0,u1,r1,rfl,h1,u2,r2,rfl,h2,rfl⟩:=hv;obtain rfl:=m9 (s:=⟨[],[.sl false .leaf xs,.sl false .leaf [v]]⟩) h1;simp only [RX] at h0 h2;obtain ⟨B0,base0,s0,m0,a,c,hB0,hrun0,hm0,rfl,hlc,hcap,hloc⟩:=h0;obtain rfl:=aw hB0;simp only [Blk.run,aa,af] at hrun0;obtain ⟨rfl,rfl,rfl⟩:=hrun0;obtain ⟨B1,base1,s1,m1,a1,c1,hB1,hrun1,hm1,rfl,hlc1,hcap1,hloc1⟩:=h2;obtain rfl:=aw hB1;simp only [Blk.run,aa,af] at hrun1;obtain ⟨rfl,rfl,rfl⟩:=hrun1;obtain ⟨vb,vo,varr,vel,vfz,hφ1,rfl,hvw,hvsz⟩:=hloc1 (by omega)
 simp only [Blk.part,eg,bv,Sh.size,Nat.mul_one] at hφ1 hvsz hloc;have hb1:=hr.blk 1 _ rfl;simp only [RB,hφ1] at hb1;obtain ⟨vcs,hvd,hvat⟩:=hb1;obtain ⟨vv,rfl⟩:=a3n hvd;simp only [RAt,b8,if_false] at hvat;obtain ⟨hvnI,varr2,vel2,hvw2,hvc⟩:=hvat
 obtain ⟨rfl,rfl,rfl⟩:varr=varr2∧vel=vel2∧vfz=(0,0):=by
  have:=hvw.symm.trans hvw2
  simpa using this
 have hvcell:C.w.cell? ⟨vb,vo,none⟩=some vv:=by
  have:=D5 (o:=vo) (j:=0) hvw (hvc 0 vv rfl)
  rwa [eg] at this
 have h1v:vv.oneCell'=true:=afb hvd vv (by simp)
 have hbody:Om P (num f):=⟨H1 ρ,hf▸L.f22,Mz ρ,rfl⟩;refine ⟨hbody,?_⟩;rw [←hf];have hval:(⟨vb,vo+0+0*1,none⟩:Addr)=⟨vb,vo,none⟩:=by simp
 -- what is there
 have hold:∃us:List Value,RDs C .leaf xs us∧∀b o,φ 0 0=some (b,o)→¬ C.I b∧∃arr el,C.w.heap[b]? = some (.cells arr el (0,0))∧∀(j:Nat) u,us[j]? = some u→arr[o+j]? = some u:=by
  have g:=hr.blk 0 _ rfl;simp only [RB] at g;cases e:φ 0 0 with
  | none=>
   rw [e] at g;simp only at g;subst g;exact ⟨[],by simp [RDs],fun b o h=>by cases h⟩
  | some q=>
   obtain ⟨b,o⟩:=q;rw [e] at g;obtain ⟨us,g1,g2⟩:=g;simp only [RAt,b8,if_false] at g2;obtain ⟨g2,arr,el,g3,g4⟩:=g2;refine ⟨us,g1,fun b' o' h=>?_⟩
   simp only [aa,af] at h;obtain ⟨rfl,rfl⟩:=h;exact ⟨g2,arr,el,g3,g4⟩
 obtain ⟨us,hus,hat⟩:=hold;have hul:=m5 _ _ _ hus;simp only [Sh.size,Nat.mul_one] at hul;have h1c:=afb hus
 by_cases hroom:xs.length+1≤c
 ·-- in place
  obtain ⟨b,o,arr,el,fz,hφ0,rfl,hw,hsz⟩:=hloc (by omega)
  obtain ⟨hnI,yq,el2,hw2,hcs⟩:=hat b o hφ0
  obtain ⟨rfl,rfl,rfl⟩:arr=yq∧el=el2∧fz=(0,0):=by
   have:=hw.symm.trans hw2
   simpa using this
  have hne:vb≠b:=fun e=>hr.inj 0 1 0 0 _ _ b o vo (.inl (by omega)) rfl rfl rfl rfl (by simp [Blk.parts]) (by simp [Blk.parts]) hφ0 (e▸hφ1)
  have hsp:∀j,j<xs.length+1→(C.w.cell? ⟨b,o+j,none⟩).isSome=true:=fun j hj=>by
   have hlt:o+j<arr.size:=by omega
   simp [World.cell?,hw,hlt]
  have hfz:∀j,C.w.frozen? ⟨b,j,none⟩=false:=fun j=>by simp [World.frozen?,hw]
  have hvfz:∀j,C.w.frozen? ⟨vb,j,none⟩=false:=fun j=>by simp [World.frozen?,hvw]
  by_cases he:i=xs.length
  ·subst he
   refine Calls.mono (L.end_room b o xs.length c vb vo c1 vv C.w hroom (by omega) (hsp _ (by omega)) (hfz _) hvcell h1v) ?_
   rintro e w' ⟨rfl,rfl⟩
   obtain ⟨arr',hw',hsz',hg⟩:=fq b [vv] (o+xs.length) C.w arr el (0,0) hw (by simp; omega)
   obtain ⟨r1,r2,r3,r4⟩:=gz b [vv] (o+xs.length) C.w
   obtain ⟨C',φ',k1,k2,k3,k4⟩:=Nv (i:=xs.length) hr hb rfl (bj _) hus hvd (some b) (.inr ⟨hφ0,rfl⟩) (fun q _ hq=>ej b [vv] (o+xs.length) C.w q fun e=>hq (by rw [e])) (by omega) r2 r3 r4 (Ik hw (by simp; omega)) hw'
    (c':=c) (fun j u hj=>by
     rw [hg]
     by_cases hjl:j<xs.length
     ·rw [if_neg (by omega)]
      rw [bn (by rw [bm]; omega),dg,if_pos hjl] at hj
      exact hcs j u hj
     ·rw [bg (by rw [bm]; omega),bm,show min xs.length us.length=xs.length by omega,List.drop_of_length_le (by omega)] at hj
      have:=(aq.1 hj).1;simp only [jh] at this;rw [if_pos (by simp; omega),show o+j-(o+xs.length)=j-xs.length by omega]
      exact hj) (by omega) (by omega)
   exact ⟨_,C',φ',rfl,k1,k2,k3,k4⟩
  ·have hlt:i<xs.length:=by omega
   have hsa:C.w.shape? vb=some (vel,varr.size):=by simp [World.shape?,hvw]
   have hsb:C.w.shape? b=some (el,arr.size):=by simp [World.shape?,hw]
   refine Calls.mono (L.shift b o xs.length c i vb vo c1 us vv C.w hlt hroom (by omega) hne hul (fun j u hj=>D5 hw (hcs j u hj)) hsp (fun j _=>hfz _) hvcell h1c h1v hsa hsb (by omega) (hvfz _) (hvfz _)) ?_
   rintro e w' ⟨rfl,rfl⟩
   have hwd:C.w.drew.heap[b]? = some (.cells arr el (0,0)):=hw;have hdl:(us.drop i).length=xs.length-i:=by rw [dp,hul]
   obtain ⟨arr1,hw1,hsz1,hg1⟩:=fq b (us.drop i) (o+(i+1)) C.w.drew arr el (0,0) hwd (by omega)
   obtain ⟨r1,r2,r3,r4⟩:=gz b (us.drop i) (o+(i+1)) C.w.drew;obtain ⟨yq,hw2',hsz2,hg2⟩:=fq b [vv] (o+i) _ arr1 el (0,0) hw1 (by simp; omega)
   obtain ⟨q1,q2,q3,q4⟩:=gz b [vv] (o+i) (C.w.drew.setCells b (o+(i+1)) (us.drop i))
   obtain ⟨C',φ',k1,k2,k3,k4⟩:=Nv (i:=i) hr hb rfl hi hus hvd (some b) (.inr ⟨hφ0,rfl⟩) (fun q _ hq=>(ej b [vv] (o+i) _ q fun e=>hq (by rw [e])).trans (ej b (us.drop i) (o+(i+1)) C.w.drew q fun e=>hq (by rw [e]))) (by rw [q1,r1]; exact bj _) (q2.trans r2) (q3.trans r3) (q4.trans r4)
    (fun k=>(Wide.of_eq (w:=C.w) (w':=C.w.drew) rfl).trans ((Ik hwd (by omega) k).trans (Ik hw1 (by simp; omega) k))) hw2'
    (c':=c) (fun j u hj=>by
     rw [hg2,hg1]
     by_cases hj1:j<i
     ·rw [if_neg (by simp; omega),if_neg (by omega)]
      rw [bn (by rw [bm]; omega),dg,if_pos hj1] at hj
      exact hcs j u hj
     ·rw [bg (by rw [bm]; omega),bm,show min i us.length=i by omega] at hj
      by_cases hj2:j=i
      ·subst hj2
       rw [gu] at hj;rw [if_pos (by simp),gu]
       exact hj
      ·obtain ⟨q,rfl⟩:∃q,j=i+1+q:=⟨j-i-1,by omega⟩
       rw [show i+1+q-i=q+1 by omega,jx] at hj
       have hql:=(aq.1 hj).1;rw [if_neg (by simp; omega),if_pos (by omega),show o+(i+1+q)-(o+(i+1))=q by omega]
       exact hj) (by omega) (by omega)
   exact ⟨_,C',φ',rfl,k1,k2,k3,k4⟩
 ·-- a new row
  have hcn:c=xs.length:=by omega
  subst hcn
  have hbase:∀q,a=some q→xs.length=0∨∃b o,q=⟨b,o,none⟩∧φ 0 0=some (b,o):=fun q e=>by
   by_cases h0:xs.length=0
   ·exact .inl h0
   ·obtain ⟨b,o,arr,el,fz,hφ0,hq,_,_⟩:=hloc (by omega)
    exact .inr ⟨b,o,aw (e.symm.trans hq),hφ0⟩
  have hcsa:∀q,a=some q→∀j u,us[j]? = some u→C.w.cell? (q.add j)=some u:=fun q e j u hj=>by
   have hjl:=(aq.1 hj).1;rcases hbase q e with h0 | ⟨b,o,rfl,hφ0⟩
   ·omega
   ·obtain ⟨_,arr,el,hw,hcs⟩:=hat b o hφ0
    rw [kj];exact D5 hw (hcs j u hj)
  have hall:∀(w':World) (arr:Array Value) (el:TypeId),(∀q,q<C.w.heap.size→w'.heap[q]? = C.w.heap[q]?)→C.w.heap.size≤w'.heap.size→w'.os=C.w.os→w'.output=C.w.output→w'.tape=C.w.tape→w'.heap[C.w.heap.size]? = some (.cells arr el (0,0)) →
   (∀j u,(us.take i++vv::us.drop i)[j]? = some u→arr[j]? = some u)→∀c',xs.length+1≤c'→c'≤arr.size →
   ∃u C' φ',Ending.returned (Value.slice (some ⟨C.w.heap.size,0,none⟩) (xs.length+1) c')=.returned u∧C'.w=w'∧Step C C' φ φ' [.sl false .leaf xs,.sl false .leaf [v]] [Blk.toGone (.sl false .leaf xs),.sl false .leaf [v],.sl false .leaf (xs.take i++v::xs.drop i)] ∧
    Keeps C C' φ φ' [.sl false .leaf xs,.sl false .leaf [v]] [Blk.toGone (.sl false .leaf xs),.sl false .leaf [v],.sl false .leaf (xs.take i++v::xs.drop i)] (fun _=>False)∧RX C' φ' [Blk.toGone (.sl false .leaf xs),.sl false .leaf [v],.sl false .leaf (xs.take i++v::xs.drop i)] (.sl 2 [] 0 (xs.length+1) none) u:=fun w' arr el hoth hsize hos hout htape hcell hins c' hc1 hc2=>by
   obtain ⟨C',φ',k1,k2,k3,k4⟩:=Nv (i:=i) hr hb rfl hi hus hvd none (.inl ⟨bj _,rfl⟩) (fun q hq _=>hoth q hq) hsize hos hout htape (Wide.of_lt hoth) hcell (o':=0) (c':=c') (fun j u hj=>by rw [bv]; exact hins j u hj) (by omega) hc1
   exact ⟨_,C',φ',rfl,k1,k2,k3,k4⟩
  by_cases he:i=xs.length
  ·subst he
   refine Calls.mono (L.end_grow a xs.length xs.length vb vo c1 us vv C.w (bj _) (by omega) (by omega) hul (fun e=>by
    by_cases h0:xs.length=0
    ·exact h0
    ·obtain ⟨b,o,arr,el,fz,hφ0,hq,_,_⟩:=hloc (by omega)
     rw [e] at hq; cases hq) hcsa hvcell h1v) ?_
   rintro e w' ⟨rfl,rfl⟩
   have hge:=grownCap_ge C.w (xs.length+1) xs.length (ρ.t 9);refine hall _ _ _ (fun q hq=>df C.w.drew _ _ hq) (by show C.w.heap.size≤(C.w.heap.push _).size; simp) rfl rfl rfl (n8 C.w.drew _) (fun j u hj=>?_) _ hge ?_
   ·rw [bb (by omega),List.drop_of_length_le (by omega)] at hj
    have hjl:=(aq.1 hj).1;rw [io (by simpa using hjl)]
    simpa using hj
   ·simp [Builtin.zeroCells,Value.cells]
    omega
  ·have hlt:i<xs.length:=by omega
   obtain ⟨b,o,arr,el,fz,hφ0,rfl,hw,_⟩:=hloc (by omega)
   obtain ⟨_,yq,el2,hw2,hcs⟩:=hat b o hφ0;refine Calls.mono (L.grow b o xs.length xs.length i vb vo c1 us vv C.w hlt (bj _) (by omega) (by omega) hul (fun j u hj=>D5 hw2 (hcs j u hj)) hvcell h1c h1v) ?_
   rintro e w' ⟨rfl,rfl⟩
   have hge:=grownCap_ge C.w (xs.length+1) xs.length (ρ.t 9);generalize grownCap C.w (xs.length+1) xs.length (ρ.t 9)=G at *;have hdl:(us.drop i).length=xs.length-i:=by rw [dp,hul]
   obtain ⟨ROW,hROW⟩:∃ROW:Array Value,ROW=(us.take i).toArray++Builtin.zeroCells (Value.slice none 0 0).cells (xs.length+1-i)++Builtin.zeroCells (Value.slice none 0 0).cells (G-(xs.length+1)):=⟨_,rfl⟩
   have hRs:ROW.size=G:=by
    rw [hROW];simp [Builtin.zeroCells,Value.cells];omega
   have hR0:∀j u,j<i→us[j]? = some u→ROW[j]? = some u:=fun j u hj hu=>by
    rw [hROW,Array.append_assoc,io (by simp; omega)]
    simp only [List.getElem?_toArray];rw [dg,if_pos hj];exact hu
   rw [←hROW];have hwn:((C.w.alloc (.cells ROW (ρ.t 9))).drew).heap[C.w.heap.size]? = some (.cells ROW (ρ.t 9) (0,0)):=n8 C.w _;obtain ⟨A1,hA1,hs1,hg1⟩:=fq C.w.heap.size [vv] i ((C.w.alloc (.cells ROW (ρ.t 9))).drew) ROW (ρ.t 9) (0,0) hwn (by simp; omega)
   obtain ⟨r1,r2,r3,r4⟩:=gz C.w.heap.size [vv] i ((C.w.alloc (.cells ROW (ρ.t 9))).drew);obtain ⟨A2,hA2,hs2,hg2⟩:=fq C.w.heap.size (us.drop i) (i+1) (((C.w.alloc (.cells ROW (ρ.t 9))).drew.setCells C.w.heap.size i [vv]).drew) A1 (ρ.t 9) (0,0) hA1 (by omega)
   obtain ⟨q1,q2,q3,q4⟩:=gz C.w.heap.size (us.drop i) (i+1) (((C.w.alloc (.cells ROW (ρ.t 9))).drew.setCells C.w.heap.size i [vv]).drew)
   have hsz0:C.w.heap.size≤((C.w.alloc (.cells ROW (ρ.t 9))).drew).heap.size:=by
    show C.w.heap.size≤(C.w.heap.push _).size;simp
   refine hall _ A2 _ (fun q hq=>?_) (by rw [q1]; show _≤((C.w.alloc (.cells ROW (ρ.t 9))).drew.setCells C.w.heap.size i [vv]).heap.size; rw [r1]; exact hsz0) (q2.trans r2) (q3.trans r3) (q4.trans r4) hA2 (fun j u hj=>?_) _ hge (by omega)
   ·refine (ej C.w.heap.size (us.drop i) (i+1) _ q (by omega)).trans ?_
    show ((C.w.alloc (.cells ROW (ρ.t 9))).drew.setCells C.w.heap.size i [vv]).heap[q]? = _;exact (ej C.w.heap.size [vv] i _ q (by omega)).trans (df C.w _ _ hq)
   ·rw [hg2,hg1]
    by_cases hj1:j<i
    ·rw [if_neg (by omega),if_neg (by simp; omega)]
     rw [bn (by rw [bm]; omega),dg,if_pos hj1] at hj
     exact hR0 j u hj1 hj
    ·rw [bg (by rw [bm]; omega),bm,show min i us.length=i by omega] at hj
     by_cases hj2:j=i
     ·subst hj2
      rw [gu] at hj;rw [if_neg (by omega),if_pos (by simp),gu]
      exact hj
     ·obtain ⟨q,rfl⟩:∃q,j=i+1+q:=⟨j-i-1,by omega⟩
      rw [show i+1+q-i=q+1 by omega,jx] at hj
      have hql:=(aq.1 hj).1;rw [if_pos (by omega),show i+1+q-(i+1)=q by omega]
      exact hj
def Y9 (ids:Nat→Bool):ap:=fun f vs bs=>
 if ids f=true then match vs with
  | [.sl 0 [] 0 n _,.d (.int .i64 (.ofNat i)),.sl 1 [] 0 1 (some 1)]=>match bs with
   | [.sl false .leaf xs,.sl false .leaf [v]]=>if n=xs.length∧i≤n∧n<1000000 then some (.sl 2 [] 0 (n+1) none,[Blk.toGone (.sl false .leaf xs),.sl false .leaf [v]],[.sl false .leaf (xs.take i++v::xs.drop i)]) else none
   | _=>none
  | _=>none
 else none
theorem a8o {ids:Nat→Bool} {f:Nat} (h1:ids f=true) {xs:List D} {v:D} {n i:Nat} {cap:Option Nat} (hn:xs.length=n) (hi:i≤n) (hb:n<1000000) :
 Y9 ids f [.sl 0 [] 0 n cap,.d (.int .i64 i),.sl 1 [] 0 1 (some 1)] [.sl false .leaf xs,.sl false .leaf [v]]=some (.sl 2 [] 0 (n+1) none,[Blk.toGone (.sl false .leaf xs),.sl false .leaf [v]],[.sl false .leaf (xs.take i++v::xs.drop i)]):=by
 unfold Y9;rw [if_pos h1];show (if n=xs.length∧i≤n∧n<1000000 then _ else _)=_
 rw [if_pos ⟨hn.symm,hi,hb⟩]
theorem Vn {ids:Nat→Bool} (hids:∀f,ids f=true→∃ρ,InsL P ρ∧ρ.f 22=num f):lq P num (Y9 ids):=by
 intro f vs bs ans h C φ us hC hr hb hv;unfold Y9 at h
 split at h
 ·rename_i hf
  split at h
  ·rename_i n cap i
   split at h
   ·rename_i xs v
    split at h
    ·rename_i hc
     obtain ⟨rfl,h2,h3⟩:=hc;obtain rfl:=aw h;obtain ⟨ρ,L,hρ⟩:=hids f hf;exact ⟨rfl,No L hρ h2 h3 hr hb hv⟩
    ·cases h
   ·cases h
  ·cases h
 ·cases h
end Pe

/-
 Functions of the laws in the small form,printed by a program.
-/
namespace Pe
open Go
def Z20_B:Cd:=
 Irg [Ll 2 (.mv (.c (.bool false)))] [0]
 (Irg [Lw 3 0,
 Ien 4 3,
 Ibc 5 .gtr 4 4096,
 Lw 2 5] [2]
 (.ret))
def Z20:Fn:=
 { nparams:=1,nblk:=0,results:=[.tmp 2],body:=Z20_B }
end Pe

/-
 Functions of the laws in the small form,printed by a program.
-/
namespace Pe
open Go
def Z24_L0:Cd:=
 .seq (Irg [Lw 16 6,
 Lw 17 0,
 Ien 18 17,
 Ibn 19 .lss 16 18] [0,5,6,19]
 (Icd 19
 (.skip)
 (.exit 0)))
 (.seq (.block 1 (.region [Lw 22 5,
 Lw 23 5,
 Ll 24 (.chk (.t 23)),
 Ll 25 (.fldA [.leaf,.leaf,.leaf] (.t 24) 2),
 Ilx 26 25,
 Ll 27 (.bin .mul (.t 26) (.c (.int .u64 1099511628211))),
 Lw 28 0,
 Lw 29 6,
 Iia 30 .leaf 28 29,
 Ilx 31 30,
 Icv 32 .u64 31,
 Ibn 33 .add 27 32,
 Ll 34 (.bin .add (.t 33) (.c (.int .u64 5))),
 Ll 35 (.chk (.t 22)),
 Ll 36 (.fldA [.leaf,.leaf,.leaf] (.t 35) 2),
 Ls (.store false .leaf (.t 36) (.t 34))] [0,5,6]))
 (.region [Lw 20 6,
 Ibc 21 .add 20 1,
 Lw 6 21] [0,5,6]))
def Z24_B:Cd:=
 Irg [Ll 4 (.mv (.c .nilp))] [0,1]
 (Irg [Lw 7 0,
 Lw 8 1,
 Ll 9 (.bin .mul (.t 8) (.c (.int .u64 8219))),
 Lw 10 0,
 Ien 11 10,
 Icv 12 .u64 11,
 Ibn 13 .add 9 12,
 Ll 14 (.build true (.st [.leaf,.leaf,.leaf] [(.sl .leaf []),(.int .i64 0),(.int .u64 0)]) [(0,(.t 7)),(2,(.t 13))]),
 Ibx 15 0 14,
 Lw 5 15] [0,5]
 (.seq (Irg [Imc 6 0] [0,5,6]
 (.block 0 (.loop (Z24_L0))))
 (Irg [Lw 37 5,
 Lw 4 37] [4]
 (.ret))))
def Z24:Fn:=
 { nparams:=2,nblk:=1,results:=[.tmp 4],body:=Z24_B }
def ir_laws_dice_below_B:Cd:=
 Irg [Imc 4 0] [0,1]
 (.seq (Irg [Lw 6 1,
 Ibc 7 .lss 6 1] [0,1,7]
 (Icd 7
 (Irg [Imc 4 0] [4]
 (.ret))
 (.skip)))
 (Irg [Lw 8 0,
 Lw 9 0,
 Ll 10 (.chk (.t 9)),
 Ll 11 (.fldA [.leaf,.leaf,.leaf] (.t 10) 2),
 Ilx 12 11,
 Ll 13 (.bin .mul (.t 12) (.c (.int .u64 6364136223846793005))),
 Ll 14 (.bin .add (.t 13) (.c (.int .u64 1442695040888963407))),
 Ll 15 (.chk (.t 8)),
 Ll 16 (.fldA [.leaf,.leaf,.leaf] (.t 15) 2),
 Ls (.store false .leaf (.t 16) (.t 14))] [0,1]
 (Irg [Lw 17 0,
 Ll 18 (.chk (.t 17)),
 Ll 19 (.fldA [.leaf,.leaf,.leaf] (.t 18) 2),
 Ilx 20 19,
 Ll 21 (.bin .shr (.t 20) (.c (.int .u64 33))),
 Ll 22 (.bin .and (.t 21) (.c (.int .u64 16777215))),
 Icv 23 .i64 22,
 Lw 5 23] [0,1,5]
 (.seq (Irg [Lw 24 0,
 Ll 25 (.chk (.t 24)),
 Ll 26 (.fldA [.leaf,.leaf,.leaf] (.t 25) 1),
 Ilx 27 26,
 Lw 28 0,
 Ll 29 (.chk (.t 28)),
 Ll 30 (.fldA [.leaf,.leaf,.leaf] (.t 29) 0),
 Ilx 31 30,
 Ien 32 31,
 Ibn 33 .lss 27 32] [0,1,5,33]
 (Icd 33
 (Irg [Lw 34 5,
 Lw 35 0,
 Ll 36 (.chk (.t 35)),
 Ll 37 (.fldA [.leaf,.leaf,.leaf] (.t 36) 0),
 Ilx 38 37,
 Lw 39 0,
 Ll 40 (.chk (.t 39)),
 Ll 41 (.fldA [.leaf,.leaf,.leaf] (.t 40) 1),
 Ilx 42 41,
 Iia 43 .leaf 38 42,
 Ilx 44 43,
 Icv 45 .i64 44,
 Ibn 46 .add 34 45,
 Lw 5 46] [0,1,5]
 (.region [Lw 47 0,
 Lw 48 0,
 Ll 49 (.chk (.t 48)),
 Ll 50 (.fldA [.leaf,.leaf,.leaf] (.t 49) 1),
 Ilx 51 50,
 Ibc 52 .add 51 1,
 Ll 53 (.chk (.t 47)),
 Ll 54 (.fldA [.leaf,.leaf,.leaf] (.t 53) 1),
 Ls (.store false .leaf (.t 54) (.t 52))] [1,5]))
 (.skip)))
 (Irg [Lw 55 5,
 Lw 56 1,
 Ibn 57 .rem 55 56,
 Lw 4 57] [4]
 (.ret))))))
def Z21:Fn:=
 { nparams:=2,nblk:=0,results:=[.tmp 4],body:=ir_laws_dice_below_B }
def Z22_L0:Cd:=
 .seq (Irg [Lw 10 8,
 Lw 11 2,
 Ibn 12 .leq 10 11] [0,1,2,6,7,8,12]
 (Icd 12
 (.skip)
 (.exit 0)))
 (.seq (.block 1 (.region [Lw 15 8,
 Lw 16 0,
 Lw 17 1,
 Ll 18 (.call .heap [] (.f F21) [(.t 16),(.t 17)]),
 Icv 19 .u8 18,
 Iis 20 64 .leaf 7 15,
 Ls (.store false .leaf (.t 20) (.t 19))] [0,1,2,6,7,8]))
 (.region [Lw 13 8,
 Ibc 14 .add 13 1,
 Lw 8 14] [0,1,2,6,7,8]))
def Z22_B:Cd:=
 Irg [Ibz 6 0] [0,1,2,6]
 (Irg [Iz6 9,
 Ibz 7 1,
 Ls (.store false Sx6 (.t 7) (.t 9))] [0,1,2,6,7]
 (.seq (Irg [Imc 8 0] [0,1,2,6,7,8]
 (.block 0 (.loop (Z22_L0))))
 (Irg [Ipx 21 7,
 Ls (.store false Sx6 (.t 6) (.t 21))] [6]
 (.ret))))
def Z22:Fn:=
 { nparams:=3,nblk:=2,results:=[.cell 6 Sx6],body:=Z22_B }
end Pe

/-
 Functions of the laws in the small form,printed by a program.
-/
namespace Pe
open Go
def Z23_L0:Cd:=
 .seq (Irg [Lw 11 5,
 Lw 12 0,
 Ien 13 12,
 Ibn 14 .lss 11 13] [0,1,5,14]
 (Icd 14
 (.skip)
 (.exit 0)))
 (.seq (.block 1 (Irg [Lw 17 0,
 Lw 18 5,
 Iia 19 Sx6 17 18,
 Ipx 20 19,
 Lw 21 1,
 Lw 22 5,
 Iia 23 Sx6 21 22,
 Ipx 24 23,
 Ll 25 (.eqv true (.arr 64 .leaf .int) (.t 20) (.t 24))] [0,1,5,25]
 (Icd 25
 (Irg [Ll 4 (.mv (.c (.bool false)))] [4]
 (.ret))
 (.skip))))
 (.region [Lw 15 5,
 Ibc 16 .add 15 1,
 Lw 5 16] [0,1,5]))
def Z23_B:Cd:=
 Irg [Ll 4 (.mv (.c (.bool false)))] [0,1]
 (.seq (Irg [Lw 6 0,
 Ien 7 6,
 Lw 8 1,
 Ien 9 8,
 Ibn 10 .neq 7 9] [0,1,10]
 (Icd 10
 (Irg [Ll 4 (.mv (.c (.bool false)))] [4]
 (.ret))
 (.skip)))
 (.seq (Irg [Imc 5 0] [0,1,5]
 (.block 0 (.loop (Z23_L0))))
 (Irg [Ll 4 (.mv (.c (.bool true)))] [4]
 (.ret))))
def Z23:Fn:=
 { nparams:=2,nblk:=0,results:=[.tmp 4],body:=Z23_B }
end Pe

/-
 Functions of the program in the small form,printed by a program.
-/
namespace Pe
open Go
def Z1a_B:Cd:=
 Irg [Ll 6 (.mv (.c (.sl .leaf [])))] [0,1,2]
 (Irg [Lw 10 0,
 Lw 11 0,
 Lw 12 1,
 Lw 13 2,
 Ll 14 (Opx F1o [(.t 11),(.t 12),(.t 13)]),
 Lw 15 0,
 Lw 16 1,
 Lw 17 2,
 Ll 18 (Opx F17 [(.t 15),(.t 16),(.t 17)]),
 Ll 19 (Opx F14 [(.t 10),(.t 14),(.t 18)]),
 Lw 9 19,
 Iex 20 9 0,
 Iex 21 9 1,
 Lw 7 20,
 Lw 8 21] [7]
 (Irg [Lw 22 7,
 Lw 6 22] [6]
 (.ret)))
def Z1a:Fn:=
 { nparams:=3,nblk:=0,results:=[.tmp 6],body:=Z1a_B }
def Z1j_B:Cd:=
 Irg [Ll 3 (.mv (.c (.bool false)))] [0,1]
 (Irg [Lw 4 0,
 Ien 5 4,
 Ilx 6 1,
 Ien 7 6,
 Ibn 8 .lss 5 7,
 Lw 3 8] [3]
 (.ret))
def Z1j:Fn:=
 { nparams:=2,nblk:=0,results:=[.tmp 3],body:=Z1j_B }
def Z1i_L0:Cd:=
 Irg [Ibn 27 .lss 26 25] [0,1,5,6,7,8,9,24,25,26,27]
 (.seq (Icd 27
 (.skip)
 (.exit 2))
 (.seq (.block 3 (Irg [Lw 28 26,
 Iia 29 .leaf 24 26,
 Ilx 30 29,
 Lw 10 28,
 Lw 11 30] [0,1,5,6,7,8,9,10,11,24,25,26]
 (Irg [Ilx 31 8,
 Lw 32 11,
 Ien 33 32,
 Ibc 34 .sub 33 1,
 Ll 35 (Ofx F1r [(.t 31),(.t 34)]),
 Ll 36 (.un .neg (.t 35)),
 Lw 37 0,
 Lw 38 11,
 Ll 39 (Ofx F1u [(.t 38)]),
 Ll 40 (Ofx F18 [(.t 37),(.t 39)]),
 Ibn 41 .mul 36 40,
 Lw 12 41] [0,1,5,6,7,8,9,10,11,12,24,25,26]
 (.region [Lw 42 0,
 Ilx 43 8,
 Lw 44 11,
 Lw 45 12,
 Ll 46 (Opx F13 [(.t 42),(.t 43),(.t 44),(.t 45)]),
 Lw 47 0,
 Lw 48 9,
 Lw 49 6,
 Lw 50 10,
 Iia 51 .leaf 49 50,
 Ilx 52 51,
 Lw 53 12,
 Ll 54 (.call .data [] (.f F13) [(.t 47),(.t 48),(.t 52),(.t 53)]),
 Ls (.store false .leaf (.t 8) (.t 46)),
 Lw 9 54] [0,1,5,6,7,8,9,24,25,26]))))
 (.region [Ibc 55 .add 26 1,
 Lw 26 55] [0,1,5,6,7,8,9,24,25,26])))
def Z1i_L1:Cd:=
 .seq (.block 1 (Irg [Lw 16 1,
 Ll 17 (.call .heap [] (.t 16) []),
 Ll 8 (.box false 2 (.c (.sl .leaf []))),
 Ls (.store false .leaf (.t 8) (.t 17))] [0,1,5,6,7,8]
 (Irg [Lw 18 7,
 Ibc 19 .add 18 1,
 Ll 20 (.mkSl 3 .leaf (.int .i64 0) 8 (.t 19) (.t 19)),
 Lw 9 20] [0,1,5,6,7,8,9]
 (Irg [Lw 21 9,
 Lw 22 7,
 Iia 23 .leaf 21 22,
 Ls (.store false .leaf (.t 23) (Acx 1))] [0,1,5,6,7,8,9]
 (.seq (Irg [Lw 24 5,
 Ien 25 24,
 Imc 26 0] [0,1,5,6,7,8,9,24,25,26]
 (.block 2 (.loop (Z1i_L0))))
 (.seq (Irg [Ilx 56 8,
 Ien 57 56,
 Ibc 58 .eql 57 0] [0,1,5,6,7,8,9,58]
 (Icd 58
 (Irg [Lw 59 9,
 Lw 4 59] [4]
 (.ret))
 (.skip)))
 (Irg [Lw 60 5,
 Ll 61 (.mkFn F1j [] [(.t 8)]),
 Ll 62 (Ofx F2e [(.t 60),(.t 61)]),
 Lw 13 62] [0,1,5,6,7,8,9,13]
 (.seq (Irg [Lw 63 13,
 Ibc 64 .lss 63 0] [0,1,5,6,7,8,9,13,64]
 (Icd 64
 (.region [Lw 65 5,
 Ien 66 65,
 Lw 13 66] [0,1,5,6,7,8,9,13])
 (.skip)))
 (.region [Lw 67 5,
 Lw 68 13,
 Ilx 69 8,
 Ll 70 (.buildSl false 4 .leaf (.sl .leaf []) 1 [(0,(.t 69))]),
 Ll 71 (.call .heap [5,6] (.f F2f) [(.t 67),(.t 68),(.t 70)]),
 Lw 72 6,
 Lw 73 13,
 Lw 74 9,
 Ll 75 (.buildSl true 7 .leaf (.sl .leaf []) 1 [(0,(.t 74))]),
 Ll 76 (.call .heap [8,9] (.f F2f) [(.t 72),(.t 73),(.t 75)]),
 Lw 5 71,
 Lw 6 76] [0,1,5,6,7])))))))))
 (.region [Lw 14 7,
 Ibc 15 .add 14 1,
 Lw 7 15] [0,1,5,6,7])
def Z1i_B:Cd:=
 Irg [Ll 4 (.mv (.c (.sl .leaf [])))] [0,1]
 (Irg [Ll 5 (.nilOwn 0 .leaf),
 Ll 6 (.nilOwn 1 .leaf)] [0,1,5,6]
 (Irg [Imc 7 0] [0,1,5,6,7]
 (.block 0 (.loop (Z1i_L1)))))
def Z1i:Fn:=
 { nparams:=2,nblk:=10,results:=[.tmp 4],body:=Z1i_B }
def Z1m_B:Cd:=
 Irg [Ll 6 (.mv (.c (.sl .leaf [])))] [0,1,2]
 (Irg [Lw 7 0,
 Lw 8 0,
 Lw 9 0,
 Ll 10 (Opx Fu []),
 Lw 11 1,
 Ll 12 (Opx F1o [(.t 9),(.t 10),(.t 11)]),
 Lw 13 0,
 Lw 14 1,
 Lw 15 0,
 Lw 16 2,
 Ll 17 (Opx F1f [(.t 13),(.t 14),(.t 15),(.t 16)]),
 Ll 18 (Opx F13 [(.t 8),(.t 12),(.t 17),(Acx 1)]),
 Lw 19 2,
 Ll 20 (Opx F1k [(.t 7),(.t 18),(.t 19)]),
 Lw 6 20] [6]
 (.ret))
def Z1m:Fn:=
 { nparams:=3,nblk:=0,results:=[.tmp 6],body:=Z1m_B }
def Z11_B:Cd:=
 Irg [Ll 3 (.mv (.c (.sl .leaf [])))] [0,1,2]
 (Irg [Ilx 5 0,
 Lw 4 5] [0,1,2,4]
 (Irg [Ilx 6 1,
 Ilx 7 0,
 Ilx 8 2,
 Ll 9 (Opx F1m [(.t 6),(.t 7),(.t 8)]),
 Ls (.store false .leaf (.t 0) (.t 9))] [4]
 (Irg [Lw 10 4,
 Lw 3 10] [3]
 (.ret))))
def Z11:Fn:=
 { nparams:=3,nblk:=0,results:=[.tmp 3],body:=Z11_B }
def Z10_B:Cd:=
 Irg [Ibx 3 0 0,
 Ibx 4 1 1,
 Ibx 5 2 2,
 Ll 6 (.mv (.c (.sl .leaf [])))] [3,4,5]
 (Irg [Ilx 7 3,
 Ilx 8 4,
 Ilx 9 5,
 Ll 10 (Opx F1k [(.t 7),(.t 8),(.t 9)]),
 Ls (.store false .leaf (.t 4) (.t 10))] [3,4,5]
 (Irg [Ilx 11 3,
 Ll 12 (.mkFn F11 [] [(.t 4),(.t 3),(.t 5)]),
 Ll 13 (.call .heap [3] (.f F1i) [(.t 11),(.t 12)]),
 Lw 6 13] [6]
 (.ret)))
def Z10:Fn:=
 { nparams:=3,nblk:=4,results:=[.tmp 6],body:=Z10_B }
def Z8_L0:Cd:=
 Irg [Ibn 25 .lss 24 23] [4,7,8,9,23,24,25]
 (.seq (Icd 25
 (.skip)
 (.exit 0))
 (.seq (.block 1 (Irg [Lw 26 24,
 Lw 10 26] [4,7,8,9,10,23,24]
 (.region [Lw 27 7,
 Lw 28 9,
 Lw 29 7,
 Lw 30 7,
 Lw 31 7,
 Lw 32 10,
 Ll 33 (Ofx F1c [(.t 31),(.t 32),(Acx 1099511627776)]),
 Ll 34 (Opx F1d [(.t 30),(.t 33)]),
 Lw 35 8,
 Ll 36 (Opx F10 [(.t 29),(.t 34),(.t 35)]),
 Ll 37 (.call .data [] (.f F1a) [(.t 27),(.t 28),(.t 36)]),
 Lw 9 37] [4,7,8,9,23,24])))
 (.region [Ibc 38 .add 24 1,
 Lw 24 38] [4,7,8,9,23,24])))
def Z8_B:Cd:=
 Irg [Ibx 3 0 1,
 Ibz 4 1,
 Imc 5 0] [0,3,4]
 (.seq (Irg [Lw 11 0,
 Ipx 12 3,
 Ll 13 (.call .heap [] (.f Fv) [(.t 11),(.t 12),(.c (.nils Sx6))]),
 Lw 6 13] [0,3,4,6]
 (Irg [Lw 14 6,
 Ibc 15 .neq 14 0] [0,3,4,6,15]
 (Icd 15
 (Irg [Iz6 16,
 Lw 17 6,
 Ls (.store false Sx6 (.t 4) (.t 16)),
 Lw 5 17] [4,5]
 (.ret))
 (.skip))))
 (Irg [Lw 18 0,
 Ipx 19 3,
 Ll 20 (Opx F1q [(.t 19)]),
 Lw 7 18,
 Lw 8 20] [4,7,8]
 (Irg [Ll 21 (.buildSl false 2 .leaf (.int .i64 0) 1 [(0,(Acx 1))]),
 Lw 9 21] [4,7,8,9]
 (.seq (Irg [Lw 22 8,
 Ll 23 (Ofx F1s [(.t 22)]),
 Imc 24 0] [4,7,8,9,23,24]
 (.block 0 (.loop (Z8_L0))))
 (Irg [Lw 39 9,
 Ll 40 (Ofx F1x [(.t 39)]),
 Iex 41 40 0,
 Iex 42 40 1,
 Ls (.store false Sx6 (.t 4) (.t 41)),
 Lw 5 42] [4,5]
 (.ret))))))
def Z8:Fn:=
 { nparams:=2,nblk:=3,results:=[.cell 4 Sx6,.tmp 5],body:=Z8_B }
def Zz_L0:Cd:=
 Irg [Ibn 19 .lss 18 17] [0,2,3,9,16,17,18,19]
 (.seq (Icd 19
 (.skip)
 (.exit 0))
 (.seq (.block 1 (Irg [Iia 20 .leaf 16 18,
 Ilx 21 20,
 Lw 11 21] [0,2,3,9,11,16,17,18]
 (Irg [Lw 22 0,
 Lw 23 9,
 Lw 24 2,
 Lw 25 11,
 Ll 26 (Opx F13 [(.t 22),(.t 23),(.t 24),(.t 25)]),
 Lw 9 26] [0,2,3,9,16,17,18]
 (.region [Lw 27 0,
 Lw 28 2,
 Lw 29 3,
 Ll 30 (Opx F1m [(.t 27),(.t 28),(.t 29)]),
 Lw 2 30] [0,2,3,9,16,17,18]))))
 (.region [Ibc 31 .add 18 1,
 Lw 18 31] [0,2,3,9,16,17,18])))
def Zz_B:Cd:=
 Irg [Ll 8 (.mv (.c (.sl .leaf [])))] [0,1,2,3]
 (Irg [Lw 12 0,
 Lw 13 2,
 Lw 14 3,
 Ll 15 (Opx F1k [(.t 12),(.t 13),(.t 14)]),
 Lw 2 15] [0,1,2,3]
 (Irg [Ll 9 (.mv (.c (.sl .leaf [])))] [0,1,2,3,9]
 (.seq (Irg [Lw 16 1,
 Ien 17 16,
 Imc 18 0] [0,2,3,9,16,17,18]
 (.block 0 (.loop (Zz_L0))))
 (Irg [Lw 32 9,
 Lw 8 32] [8]
 (.ret)))))
def Zz:Fn:=
 { nparams:=4,nblk:=0,results:=[.tmp 8],body:=Zz_B }
def Z5_B:Cd:=
 Irg [Ibx 5 0 1,
 Ibx 6 1 2,
 Ibx 7 2 3,
 Ibz 8 3,
 Imc 9 0] [0,5,6,7,8]
 (.seq (Irg [Lw 11 0,
 Ipx 12 7,
 Ipx 13 5,
 Ipx 14 6,
 Ll 15 (.buildSl false 4 Sx6 (.arr 64 .leaf z64) 2 [(0,(.t 13)),(1,(.t 14))]),
 Ll 16 (.call .heap [] (.f Fv) [(.t 11),(.t 12),(.t 15)]),
 Lw 10 16] [0,5,6,7,8,10]
 (Irg [Lw 17 10,
 Ibc 18 .neq 17 0] [0,5,6,7,8,10,18]
 (Icd 18
 (Irg [Iz6 19,
 Lw 20 10,
 Ls (.store false Sx6 (.t 8) (.t 19)),
 Lw 9 20] [8,9]
 (.ret))
 (.skip))))
 (Irg [Lw 21 0,
 Ipx 22 5,
 Ll 23 (Opx F1q [(.t 22)]),
 Ipx 24 6,
 Ll 25 (Opx F1q [(.t 24)]),
 Ipx 26 7,
 Ll 27 (Opx F1q [(.t 26)]),
 Ll 28 (Opx Fz [(.t 21),(.t 23),(.t 25),(.t 27)]),
 Ll 29 (Ofx F1x [(.t 28)]),
 Iex 30 29 0,
 Iex 31 29 1,
 Ls (.store false Sx6 (.t 8) (.t 30)),
 Lw 9 31] [8,9]
 (.ret)))
def Z5:Fn:=
 { nparams:=4,nblk:=5,results:=[.cell 8 Sx6,.tmp 9],body:=Z5_B }
end Pe

/-
 Functions of the laws in the small form,printed by a program.
-/
namespace Pe
open Go
def Z1z_B:Cd:=
 Irg [Ll 2 (.mv (.c (.bool false)))] [0]
 (.seq (Irg [Lw 42 0,
 Ll 43 (Ofx F20 [(.t 42)])] [0,43]
 (Icd 43
 (Irg [Ll 2 (.mv (.c (.bool true)))] [2]
 (.ret))
 (.skip)))
 (Irg [Lw 44 0,
 Ll 45 (.call .heap [0] (.f F24) [(.t 44),(.c (.int .u64 9901))]),
 Lw 3 45] [3]
 (Irg [Ll 46 (.buildSl false 1 .leaf (.int .i64 0) 3 [(0,(Acx 2)),(1,(Acx 3)),(2,(Acx 5))]),
 Lw 47 3,
 Ll 48 (.call .heap [] (.f F21) [(.t 47),(Acx 3)]),
 Iia 49 .leaf 46 48,
 Ilx 50 49,
 Lw 4 50] [3,4]
 (Irg [Lw 51 3,
 Ll 52 (.call .heap [] (.f F21) [(.t 51),(Acx 2)]),
 Ll 53 (.bin .add (Acx 1) (.t 52)),
 Lw 5 53] [3,4,5]
 (Irg [Lw 55 4,
 Lw 56 5,
 Ll 57 (Opx F9 [(.t 55),(.t 56)]),
 Lw 54 57,
 Iex 58 54 0,
 Iex 59 54 1,
 Lw 6 58,
 Lw 7 59] [3,4,5,6,7]
 (Irg [Lw 61 4,
 Lw 62 5,
 Ll 63 (Opx F30 [(.t 61),(.t 62)]),
 Lw 60 63,
 Iex 64 60 0,
 Iex 65 60 1,
 Lw 8 64,
 Lw 9 65] [3,4,5,6,7,8,9]
 (.seq (Irg [Lw 66 7,
 Lw 67 9,
 Ibn 68 .neq 66 67,
 Lw 69 68,
 Lx 70 6 69 false,
 Lx 71 8 69 false,
 Lg 72 (Ofx F23 [(.t 70),(.t 71)]) 69 false,
 Lg 73 (.un .not (.t 72)) 69 false,
 Ior 74 69 73,
 Lw 75 74,
 Lx 76 7 75 false,
 Lg 77 (.bin .neq (.t 76) (Acx 0)) 75 false,
 Ior 78 75 77,
 Lw 79 78,
 Lx 80 6 79 false,
 Lg 81 (.len false (.t 80)) 79 false,
 Lg 82 (.bin .eql (.t 81) (Acx 0)) 79 false,
 Ior 83 79 82] [3,4,5,6,83]
 (Icd 83
 (Irg [Ll 2 (.mv (.c (.bool false)))] [2]
 (.ret))
 (.skip)))
 (Irg [Lw 84 6,
 Lw 85 3,
 Lw 86 6,
 Ien 87 86,
 Ll 88 (.call .heap [] (.f F21) [(.t 85),(.t 87)]),
 Iia 89 Sx6 84 88,
 Ipx 90 89,
 Ibz 10 2,
 Ls (.store false Sx6 (.t 10) (.t 90))] [3,4,5,10]
 (Irg [Lw 92 4,
 Ipx 93 10,
 Ll 94 (Ofx F8 [(.t 92),(.t 93)]),
 Lw 91 94,
 Iex 95 91 0,
 Iex 96 91 1,
 Ibz 11 3,
 Ls (.store false Sx6 (.t 11) (.t 95)),
 Lw 12 96] [3,4,5,10,11,12]
 (Irg [Lw 98 4,
 Ipx 99 10,
 Ll 100 (Ofx F2z [(.t 98),(.t 99)]),
 Lw 97 100,
 Iex 101 97 0,
 Iex 102 97 1,
 Ibz 13 4,
 Ls (.store false Sx6 (.t 13) (.t 101)),
 Lw 14 102] [3,4,5,10,11,12,13,14]
 (Irg [Lw 104 4,
 Ipx 105 10,
 Ll 106 (.build false (.arr 64 .leaf z64) [(0,(.c (.int .u8 1)))]),
 Ll 107 (Ofx Fg [(.t 104),(.t 105),(.t 106)]),
 Lw 103 107,
 Iex 108 103 0,
 Iex 109 103 1,
 Ibz 15 5,
 Ls (.store false Sx6 (.t 15) (.t 108)),
 Lw 16 109] [3,4,5,10,11,12,13,14,15,16]
 (.seq (Irg [Lw 110 12,
 Lw 111 14,
 Ibn 112 .neq 110 111,
 Lw 113 112,
 Lg 114 (.load Sx6 (.t 11)) 113 false,
 Lg 115 (.load Sx6 (.t 13)) 113 false,
 Lg 116 (.eqv true (.arr 64 .leaf .int) (.t 114) (.t 115)) 113 false,
 Ior 117 113 116,
 Lw 118 117,
 Lx 119 12 118 false,
 Lg 120 (.bin .neq (.t 119) (Acx 0)) 118 false,
 Ior 121 118 120,
 Lw 122 121,
 Lx 123 16 122 false,
 Lg 124 (.bin .neq (.t 123) (Acx 0)) 122 false,
 Ior 125 122 124,
 Lw 126 125,
 Lg 127 (.load Sx6 (.t 11)) 126 false,
 Lg 128 (.load Sx6 (.t 15)) 126 false,
 Lg 129 (.eqv true (.arr 64 .leaf .int) (.t 127) (.t 128)) 126 false,
 Ior 130 126 129] [3,4,5,10,130]
 (Icd 130
 (Irg [Ll 2 (.mv (.c (.bool false)))] [2]
 (.ret))
 (.skip)))
 (Irg [Lw 132 4,
 Ipx 133 10,
 Ll 134 (Ofx Ff [(.t 132),(.t 133)]),
 Lw 131 134,
 Iex 135 131 0,
 Iex 136 131 1,
 Ibz 17 6,
 Ls (.store false Sx6 (.t 17) (.t 135)),
 Lw 18 136] [3,4,5,10,17,18]
 (Irg [Lw 138 4,
 Ipx 139 17,
 Ipx 140 10,
 Ll 141 (Ofx Fe [(.t 138),(.t 139),(.t 140)]),
 Lw 137 141,
 Iex 142 137 0,
 Iex 143 137 1,
 Lw 19 142,
 Lw 20 143] [3,4,5,10,18,19,20]
 (Irg [Lw 145 4,
 Ipx 146 10,
 Ll 147 (Ofx F7 [(.t 145),(.t 146)]),
 Lw 144 147,
 Iex 148 144 0,
 Iex 149 144 1,
 Lw 21 148,
 Lw 22 149] [3,4,5,10,18,19,20,21,22]
 (.seq (Irg [Lw 150 18,
 Ibc 151 .neq 150 0,
 Lw 152 151,
 Lx 153 20 152 false,
 Lg 154 (.bin .neq (.t 153) (Acx 0)) 152 false,
 Ior 155 152 154,
 Lw 156 155,
 Lx 157 22 156 false,
 Lg 158 (.bin .neq (.t 157) (Acx 0)) 156 false,
 Ior 159 156 158,
 Lw 160 159,
 Lx 161 19 160 false,
 Lx 162 21 160 false,
 Lg 163 (.bin .neq (.t 161) (.t 162)) 160 false,
 Ior 164 160 163] [3,4,5,10,164]
 (Icd 164
 (Irg [Ll 2 (.mv (.c (.bool false)))] [2]
 (.ret))
 (.skip)))
 (Irg [Lw 165 3,
 Lw 166 4,
 Ll 167 (.call .heap [] (.f F22) [(.t 165),(.t 166),(Acx 2)]),
 Lw 168 3,
 Lw 169 4,
 Ll 170 (.call .heap [] (.f F22) [(.t 168),(.t 169),(Acx 2)]),
 Lw 171 3,
 Lw 172 4,
 Lw 173 5,
 Ibc 174 .sub 173 1,
 Ll 175 (.call .heap [] (.f F22) [(.t 171),(.t 172),(.t 174)]),
 Ibz 23 7,
 Ibz 24 8,
 Ibz 25 9,
 Ls (.store false Sx6 (.t 23) (.t 167)),
 Ls (.store false Sx6 (.t 24) (.t 170)),
 Ls (.store false Sx6 (.t 25) (.t 175))] [4,10,23,24,25]
 (Irg [Lw 177 4,
 Ipx 178 23,
 Ipx 179 24,
 Ll 180 (Ofx F6 [(.t 177),(.t 178),(.t 179)]),
 Lw 176 180,
 Iex 181 176 0,
 Iex 182 176 1,
 Ibz 26 10,
 Ls (.store false Sx6 (.t 26) (.t 181)),
 Lw 27 182] [4,10,23,24,25,26,27]
 (Irg [Lw 184 4,
 Ipx 185 23,
 Ipx 186 24,
 Ll 187 (Ofx Fc [(.t 184),(.t 185),(.t 186)]),
 Lw 183 187,
 Iex 188 183 0,
 Iex 189 183 1,
 Ibz 28 11,
 Ls (.store false Sx6 (.t 28) (.t 188)),
 Lw 29 189] [4,10,23,24,25,26,27,28,29]
 (Irg [Lw 191 4,
 Ipx 192 23,
 Ipx 193 25,
 Ipx 194 10,
 Ll 195 (Ofx F5 [(.t 191),(.t 192),(.t 193),(.t 194)]),
 Lw 190 195,
 Iex 196 190 0,
 Iex 197 190 1,
 Ibz 30 12,
 Ls (.store false Sx6 (.t 30) (.t 196)),
 Lw 31 197] [4,10,23,24,25,26,27,28,29,30,31]
 (Irg [Lw 199 4,
 Ipx 200 24,
 Ipx 201 25,
 Ipx 202 10,
 Ll 203 (Ofx F5 [(.t 199),(.t 200),(.t 201),(.t 202)]),
 Lw 198 203,
 Iex 204 198 0,
 Iex 205 198 1,
 Ibz 32 13,
 Ls (.store false Sx6 (.t 32) (.t 204)),
 Lw 33 205] [4,10,23,25,26,27,28,29,30,31,32,33]
 (Irg [Lw 207 4,
 Ipx 208 26,
 Ipx 209 25,
 Ipx 210 10,
 Ll 211 (Ofx F5 [(.t 207),(.t 208),(.t 209),(.t 210)]),
 Lw 206 211,
 Iex 212 206 0,
 Iex 213 206 1,
 Ibz 34 14,
 Ls (.store false Sx6 (.t 34) (.t 212)),
 Lw 35 213] [4,10,23,25,27,28,29,30,31,32,33,34,35]
 (Irg [Lw 215 4,
 Ipx 216 30,
 Ipx 217 32,
 Ll 218 (Ofx F6 [(.t 215),(.t 216),(.t 217)]),
 Lw 214 218,
 Iex 219 214 0,
 Iex 220 214 1,
 Ibz 36 15,
 Ls (.store false Sx6 (.t 36) (.t 219)),
 Lw 37 220] [4,10,23,25,27,28,29,31,32,33,34,35,36,37]
 (.seq (Irg [Lw 221 27,
 Ibc 222 .neq 221 0,
 Lw 223 222,
 Lx 224 29 223 false,
 Lg 225 (.bin .neq (.t 224) (Acx 0)) 223 false,
 Ior 226 223 225,
 Lw 227 226,
 Lx 228 31 227 false,
 Lg 229 (.bin .neq (.t 228) (Acx 0)) 227 false,
 Ior 230 227 229,
 Lw 231 230,
 Lx 232 33 231 false,
 Lg 233 (.bin .neq (.t 232) (Acx 0)) 231 false,
 Ior 234 231 233,
 Lw 235 234,
 Lx 236 35 235 false,
 Lg 237 (.bin .neq (.t 236) (Acx 0)) 235 false,
 Ior 238 235 237,
 Lw 239 238,
 Lx 240 37 239 false,
 Lg 241 (.bin .neq (.t 240) (Acx 0)) 239 false,
 Ior 242 239 241,
 Lw 243 242,
 Lg 244 (.load Sx6 (.t 34)) 243 false,
 Lg 245 (.load Sx6 (.t 36)) 243 false,
 Lg 246 (.eqv true (.arr 64 .leaf .int) (.t 244) (.t 245)) 243 false,
 Ior 247 243 246] [4,10,23,25,28,32,247]
 (Icd 247
 (Irg [Ll 2 (.mv (.c (.bool false)))] [2]
 (.ret))
 (.skip)))
 (Irg [Lw 249 4,
 Ipx 250 23,
 Ipx 251 32,
 Ipx 252 10,
 Ll 253 (Ofx F5 [(.t 249),(.t 250),(.t 251),(.t 252)]),
 Lw 248 253,
 Iex 254 248 0,
 Iex 255 248 1,
 Ibz 38 16,
 Ls (.store false Sx6 (.t 38) (.t 254)),
 Lw 39 255] [4,10,25,28,38,39]
 (Irg [Lw 257 4,
 Ipx 258 28,
 Ipx 259 25,
 Ipx 260 10,
 Ll 261 (Ofx F5 [(.t 257),(.t 258),(.t 259),(.t 260)]),
 Lw 256 261,
 Iex 262 256 0,
 Iex 263 256 1,
 Ibz 40 17,
 Ls (.store false Sx6 (.t 40) (.t 262)),
 Lw 41 263] [38,39,40,41]
 (Irg [Lw 264 39,
 Ibc 265 .eql 264 0,
 Lw 266 265,
 Lx 267 41 266 true,
 Lg 268 (.bin .eql (.t 267) (Acx 0)) 266 true,
 Ian 269 266 268,
 Lw 270 269,
 Lg 271 (.load Sx6 (.t 38)) 270 true,
 Lg 272 (.load Sx6 (.t 40)) 270 true,
 Lg 273 (.eqv false (.arr 64 .leaf .int) (.t 271) (.t 272)) 270 true,
 Ian 274 270 273,
 Lw 2 274] [2]
 (.ret))))))))))))))))))))))))))))
def Z1z:Fn:=
 { nparams:=1,nblk:=18,results:=[.tmp 2],body:=Z1z_B }
end Pe

/-
 Functions of the program in the small form,printed by a program.
-/
namespace Pe
open Go
def Z35_L0:Cd:=
 .seq (Irg [Lw 4 3,
 Ibc 5 .geq 4 0,
 Lw 6 5,
 Lx 7 3 6 true,
 Lg 8 (.idxA (some 64) .leaf (.t 1) (.t 7)) 6 true,
 Lg 9 (.load .leaf (.t 8)) 6 true,
 Lg 10 (.bin .eql (.t 9) (.c (.int .u8 0))) 6 true,
 Ian 11 6 10] [1,3,11]
 (Icd 11
 (.skip)
 (.exit 0)))
 (.block 1 (.region [Lw 12 3,
 Ibc 13 .sub 12 1,
 Lw 3 13] [1,3]))
def Z35_B:Cd:=
 Irg [Ibx 1 0 0,
 Imc 2 0] [1]
 (Irg [Imc 3 63] [1,3]
 (.seq (.block 0 (.loop (Z35_L0)))
 (Irg [Lw 14 3,
 Lw 2 14] [2]
 (.ret))))
def Z35:Fn:=
 { nparams:=1,nblk:=1,results:=[.tmp 2],body:=Z35_B }
def Z38_B:Cd:=
 Irg [Ll 6 (.mv (.c (.bool false)))] [0,1,2]
 (Irg [Lw 7 0,
 Lw 8 1,
 Ibn 9 .geq 7 8,
 Lw 10 9,
 Lx 11 0 10 true,
 Lx 12 2 10 true,
 Lg 13 (.bin .leq (.t 11) (.t 12)) 10 true,
 Ian 14 10 13,
 Lw 6 14] [6]
 (.ret))
def Z38:Fn:=
 { nparams:=3,nblk:=0,results:=[.tmp 6],body:=Z38_B }
def Z3i_B:Cd:=
 Irg [Ll 2 (.mv (.c (.bool false)))] [0]
 (Irg [Lw 3 0,
 Ibc 4 .eql 3 2,
 Lw 5 4,
 Lx 6 0 5 false,
 Lg 7 (.bin .eql (.t 6) (Acx 3)) 5 false,
 Ior 8 5 7,
 Lw 9 8,
 Lx 10 0 9 false,
 Lg 11 (.bin .eql (.t 10) (Acx 5)) 9 false,
 Ior 12 9 11,
 Lw 13 12,
 Lx 14 0 13 false,
 Lg 15 (.bin .eql (.t 14) (Acx 7)) 13 false,
 Ior 16 13 15,
 Lw 2 16] [2]
 (.ret))
def Z3i:Fn:=
 { nparams:=1,nblk:=0,results:=[.tmp 2],body:=Z3i_B }
def Z3b_L0:Cd:=
 .seq (Irg [Lw 6 5,
 Ibc 7 .lss 6 64] [0,3,5,7]
 (Icd 7
 (.skip)
 (.exit 0)))
 (.seq (.block 1 (Irg [Lw 10 5,
 Iis 11 64 .leaf 3 10,
 Ilx 12 11,
 Icv 13 .i64 12,
 Lw 14 0,
 Ibn 15 .geq 13 14] [0,3,5,15]
 (Icd 15
 (Irg [Ll 4 (.mv (.c (.bool false)))] [4]
 (.ret))
 (.skip))))
 (.region [Lw 8 5,
 Ibc 9 .add 8 1,
 Lw 5 9] [0,3,5]))
def Z3b_B:Cd:=
 Irg [Ibx 3 0 1,
 Ll 4 (.mv (.c (.bool false)))] [0,3]
 (.seq (Irg [Imc 5 0] [0,3,5]
 (.block 0 (.loop (Z3b_L0))))
 (Irg [Lw 16 0,
 Ll 17 (Ofx F3i [(.t 16)]),
 Lw 4 17] [4]
 (.ret)))
def Z3b:Fn:=
 { nparams:=2,nblk:=1,results:=[.tmp 4],body:=Z3b_B }
def Z33_L0:Cd:=
 .seq (Irg [Lw 9 5,
 Lw 10 1,
 Ien 11 10,
 Ibn 12 .lss 9 11] [0,1,5,12]
 (Icd 12
 (.skip)
 (.exit 0)))
 (.seq (.block 1 (Irg [Lw 15 0,
 Lw 16 1,
 Lw 17 5,
 Iia 18 Sx6 16 17,
 Ipx 19 18,
 Ll 20 (Ofx F3b [(.t 15),(.t 19)]),
 Ll 21 (.un .not (.t 20))] [0,1,5,21]
 (Icd 21
 (Irg [Imc 4 1] [4]
 (.ret))
 (.skip))))
 (.region [Lw 13 5,
 Ibc 14 .add 13 1,
 Lw 5 14] [0,1,5]))
def Z33_B:Cd:=
 Irg [Imc 4 0] [0,1]
 (.seq (Irg [Lw 6 0,
 Ll 7 (Ofx F3i [(.t 6)]),
 Ll 8 (.un .not (.t 7))] [0,1,8]
 (Icd 8
 (Irg [Imc 4 1] [4]
 (.ret))
 (.skip)))
 (.seq (Irg [Imc 5 0] [0,1,5]
 (.block 0 (.loop (Z33_L0))))
 (Irg [Imc 4 0] [4]
 (.ret))))
def Z33:Fn:=
 { nparams:=2,nblk:=0,results:=[.tmp 4],body:=Z33_B }
def Z3d_B:Cd:=
 Irg [Ibx 1 0 0,
 Ll 2 (.mv (.c (.bool false)))] [1]
 (Irg [Ipx 4 1,
 Ll 5 (Ofx F35 [(.t 4)]),
 Lw 3 5] [1,3]
 (Irg [Lw 6 3,
 Ibc 7 .geq 6 0,
 Lw 8 7,
 Lx 9 3 8 true,
 Lg 10 (.idxA (some 64) .leaf (.t 1) (.t 9)) 8 true,
 Lg 11 (.load .leaf (.t 10)) 8 true,
 Lg 12 (.bin .eql (.t 11) (.c (.int .u8 1))) 8 true,
 Ian 13 8 12,
 Lw 2 13] [2]
 (.ret)))
def Z3d:Fn:=
 { nparams:=1,nblk:=1,results:=[.tmp 2],body:=Z3d_B }
def Z34_L0:Cd:=
 .seq (Irg [Lw 6 1,
 Ibc 7 .gtr 6 0,
 Lw 8 7,
 Lx 9 5 8 true,
 Lg 10 (.bin .leq (.t 9) (Acx 1000000000000)) 8 true,
 Ian 11 8 10] [0,1,5,11]
 (Icd 11
 (.skip)
 (.exit 0)))
 (.seq (.block 1 (.region [Lw 14 5,
 Lw 15 0,
 Ibn 16 .mul 14 15,
 Lw 5 16] [0,1,5]))
 (.region [Lw 12 1,
 Ibc 13 .sub 12 1,
 Lw 1 13] [0,1,5]))
def Z34_B:Cd:=
 Irg [Imc 4 0] [0,1]
 (Irg [Imc 5 1] [0,1,5]
 (.seq (.block 0 (.loop (Z34_L0)))
 (Irg [Lw 17 5,
 Ll 18 (.minI (.t 17) (Acx 1000000000001)),
 Lw 4 18] [4]
 (.ret))))
def Z34:Fn:=
 { nparams:=2,nblk:=0,results:=[.tmp 4],body:=Z34_B }
def Z39_L0:Cd:=
 .seq (Irg [Lw 6 5,
 Lw 7 0,
 Ibn 8 .lss 6 7] [0,1,5,8]
 (Icd 8
 (.skip)
 (.exit 0)))
 (.seq (.block 1 (Irg [Lw 11 5,
 Lw 12 1,
 Icv 13 .i64 12,
 Ibn 14 .mul 11 13,
 Lw 15 0,
 Ibn 16 .rem 14 15,
 Ibc 17 .eql 16 1] [0,1,5,17]
 (Icd 17
 (Irg [Lw 18 5,
 Icv 19 .u8 18,
 Lw 4 19] [4]
 (.ret))
 (.skip))))
 (.region [Lw 9 5,
 Ibc 10 .add 9 1,
 Lw 5 10] [0,1,5]))
def Z39_B:Cd:=
 Irg [Ll 4 (.mv (.c (.int .u8 0)))] [0,1]
 (.seq (Irg [Imc 5 1] [0,1,5]
 (.block 0 (.loop (Z39_L0))))
 (Irg [Ll 4 (.mv (.c (.int .u8 0)))] [4]
 (.ret)))
def Z39:Fn:=
 { nparams:=2,nblk:=0,results:=[.tmp 4],body:=Z39_B }
def Z36_L0:Cd:=
 .seq (Irg [Lw 44 13,
 Lw 45 9,
 Ibn 46 .leq 44 45,
 Lw 47 46,
 Lx 48 12 47 true,
 Lg 49 (.bin .neq (.t 48) (Acx 0)) 47 true,
 Ian 50 47 49] [0,4,5,6,7,8,9,10,11,12,13,50]
 (Icd 50
 (.skip)
 (.exit 2)))
 (.seq (.block 3 (.region [Lw 53 11,
 Lw 54 9,
 Ibn 55 .sub 53 54,
 Lw 56 13,
 Ibn 57 .add 55 56,
 Lw 58 11,
 Lw 59 9,
 Ibn 60 .sub 58 59,
 Lw 61 13,
 Ibn 62 .add 60 61,
 Iis 63 64 .leaf 4 62,
 Ilx 64 63,
 Icv 65 .i64 64,
 Lw 66 12,
 Lw 67 13,
 Iis 68 64 .leaf 5 67,
 Ilx 69 68,
 Icv 70 .i64 69,
 Ibn 71 .mul 66 70,
 Ibn 72 .sub 65 71,
 Lw 73 0,
 Ibn 74 .rem 72 73,
 Lw 75 0,
 Ibn 76 .add 74 75,
 Lw 77 0,
 Ibn 78 .rem 76 77,
 Icv 79 .u8 78,
 Iis 80 64 .leaf 4 57,
 Ls (.store false .leaf (.t 80) (.t 79))] [0,4,5,6,7,8,9,10,11,12,13]))
 (.region [Lw 51 13,
 Ibc 52 .add 51 1,
 Lw 13 52] [0,4,5,6,7,8,9,10,11,12,13]))
def Z36_L1:Cd:=
 .seq (Irg [Lw 25 11,
 Lw 26 9,
 Ibn 27 .geq 25 26] [0,4,5,6,7,8,9,10,11,27]
 (Icd 27
 (.skip)
 (.exit 0)))
 (.seq (.block 1 (Irg [Lw 30 11,
 Iis 31 64 .leaf 4 30,
 Ilx 32 31,
 Icv 33 .i64 32,
 Lw 34 10,
 Ibn 35 .mul 33 34,
 Lw 36 0,
 Ibn 37 .rem 35 36,
 Lw 12 37] [0,4,5,6,7,8,9,10,11,12]
 (Irg [Lw 38 11,
 Lw 39 9,
 Ibn 40 .sub 38 39,
 Lw 41 12,
 Icv 42 .u8 41,
 Iis 43 64 .leaf 8 40,
 Ls (.store false .leaf (.t 43) (.t 42))] [0,4,5,6,7,8,9,10,11,12]
 (Irg [Imc 13 0] [0,4,5,6,7,8,9,10,11,12,13]
 (.block 2 (.loop (Z36_L0)))))))
 (.region [Lw 28 11,
 Ibc 29 .sub 28 1,
 Lw 11 29] [0,4,5,6,7,8,9,10,11]))
def Z36_B:Cd:=
 Irg [Ibx 4 0 1,
 Ibx 5 1 2,
 Ibz 6 2,
 Ibz 7 3] [0,4,5,6,7]
 (Irg [Iz6 14,
 Ipx 15 5,
 Ll 16 (Ofx F35 [(.t 15)]),
 Ibz 8 4,
 Ls (.store false Sx6 (.t 8) (.t 14)),
 Lw 9 16] [0,4,5,6,7,8,9]
 (Irg [Lw 17 0,
 Lw 18 9,
 Iis 19 64 .leaf 5 18,
 Ilx 20 19,
 Ll 21 (Ofx F39 [(.t 17),(.t 20)]),
 Icv 22 .i64 21,
 Lw 10 22] [0,4,5,6,7,8,9,10]
 (.seq (Irg [Ipx 23 4,
 Ll 24 (Ofx F35 [(.t 23)]),
 Lw 11 24] [0,4,5,6,7,8,9,10,11]
 (.block 0 (.loop (Z36_L1))))
 (Irg [Ipx 81 8,
 Ipx 82 4,
 ⟨none,.store false Sx6 (.t 6) (.t 81),none,[4]⟩,
 Ls (.store false Sx6 (.t 7) (.t 82))] [6,7]
 (.ret)))))
def Z36:Fn:=
 { nparams:=3,nblk:=5,results:=[.cell 6 Sx6,.cell 7 Sx6],body:=Z36_B }
def Z3c_B:Cd:=
 Irg [Ibx 4 0 1,
 Ibx 5 1 2,
 Ibz 6 2] [0,4,5,6]
 (Irg [Lw 10 0,
 Ipx 11 4,
 Ipx 12 5,
 Ll 13 (Ofx F36 [(.t 10),(.t 11),(.t 12)]),
 Lw 9 13,
 Iex 14 9 0,
 Iex 15 9 1,
 Ibz 7 3,
 Ibz 8 4,
 Ls (.store false Sx6 (.t 7) (.t 14)),
 Ls (.store false Sx6 (.t 8) (.t 15))] [6,8]
 (Irg [Ipx 16 8,
 Ls (.store false Sx6 (.t 6) (.t 16))] [6]
 (.ret)))
def Z3c:Fn:=
 { nparams:=3,nblk:=5,results:=[.cell 6 Sx6],body:=Z3c_B }
def Z3g_B:Cd:=
 Irg [Ibz 0 0] [0]
 (Irg [Ll 1 (.build false (.arr 64 .leaf z64) [(0,(.c (.int .u8 1)))]),
 Ls (.store false Sx6 (.t 0) (.t 1))] [0]
 (.ret))
def Z3g:Fn:=
 { nparams:=0,nblk:=1,results:=[.cell 0 Sx6],body:=Z3g_B }
def Z31_L0:Cd:=
 .seq (Irg [Lw 10 9,
 Ibc 11 .lss 10 64] [0,3,5,6,8,9,11]
 (Icd 11
 (.skip)
 (.exit 0)))
 (.seq (.block 1 (.region [Lw 14 9,
 Lw 15 9,
 Iis 16 64 .leaf 5 15,
 Ilx 17 16,
 Icv 18 .i64 17,
 Lw 19 3,
 Lw 20 9,
 Iis 21 64 .leaf 6 20,
 Ilx 22 21,
 Icv 23 .i64 22,
 Ibn 24 .mul 19 23,
 Ibn 25 .add 18 24,
 Lw 26 0,
 Ibn 27 .rem 25 26,
 Lw 28 0,
 Ibn 29 .add 27 28,
 Lw 30 0,
 Ibn 31 .rem 29 30,
 Icv 32 .u8 31,
 Iis 33 64 .leaf 5 14,
 Ls (.store false .leaf (.t 33) (.t 32))] [0,3,5,6,8,9]))
 (.region [Lw 12 9,
 Ibc 13 .add 12 1,
 Lw 9 13] [0,3,5,6,8,9]))
def Z31_B:Cd:=
 Irg [Ibx 5 0 1,
 Ibx 6 1 2,
 Ibz 8 2] [0,3,5,6,8]
 (.seq (Irg [Imc 9 0] [0,3,5,6,8,9]
 (.block 0 (.loop (Z31_L0))))
 (Irg [Ipx 34 5,
 Ls (.store false Sx6 (.t 8) (.t 34))] [8]
 (.ret)))
def Z31:Fn:=
 { nparams:=4,nblk:=3,results:=[.cell 8 Sx6],body:=Z31_B }
def Z3l_L0:Cd:=
 .seq (Irg [Lw 24 10,
 Lw 25 7,
 Ibn 26 .lss 24 25] [0,4,5,6,7,8,9,10,26]
 (Icd 26
 (.skip)
 (.exit 0)))
 (.seq (.block 1 (.region [Lw 29 10,
 Lw 30 10,
 Ibc 31 .sub 30 1,
 Iis 32 64 .leaf 4 31,
 Ilx 33 32,
 Iis 34 64 .leaf 9 29,
 Ls (.store false .leaf (.t 34) (.t 33))] [0,4,5,6,7,8,9,10]))
 (.region [Lw 27 10,
 Ibc 28 .add 27 1,
 Lw 10 28] [0,4,5,6,7,8,9,10]))
def Z3l_L1:Cd:=
 .seq (Irg [Lw 45 12,
 Lw 46 7,
 Ibn 47 .lss 45 46] [0,5,6,7,9,11,12,47]
 (Icd 47
 (.skip)
 (.exit 2)))
 (.seq (.block 3 (.region [Lw 50 12,
 Lw 51 12,
 Iis 52 64 .leaf 9 51,
 Ilx 53 52,
 Icv 54 .i64 53,
 Lw 55 11,
 Lw 56 12,
 Iis 57 64 .leaf 5 56,
 Ilx 58 57,
 Icv 59 .i64 58,
 Ibn 60 .mul 55 59,
 Ibn 61 .sub 54 60,
 Lw 62 0,
 Ibn 63 .rem 61 62,
 Lw 64 0,
 Ibn 65 .add 63 64,
 Lw 66 0,
 Ibn 67 .rem 65 66,
 Icv 68 .u8 67,
 Iis 69 64 .leaf 9 50,
 Ls (.store false .leaf (.t 69) (.t 68))] [0,5,6,7,9,11,12]))
 (.region [Lw 48 12,
 Ibc 49 .add 48 1,
 Lw 12 49] [0,5,6,7,9,11,12]))
def Z3l_B:Cd:=
 Irg [Ibx 4 0 1,
 Ibx 5 1 2,
 Ibz 6 2] [0,4,5,6]
 (Irg [Ipx 13 5,
 Ll 14 (Ofx F35 [(.t 13)]),
 Lw 7 14] [0,4,5,6,7]
 (.seq (Irg [Lw 15 7,
 Ibc 16 .eql 15 0] [0,4,5,6,7,16]
 (Icd 16
 (Irg [Iz6 17,
 Ls (.store false Sx6 (.t 6) (.t 17))] [6]
 (.ret))
 (.skip)))
 (Irg [Lw 18 7,
 Ibc 19 .sub 18 1,
 Iis 20 64 .leaf 4 19,
 Ilx 21 20,
 Icv 22 .i64 21,
 Iz6 23,
 Ibz 9 3,
 Lw 8 22,
 Ls (.store false Sx6 (.t 9) (.t 23))] [0,4,5,6,7,8,9]
 (.seq (Irg [Imc 10 1] [0,4,5,6,7,8,9,10]
 (.block 0 (.loop (Z3l_L0))))
 (Irg [Lw 35 8,
 Lw 36 0,
 Lw 37 7,
 Iis 38 64 .leaf 5 37,
 Ilx 39 38,
 Ll 40 (Ofx F39 [(.t 36),(.t 39)]),
 Icv 41 .i64 40,
 Ibn 42 .mul 35 41,
 Lw 43 0,
 Ibn 44 .rem 42 43,
 Lw 11 44] [0,5,6,7,9,11]
 (.seq (Irg [Imc 12 0] [0,5,6,7,9,11,12]
 (.block 2 (.loop (Z3l_L1))))
 (Irg [Ipx 70 9,
 Ls (.store false Sx6 (.t 6) (.t 70))] [6]
 (.ret))))))))
def Z3l:Fn:=
 { nparams:=3,nblk:=4,results:=[.cell 6 Sx6],body:=Z3l_B }
def Z3e_L0:Cd:=
 .seq (Irg [Lw 14 10,
 Ibc 15 .geq 14 0] [0,5,6,7,8,9,10,15]
 (Icd 15
 (.skip)
 (.exit 0)))
 (.seq (.block 1 (Irg [Lw 18 0,
 Ipx 19 9,
 Ipx 20 7,
 Ll 21 (Ofx F3l [(.t 18),(.t 19),(.t 20)]),
 Ls (.store false Sx6 (.t 9) (.t 21))] [0,5,6,7,8,9,10]
 (.region [Lw 22 0,
 Lw 23 0,
 Ipx 24 9,
 Ipx 25 5,
 Lw 26 10,
 Iis 27 64 .leaf 6 26,
 Ilx 28 27,
 Icv 29 .i64 28,
 Ll 30 (Ofx F31 [(.t 23),(.t 24),(.t 25),(.t 29)]),
 Ipx 31 7,
 Ll 32 (Ofx F3c [(.t 22),(.t 30),(.t 31)]),
 Ls (.store false Sx6 (.t 9) (.t 32))] [0,5,6,7,8,9,10])))
 (.region [Lw 16 10,
 Ibc 17 .sub 16 1,
 Lw 10 17] [0,5,6,7,8,9,10]))
def Z3e_B:Cd:=
 Irg [Ibx 5 0 1,
 Ibx 6 1 2,
 Ibx 7 2 3,
 Ibz 8 3] [0,5,6,7,8]
 (Irg [Iz6 11,
 Ibz 9 4,
 Ls (.store false Sx6 (.t 9) (.t 11))] [0,5,6,7,8,9]
 (.seq (Irg [Ipx 12 6,
 Ll 13 (Ofx F35 [(.t 12)]),
 Lw 10 13] [0,5,6,7,8,9,10]
 (.block 0 (.loop (Z3e_L0))))
 (Irg [Ipx 33 9,
 Ls (.store false Sx6 (.t 8) (.t 33))] [8]
 (.ret))))
def Z3e:Fn:=
 { nparams:=4,nblk:=5,results:=[.cell 8 Sx6],body:=Z3e_B }
def Z3h_L0:Cd:=
 .seq (Irg [Lw 19 2,
 Ibc 20 .gtr 19 0] [0,2,7,8,9,10,20]
 (Icd 20
 (.skip)
 (.exit 0)))
 (.seq (.block 1 (.seq (Irg [Lw 23 2,
 Ibc 24 .rem 23 2,
 Ibc 25 .eql 24 1] [0,2,7,8,9,10,25]
 (Icd 25
 (.region [Lw 26 0,
 Ipx 27 9,
 Ipx 28 10,
 Ipx 29 7,
 Ll 30 (Ofx F3e [(.t 26),(.t 27),(.t 28),(.t 29)]),
 Ls (.store false Sx6 (.t 9) (.t 30))] [0,2,7,8,9,10])
 (.skip)))
 (.region [Lw 31 0,
 Ipx 32 10,
 Ipx 33 10,
 Ipx 34 7,
 Ll 35 (Ofx F3e [(.t 31),(.t 32),(.t 33),(.t 34)]),
 Ls (.store false Sx6 (.t 10) (.t 35))] [0,2,7,8,9,10])))
 (.region [Lw 21 2,
 Ibc 22 .quo 21 2,
 Lw 2 22] [0,2,7,8,9,10]))
def Z3h_B:Cd:=
 Irg [Ibx 5 0 1,
 Ibx 7 1 3,
 Ibz 8 2] [0,2,5,7,8]
 (Irg [Lw 11 0,
 Ll 12 (Ofx F3g []),
 Ipx 13 7,
 Ll 14 (Ofx F3c [(.t 11),(.t 12),(.t 13)]),
 Lw 15 0,
 Ipx 16 5,
 Ipx 17 7,
 Ll 18 (Ofx F3c [(.t 15),(.t 16),(.t 17)]),
 Ibz 9 3,
 Ibz 10 4,
 Ls (.store false Sx6 (.t 9) (.t 14)),
 Ls (.store false Sx6 (.t 10) (.t 18))] [0,2,7,8,9,10]
 (.seq (.block 0 (.loop (Z3h_L0)))
 (Irg [Ipx 36 9,
 Ls (.store false Sx6 (.t 8) (.t 36))] [8]
 (.ret))))
def Z3h:Fn:=
 { nparams:=4,nblk:=5,results:=[.cell 8 Sx6],body:=Z3h_B }
def Z3f_L0:Cd:=
 .seq (Irg [Lw 8 1,
 Ibc 9 .gtr 8 0] [0,1,4,5,6,9]
 (Icd 9
 (.skip)
 (.exit 0)))
 (.seq (.block 1 (Irg [Lw 12 6,
 Lw 13 1,
 Lw 14 0,
 Ibn 15 .rem 13 14,
 Icv 16 .u8 15,
 Iis 17 64 .leaf 5 12,
 Ls (.store false .leaf (.t 17) (.t 16))] [0,1,4,5,6]
 (.region [Lw 18 1,
 Lw 19 0,
 Ibn 20 .quo 18 19,
 Lw 1 20] [0,1,4,5,6])))
 (.region [Lw 10 6,
 Ibc 11 .add 10 1,
 Lw 6 11] [0,1,4,5,6]))
def Z3f_B:Cd:=
 Irg [Ibz 4 0] [0,1,4]
 (Irg [Iz6 7,
 Ibz 5 1,
 Ls (.store false Sx6 (.t 5) (.t 7))] [0,1,4,5]
 (.seq (Irg [Imc 6 0] [0,1,4,5,6]
 (.block 0 (.loop (Z3f_L0))))
 (Irg [Ipx 21 5,
 Ls (.store false Sx6 (.t 4) (.t 21))] [4]
 (.ret))))
def Z3f:Fn:=
 { nparams:=2,nblk:=2,results:=[.cell 4 Sx6],body:=Z3f_B }
def Z3k_L0:Cd:=
 .seq (Irg [Lw 35 12,
 Lw 36 9,
 Ibn 37 .leq 35 36,
 Lw 38 37,
 Lx 39 11 38 true,
 Lg 40 (.idxA (some 64) .leaf (.t 4) (.t 39)) 38 true,
 Lg 41 (.load .leaf (.t 40)) 38 true,
 Lg 42 (.bin .neq (.t 41) (.c (.int .u8 0))) 38 true,
 Ian 43 38 42] [0,4,5,6,8,9,10,11,12,43]
 (Icd 43
 (.skip)
 (.exit 2)))
 (.seq (.block 3 (.region [Lw 46 11,
 Lw 47 12,
 Ibn 48 .add 46 47,
 Lw 49 11,
 Lw 50 12,
 Ibn 51 .add 49 50,
 Iis 52 64 .leaf 10 51,
 Ilx 53 52,
 Icv 54 .i64 53,
 Lw 55 11,
 Iis 56 64 .leaf 4 55,
 Ilx 57 56,
 Icv 58 .i64 57,
 Lw 59 12,
 Iis 60 64 .leaf 5 59,
 Ilx 61 60,
 Icv 62 .i64 61,
 Ibn 63 .mul 58 62,
 Ibn 64 .add 54 63,
 Lw 65 0,
 Ibn 66 .rem 64 65,
 Icv 67 .u8 66,
 Iis 68 64 .leaf 10 48,
 Ls (.store false .leaf (.t 68) (.t 67))] [0,4,5,6,8,9,10,11,12]))
 (.region [Lw 44 12,
 Ibc 45 .add 44 1,
 Lw 12 45] [0,4,5,6,8,9,10,11,12]))
def Z3k_L1:Cd:=
 .seq (Irg [Lw 30 11,
 Lw 31 8,
 Ibn 32 .leq 30 31] [0,4,5,6,8,9,10,11,32]
 (Icd 32
 (.skip)
 (.exit 0)))
 (.seq (.block 1 (Irg [Imc 12 0] [0,4,5,6,8,9,10,11,12]
 (.block 2 (.loop (Z3k_L0)))))
 (.region [Lw 33 11,
 Ibc 34 .add 33 1,
 Lw 11 34] [0,4,5,6,8,9,10,11]))
def Z3k_B:Cd:=
 Irg [Ibx 4 0 1,
 Ibx 5 1 2,
 Ibz 6 2,
 Ll 7 (.mv (.c (.bool false)))] [0,4,5,6]
 (Irg [Ipx 13 4,
 Ll 14 (Ofx F35 [(.t 13)]),
 Ipx 15 5,
 Ll 16 (Ofx F35 [(.t 15)]),
 Iz6 17,
 Ibz 10 3,
 Lw 8 14,
 Lw 9 16,
 Ls (.store false Sx6 (.t 10) (.t 17))] [0,4,5,6,8,9,10]
 (.seq (Irg [Lw 18 8,
 Ibc 19 .lss 18 0,
 Lw 20 19,
 Lx 21 9 20 false,
 Lg 22 (.bin .lss (.t 21) (Acx 0)) 20 false,
 Ior 23 20 22] [0,4,5,6,8,9,10,23]
 (Icd 23
 (Irg [Ipx 24 10,
 Ls (.store false Sx6 (.t 6) (.t 24)),
 Ll 7 (.mv (.c (.bool true)))] [6,7]
 (.ret))
 (.skip)))
 (.seq (Irg [Lw 25 8,
 Lw 26 9,
 Ibn 27 .add 25 26,
 Ibc 28 .gtr 27 63] [0,4,5,6,8,9,10,28]
 (Icd 28
 (Irg [Ipx 29 10,
 Ls (.store false Sx6 (.t 6) (.t 29)),
 Ll 7 (.mv (.c (.bool false)))] [6,7]
 (.ret))
 (.skip)))
 (.seq (Irg [Imc 11 0] [0,4,5,6,8,9,10,11]
 (.block 0 (.loop (Z3k_L1))))
 (Irg [Ipx 69 10,
 Ls (.store false Sx6 (.t 6) (.t 69)),
 Ll 7 (.mv (.c (.bool true)))] [6,7]
 (.ret))))))
def Z3k:Fn:=
 { nparams:=3,nblk:=4,results:=[.cell 6 Sx6,.tmp 7],body:=Z3k_B }
def Z32_L0:Cd:=
 .seq (Irg [Ipx 26 5,
 Ll 27 (Ofx F35 [(.t 26)]),
 Ibc 28 .geq 27 0] [0,4,5,6,7,8,9,10,11,12,28]
 (Icd 28
 (.skip)
 (.exit 0)))
 (.block 1 (Irg [Lw 30 0,
 Ipx 31 4,
 Ipx 32 5,
 Ll 33 (Ofx F36 [(.t 30),(.t 31),(.t 32)]),
 Lw 29 33,
 Iex 34 29 0,
 Iex 35 29 1,
 Ibz 13 9,
 Ibz 14 10,
 Ls (.store false Sx6 (.t 13) (.t 34)),
 Ls (.store false Sx6 (.t 14) (.t 35))] [0,4,5,6,7,8,9,10,11,12,13,14]
 (Irg [Lw 37 0,
 Ipx 38 13,
 Ipx 39 10,
 Ll 40 (Ofx F3k [(.t 37),(.t 38),(.t 39)]),
 Lw 36 40,
 Iex 41 36 0,
 Iex 42 36 1,
 Ibz 15 11,
 Ls (.store false Sx6 (.t 15) (.t 41)),
 Lw 16 42] [0,4,5,6,7,8,9,10,11,12,13,14,15]
 (Irg [Lw 44 0,
 Ipx 45 13,
 Ipx 46 12,
 Ll 47 (Ofx F3k [(.t 44),(.t 45),(.t 46)]),
 Lw 43 47,
 Iex 48 43 0,
 Iex 49 43 1,
 Ibz 17 12,
 Ls (.store false Sx6 (.t 17) (.t 48)),
 Lw 18 49] [0,4,5,6,7,8,9,10,11,12,14,15,17]
 (Irg [Lw 50 0,
 Ipx 51 9,
 Ipx 52 15,
 Ll 53 (Ofx F31 [(.t 50),(.t 51),(.t 52),(Acx (-1))]),
 Lw 54 0,
 Ipx 55 11,
 Ipx 56 17,
 Ll 57 (Ofx F31 [(.t 54),(.t 55),(.t 56),(Acx (-1))]),
 Ibz 19 13,
 Ibz 20 14,
 Ls (.store false Sx6 (.t 19) (.t 53)),
 Ls (.store false Sx6 (.t 20) (.t 57))] [0,4,5,6,7,8,9,10,11,12,14,19,20]
 (Irg [Ipx 58 5,
 Ls (.store false Sx6 (.t 4) (.t 58))] [0,4,5,6,7,8,9,10,11,12,14,19,20]
 (Irg [Ipx 59 14,
 Ls (.store false Sx6 (.t 5) (.t 59))] [0,4,5,6,7,8,9,10,11,12,19,20]
 (Irg [Ipx 60 10,
 Ls (.store false Sx6 (.t 9) (.t 60))] [0,4,5,6,7,8,9,10,11,12,19,20]
 (Irg [Ipx 61 12,
 Ls (.store false Sx6 (.t 11) (.t 61))] [0,4,5,6,7,8,9,10,11,12,19,20]
 (Irg [Ipx 62 19,
 Ls (.store false Sx6 (.t 10) (.t 62))] [0,4,5,6,7,8,9,10,11,12,20]
 (.region [Ipx 63 20,
 Ls (.store false Sx6 (.t 12) (.t 63))] [0,4,5,6,7,8,9,10,11,12])))))))))))
def Z32_B:Cd:=
 Irg [Ibx 4 0 1,
 Ibx 5 1 2,
 Ibz 6 2,
 Ibz 7 3,
 Ibz 8 4] [0,4,5,6,7,8]
 (Irg [Ll 22 (Ofx F3g []),
 Iz6 23,
 Iz6 24,
 Ll 25 (Ofx F3g []),
 Ibz 9 5,
 Ibz 10 6,
 Ibz 11 7,
 Ibz 12 8,
 Ls (.store false Sx6 (.t 9) (.t 22)),
 Ls (.store false Sx6 (.t 10) (.t 23)),
 Ls (.store false Sx6 (.t 11) (.t 24)),
 Ls (.store false Sx6 (.t 12) (.t 25))] [0,4,5,6,7,8,9,10,11,12]
 (.seq (.block 0 (.loop (Z32_L0)))
 (Irg [Lw 64 0,
 Ipx 65 4,
 Ll 66 (Ofx F35 [(.t 65)]),
 Iis 67 64 .leaf 4 66,
 Ilx 68 67,
 Ll 69 (Ofx F39 [(.t 64),(.t 68)]),
 Icv 70 .i64 69,
 Lw 21 70] [0,4,6,7,8,9,11,21]
 (Irg [Lw 71 0,
 Iz6 72,
 Ipx 73 4,
 Lw 74 21,
 Ll 75 (Ofx F31 [(.t 71),(.t 72),(.t 73),(.t 74)]),
 Lw 76 0,
 Iz6 77,
 Ipx 78 9,
 Lw 79 21,
 Ll 80 (Ofx F31 [(.t 76),(.t 77),(.t 78),(.t 79)]),
 Lw 81 0,
 Iz6 82,
 Ipx 83 11,
 Lw 84 21,
 Ll 85 (Ofx F31 [(.t 81),(.t 82),(.t 83),(.t 84)]),
 Ls (.store false Sx6 (.t 6) (.t 75)),
 Ls (.store false Sx6 (.t 7) (.t 80)),
 Ls (.store false Sx6 (.t 8) (.t 85))] [6,7,8]
 (.ret)))))
def Z32:Fn:=
 { nparams:=3,nblk:=15,results:=[.cell 6 Sx6,.cell 7 Sx6,.cell 8 Sx6],body:=Z32_B }
def Z37_B:Cd:=
 Irg [Ibx 4 0 1,
 Ibx 5 1 2,
 Ibz 6 2] [0,4,5,6]
 (.seq (Irg [Ipx 10 4,
 Ll 11 (Ofx F35 [(.t 10)]),
 Ibc 12 .lss 11 0,
 Lw 13 12,
 Lg 14 (.load Sx6 (.t 5)) 13 true,
 Lg 15 (Ofx F35 [(.t 14)]) 13 true,
 Lg 16 (.bin .lss (.t 15) (Acx 0)) 13 true,
 Ian 17 13 16] [0,4,5,6,17]
 (Icd 17
 (Irg [Iz6 18,
 Ls (.store false Sx6 (.t 6) (.t 18))] [6]
 (.ret))
 (.skip)))
 (Irg [Lw 20 0,
 Ipx 21 4,
 Ipx 22 5,
 Ll 23 (Ofx F32 [(.t 20),(.t 21),(.t 22)]),
 Lw 19 23,
 Iex 24 19 0,
 Iex 25 19 1,
 Iex 26 19 2,
 Ibz 7 3,
 Ibz 8 4,
 Ibz 9 5,
 Ls (.store false Sx6 (.t 7) (.t 24)),
 Ls (.store false Sx6 (.t 8) (.t 25)),
 Ls (.store false Sx6 (.t 9) (.t 26))] [6,7]
 (Irg [Ipx 27 7,
 Ls (.store false Sx6 (.t 6) (.t 27))] [6]
 (.ret))))
def Z37:Fn:=
 { nparams:=3,nblk:=6,results:=[.cell 6 Sx6],body:=Z37_B }
def Z3j_B:Cd:=
 Irg [Ibz 0 0] [0]
 (Irg [Ll 1 (.build false (.arr 64 .leaf z64) [(0,(.c (.int .u8 0))),(1,(.c (.int .u8 1)))]),
 Ls (.store false Sx6 (.t 0) (.t 1))] [0]
 (.ret))
def Z3j:Fn:=
 { nparams:=0,nblk:=1,results:=[.cell 0 Sx6],body:=Z3j_B }
def Z3a_L0:Cd:=
 .seq (Irg [Lw 16 7,
 Ll 17 (.bin .mul (Acx 2) (.t 16)),
 Lw 18 5,
 Ibn 19 .leq 17 18] [0,3,5,6,7,19]
 (Icd 19
 (.skip)
 (.exit 0)))
 (.seq (.block 1 (Irg [Lw 22 0,
 Ipx 23 6,
 Lw 24 0,
 Ipx 25 3,
 Ll 26 (Ofx F3h [(.t 22),(.t 23),(.t 24),(.t 25)]),
 Ls (.store false Sx6 (.t 6) (.t 26))] [0,3,5,6,7]
 (Irg [Lw 27 0,
 Ipx 28 3,
 Lw 29 0,
 Ipx 30 6,
 Ll 31 (Ofx F3j []),
 Ll 32 (Ofx F31 [(.t 29),(.t 30),(.t 31),(Acx (-1))]),
 Ll 33 (Ofx F37 [(.t 27),(.t 28),(.t 32)]),
 Ll 34 (Ofx F35 [(.t 33)]),
 Ibc 35 .neq 34 0] [0,3,5,6,7,35]
 (Icd 35
 (Irg [Ll 4 (.mv (.c (.bool false)))] [4]
 (.ret))
 (.skip)))))
 (.region [Lw 20 7,
 Ibc 21 .add 20 1,
 Lw 7 21] [0,3,5,6,7]))
def Z3a_B:Cd:=
 Irg [Ibx 3 0 1,
 Ll 4 (.mv (.c (.bool false)))] [0,3]
 (Irg [Ipx 8 3,
 Ll 9 (Ofx F35 [(.t 8)]),
 Lw 10 0,
 Ll 11 (Ofx F3j []),
 Ipx 12 3,
 Ll 13 (Ofx F3c [(.t 10),(.t 11),(.t 12)]),
 Ibz 6 1,
 Lw 5 9,
 Ls (.store false Sx6 (.t 6) (.t 13))] [0,3,5,6]
 (.seq (Irg [Lw 14 5,
 Ibc 15 .lss 14 1] [0,3,5,6,15]
 (Icd 15
 (Irg [Ll 4 (.mv (.c (.bool false)))] [4]
 (.ret))
 (.skip)))
 (.seq (Irg [Imc 7 1] [0,3,5,6,7]
 (.block 0 (.loop (Z3a_L0))))
 (Irg [Ll 4 (.mv (.c (.bool true)))] [4]
 (.ret)))))
def Z3a:Fn:=
 { nparams:=2,nblk:=2,results:=[.tmp 4],body:=Z3a_B }
end Pe

/-
 Functions of the program in the small form,printed by a program.
-/
namespace Pe
open Go
def Z30_L0:Cd:=
 .seq (Irg [Lw 27 7,
 Lw 28 0,
 Lw 29 1,
 Ll 30 (Ofx F34 [(.t 28),(.t 29)]),
 Ll 31 (.bin .mul (Acx 2) (.t 30)),
 Ibn 32 .lss 27 31] [0,1,6,7,32]
 (Icd 32
 (.skip)
 (.exit 1)))
 (.seq (.block 2 (Irg [Lw 35 0,
 Lw 36 7,
 Ll 37 (Ofx F3f [(.t 35),(.t 36)]),
 Ibz 8 1,
 Ls (.store false Sx6 (.t 8) (.t 37))] [0,1,6,7,8]
 (Irg [Lw 38 0,
 Ipx 39 8,
 Ll 40 (Ofx F3a [(.t 38),(.t 39)])] [0,1,6,7,8,40]
 (Icd 40
 (.region [Lw 41 6,
 Ipx 42 8,
 Ll 43 (.buildSl false 2 Sx6 (.arr 64 .leaf z64) 1 [(0,(.t 42))]),
 Ll 44 (.append Sx6 3 64 (.t 41) (.t 43)),
 Lw 6 44] [0,1,6,7])
 (.skip)))))
 (.region [Lw 33 7,
 Ibc 34 .add 33 1,
 Lw 7 34] [0,1,6,7]))
def Z30_B:Cd:=
 Irg [Ll 4 (.mv (.c (.sl Sx6 []))),
 Imc 5 0] [0,1]
 (.seq (.block 0 (Irg [Lw 10 0,
 Ll 11 (Ofx F3i [(.t 10)]),
 Ll 12 (.un .not (.t 11)),
 Lw 9 12] [0,1,9]
 (Icd 9
 (Irg [Ll 4 (.mv (.c (.sl Sx6 []))),
 Imc 5 1] [4,5]
 (.ret))
 (Irg [Lw 14 1,
 Ll 15 (Ofx F38 [(.t 14),(Acx 1),(Acx 8)]),
 Ll 16 (.un .not (.t 15)),
 Lw 17 16,
 Lx 18 0 17 false,
 Lx 19 1 17 false,
 Lg 20 (Ofx F34 [(.t 18),(.t 19)]) 17 false,
 Lg 21 (.bin .gtr (.t 20) (Acx 343)) 17 false,
 Ior 22 17 21,
 Lw 13 22] [0,1,13]
 (Icd 13
 (Irg [Ll 4 (.mv (.c (.sl Sx6 []))),
 Imc 5 2] [4,5]
 (.ret))
 (.skip))))))
 (Irg [Ll 23 (.buildSl false 0 Sx6 (.arr 64 .leaf z64) 0 []),
 Lw 6 23] [0,1,6]
 (.seq (Irg [Lw 24 0,
 Lw 25 1,
 Ll 26 (Ofx F34 [(.t 24),(.t 25)]),
 Lw 7 26] [0,1,6,7]
 (.block 1 (.loop (Z30_L0))))
 (Irg [Lw 45 6,
 Lw 4 45,
 Imc 5 0] [4,5]
 (.ret)))))
def Z30:Fn:=
 { nparams:=2,nblk:=4,results:=[.tmp 4,.tmp 5],body:=Z30_B }
def Z3m_B:Cd:=
 Irg [Ibx 4 0 1,
 Imc 6 0] [0,2,4]
 (.seq (.block 0 (Irg [Lw 8 0,
 Ipx 9 4,
 Ll 10 (.buildSl false 1 Sx6 (.arr 64 .leaf z64) 1 [(0,(.t 9))]),
 Ll 11 (Ofx F33 [(.t 8),(.t 10)]),
 Ibc 12 .neq 11 0,
 Lw 13 12,
 Lx 14 0 13 false,
 Lx 15 2 13 false,
 Lg 16 (Ofx F33 [(.t 14),(.t 15)]) 13 false,
 Lg 17 (.bin .neq (.t 16) (Acx 0)) 13 false,
 Ior 18 13 17,
 Lw 7 18] [4,7]
 (Icd 7
 (Irg [Imc 6 1] [6]
 (.ret))
 (Irg [Ipx 20 4,
 Ll 21 (Ofx F3d [(.t 20)]),
 Ll 22 (.un .not (.t 21)),
 Lw 23 22,
 Lg 24 (.load Sx6 (.t 4)) 23 false,
 Lg 25 (Ofx F35 [(.t 24)]) 23 false,
 Lg 26 (Ofx F38 [(.t 25),(Acx 1),(Acx 5)]) 23 false,
 Lg 27 (.un .not (.t 26)) 23 false,
 Ior 28 23 27,
 Lw 19 28] [19]
 (Icd 19
 (Irg [Imc 6 2] [6]
 (.ret))
 (.skip))))))
 (Irg [Imc 6 0] [6]
 (.ret)))
def Z3m:Fn:=
 { nparams:=3,nblk:=2,results:=[.tmp 6],body:=Z3m_B }
end Pe

/-
 Functions of the program in the small form,printed by a program.
-/
namespace Pe
open Go
def Z3p_B:Cd:=
 Irg [Ibx 4 0 1,
 Ibx 5 1 2,
 Ibz 6 2] [0,4,5,6]
 (Irg [Lw 7 0,
 Lw 8 0,
 Lw 9 0,
 Ll 10 (Ofx F3j []),
 Ipx 11 5,
 Ll 12 (Ofx F3c [(.t 9),(.t 10),(.t 11)]),
 Ipx 13 4,
 Ipx 14 5,
 Ll 15 (Ofx F3e [(.t 8),(.t 12),(.t 13),(.t 14)]),
 Lw 16 0,
 Ipx 17 4,
 Lw 18 0,
 Ipx 19 5,
 Ll 20 (Ofx F3h [(.t 16),(.t 17),(.t 18),(.t 19)]),
 Ll 21 (Ofx F31 [(.t 7),(.t 15),(.t 20),(Acx 1)]),
 Ls (.store false Sx6 (.t 6) (.t 21))] [6]
 (.ret))
def Z3p:Fn:=
 { nparams:=3,nblk:=3,results:=[.cell 6 Sx6],body:=Z3p_B }
def Z3n_L0:Cd:=
 .seq (Irg [Lw 38 15,
 Lw 39 7,
 Ibn 40 .lss 38 39] [0,5,6,7,8,9,10,11,12,13,14,15,40]
 (Icd 40
 (.skip)
 (.exit 4)))
 (.seq (.block 5 (.region [Lw 43 14,
 Lw 44 7,
 Ibn 45 .mul 43 44,
 Lw 46 15,
 Ibn 47 .add 45 46,
 Lw 48 10,
 Lw 49 14,
 Lw 50 15,
 Iia 51 Sx6 48 49,
 Iis 52 64 .leaf 51 50,
 Ilx 53 52,
 Iis 54 64 .leaf 12 47,
 Ls (.store false .leaf (.t 54) (.t 53))] [0,5,6,7,8,9,10,11,12,13,14,15]))
 (.region [Lw 41 15,
 Ibc 42 .add 41 1,
 Lw 15 42] [0,5,6,7,8,9,10,11,12,13,14,15]))
def Z3n_L1:Cd:=
 .seq (Irg [Lw 32 14,
 Lw 33 10,
 Ien 34 33,
 Ibn 35 .lss 32 34] [0,5,6,7,8,9,10,11,12,13,14,35]
 (Icd 35
 (.skip)
 (.exit 2)))
 (.seq (.block 3 (.seq (Irg [Imc 15 0] [0,5,6,7,8,9,10,11,12,13,14,15]
 (.block 4 (.loop (Z3n_L0))))
 (.region [Lw 55 10,
 Lw 56 14,
 Lw 57 0,
 Lw 58 10,
 Lw 59 14,
 Iia 60 Sx6 58 59,
 Ipx 61 60,
 Ipx 62 5,
 Ll 63 (Ofx F3p [(.t 57),(.t 61),(.t 62)]),
 Iia 64 Sx6 55 56,
 Ls (.store false Sx6 (.t 64) (.t 63))] [0,5,6,7,8,9,10,11,12,13,14])))
 (.region [Lw 36 14,
 Ibc 37 .add 36 1,
 Lw 14 37] [0,5,6,7,8,9,10,11,12,13,14]))
def Z3n_L2:Cd:=
 .seq (Irg [Lw 67 16,
 Lw 68 8,
 Ien 69 68,
 Ibn 70 .lss 67 69] [0,5,6,7,8,9,10,11,12,13,16,70]
 (Icd 70
 (.skip)
 (.exit 6)))
 (.seq (.block 7 (Irg [Lw 73 8,
 Lw 74 16,
 Iia 75 Sx6 73 74,
 Ipx 76 75,
 Ll 77 (Ofx F35 [(.t 76)]),
 Lw 17 77] [0,5,6,7,8,9,10,11,12,13,16,17]
 (Irg [Lw 78 17,
 Iis 79 64 .leaf 12 78,
 Ilx 80 79,
 Ll 81 (.bin .neq (.t 80) (.c (.int .u8 0)))] [0,5,6,7,8,9,10,11,12,13,16,17,81]
 (Icd 81
 (Irg [Lw 82 17,
 Iis 83 64 .leaf 12 82,
 Ilx 84 83,
 Icv 85 .i64 84,
 Ll 86 (.un .neg (.t 85)),
 Lw 18 86] [0,5,6,7,8,9,10,11,12,13,16,18]
 (Irg [Lw 87 0,
 Ipx 88 12,
 Lw 89 8,
 Lw 90 16,
 Iia 91 Sx6 89 90,
 Ipx 92 91,
 Lw 93 18,
 Ll 94 (Ofx F31 [(.t 87),(.t 88),(.t 92),(.t 93)]),
 Ls (.store false Sx6 (.t 12) (.t 94))] [0,5,6,7,8,9,10,11,12,13,16,18]
 (.region [Lw 95 0,
 Ipx 96 13,
 Lw 97 9,
 Lw 98 16,
 Iia 99 Sx6 97 98,
 Ipx 100 99,
 Lw 101 18,
 Ll 102 (Ofx F31 [(.t 95),(.t 96),(.t 100),(.t 101)]),
 Ls (.store false Sx6 (.t 13) (.t 102))] [0,5,6,7,8,9,10,11,12,13,16])))
 (.skip)))))
 (.region [Lw 71 16,
 Ibc 72 .add 71 1,
 Lw 16 72] [0,5,6,7,8,9,10,11,12,13,16]))
def Z3n_L3:Cd:=
 .seq (.block 1 (Irg [Iz6 30,
 Iz6 31,
 Ibz 12 6,
 Ibz 13 7,
 Ls (.store false Sx6 (.t 12) (.t 30)),
 Ls (.store false Sx6 (.t 13) (.t 31))] [0,5,6,7,8,9,10,11,12,13]
 (.seq (Irg [Imc 14 0] [0,5,6,7,8,9,10,11,12,13,14]
 (.block 2 (.loop (Z3n_L1))))
 (Irg [Lw 65 11,
 Iis 66 64 .leaf 13 65,
 Ls (.store false .leaf (.t 66) (.c (.int .u8 1)))] [0,5,6,7,8,9,10,11,12,13]
 (.seq (Irg [Imc 16 0] [0,5,6,7,8,9,10,11,12,13,16]
 (.block 6 (.loop (Z3n_L2))))
 (Irg [Ipx 103 12,
 Ll 104 (Ofx F35 [(.t 103)]),
 Lw 19 104] [0,5,6,7,8,9,10,11,12,13,19]
 (.seq (Irg [Lw 105 19,
 Ibc 106 .lss 105 0] [0,5,6,7,8,9,10,11,12,13,19,106]
 (Icd 106
 (Irg [Ipx 107 13,
 Ls (.store false Sx6 (.t 6) (.t 107))] [6]
 (.ret))
 (.skip)))
 (Irg [Lw 108 0,
 Lw 109 19,
 Iis 110 64 .leaf 12 109,
 Ilx 111 110,
 Ll 112 (Ofx F39 [(.t 108),(.t 111)]),
 Icv 113 .i64 112,
 Lw 20 113] [0,5,6,7,8,9,10,11,12,13,20]
 (Irg [Lw 114 8,
 Lw 115 0,
 Iz6 116,
 Ipx 117 12,
 Lw 118 20,
 Ll 119 (Ofx F31 [(.t 115),(.t 116),(.t 117),(.t 118)]),
 Ll 120 (.buildSl false 8 Sx6 (.arr 64 .leaf z64) 1 [(0,(.t 119))]),
 Ll 121 (.append Sx6 9 64 (.t 114) (.t 120)),
 Lw 8 121] [0,5,6,7,8,9,10,11,13,20]
 (.region [Lw 122 9,
 Lw 123 0,
 Iz6 124,
 Ipx 125 13,
 Lw 126 20,
 Ll 127 (Ofx F31 [(.t 123),(.t 124),(.t 125),(.t 126)]),
 Ll 128 (.buildSl false 10 Sx6 (.arr 64 .leaf z64) 1 [(0,(.t 127))]),
 Ll 129 (.append Sx6 11 64 (.t 122) (.t 128)),
 Lw 9 129] [0,5,6,7,8,9,10,11]))))))))))
 (.region [Lw 28 11,
 Ibc 29 .add 28 1,
 Lw 11 29] [0,5,6,7,8,9,10,11])
def Z3n_B:Cd:=
 Irg [Ibx 5 0 2,
 Ibz 6 1] [0,1,5,6]
 (Irg [Ipx 21 5,
 Ll 22 (Ofx F35 [(.t 21)]),
 Lw 7 22] [0,1,5,6,7]
 (Irg [Ll 23 (.buildSl false 2 Sx6 (.arr 64 .leaf z64) 0 []),
 Ll 24 (.buildSl false 3 Sx6 (.arr 64 .leaf z64) 0 []),
 Lw 8 23,
 Lw 9 24] [0,1,5,6,7,8,9]
 (Irg [Ll 25 (.buildSl false 4 Sx6 (.arr 64 .leaf z64) 0 []),
 Lw 26 1,
 Ll 27 (.append Sx6 5 64 (.t 25) (.t 26)),
 Lw 10 27] [0,5,6,7,8,9,10]
 (Irg [Imc 11 0] [0,5,6,7,8,9,10,11]
 (.block 0 (.loop (Z3n_L3)))))))
def Z3n:Fn:=
 { nparams:=3,nblk:=12,results:=[.cell 6 Sx6],body:=Z3n_B }
def Z3o_L0:Cd:=
 .seq (Irg [Lw 9 6,
 Ipx 10 3,
 Ll 11 (Ofx F35 [(.t 10)]),
 Ibn 12 .lss 9 11] [0,3,4,5,6,12]
 (Icd 12
 (.skip)
 (.exit 0)))
 (.seq (.block 1 (Irg [Iz6 15,
 Ibz 7 3,
 Ls (.store false Sx6 (.t 7) (.t 15))] [0,3,4,5,6,7]
 (Irg [Lw 16 6,
 Iis 17 64 .leaf 7 16,
 Ls (.store false .leaf (.t 17) (.c (.int .u8 1)))] [0,3,4,5,6,7]
 (.region [Lw 18 5,
 Ipx 19 7,
 Ll 20 (.buildSl false 4 Sx6 (.arr 64 .leaf z64) 1 [(0,(.t 19))]),
 Ll 21 (.append Sx6 5 64 (.t 18) (.t 20)),
 Lw 5 21] [0,3,4,5,6]))))
 (.region [Lw 13 6,
 Ibc 14 .add 13 1,
 Lw 6 14] [0,3,4,5,6]))
def Z3o_B:Cd:=
 Irg [Ibx 3 0 1,
 Ibz 4 1] [0,3,4]
 (Irg [Ll 8 (.buildSl false 2 Sx6 (.arr 64 .leaf z64) 0 []),
 Lw 5 8] [0,3,4,5]
 (.seq (Irg [Imc 6 0] [0,3,4,5,6]
 (.block 0 (.loop (Z3o_L0))))
 (Irg [Lw 22 0,
 Lw 23 5,
 Ipx 24 3,
 Ll 25 (Ofx F3n [(.t 22),(.t 23),(.t 24)]),
 Ls (.store false Sx6 (.t 4) (.t 25))] [4]
 (.ret))))
def Z3o:Fn:=
 { nparams:=2,nblk:=6,results:=[.cell 4 Sx6],body:=Z3o_B }
def Z2z_B:Cd:=
 Irg [Ibx 3 0 1,
 Ibz 4 1,
 Imc 5 0] [0,3,4]
 (.seq (Irg [Lw 7 0,
 Ipx 8 3,
 Ll 9 (Ofx F3m [(.t 7),(.t 8),(.c (.sl Sx6 []))]),
 Lw 6 9] [0,3,4,6]
 (Irg [Lw 10 6,
 Ibc 11 .neq 10 0] [0,3,4,6,11]
 (Icd 11
 (Irg [Iz6 12,
 Lw 13 6,
 Ls (.store false Sx6 (.t 4) (.t 12)),
 Lw 5 13] [4,5]
 (.ret))
 (.skip))))
 (Irg [Lw 14 0,
 Ipx 15 3,
 Ll 16 (Ofx F3o [(.t 14),(.t 15)]),
 Ls (.store false Sx6 (.t 4) (.t 16)),
 Imc 5 0] [4,5]
 (.ret)))
def Z2z:Fn:=
 { nparams:=2,nblk:=2,results:=[.cell 4 Sx6,.tmp 5],body:=Z2z_B }
end Pe

namespace Gq
section
variable {K:Type} [Fd K]
theorem Pol.mod_eq_iff {a b m:Pol K} (hm:m≠0):a%m=b%m↔Quo.mk m a=Quo.mk m b:=by
 rw [Quo.eq];constructor
 ·intro h
  refine ⟨a/m-b/m,?_⟩;have h1:=div_mod a m;have h2:=div_mod b m;rw [h] at h1;generalize a/m=q at *;generalize b/m=q' at *;rw [h1];have e:q*m+b%m=(q'*m+b%m)+m*(q-q'):=bq [q,q',m,b%m] rfl;rw [e,←h2]
 ·rintro ⟨c,rfl⟩
  have h2:=div_mod b m;refine (div_mod_eq (q:=b/m+c) ?_ (len_mod b hm)).2;have e:b+m*c=(b/m*m+b%m)+m*c:=by rw [←h2]
  rw [e];exact bq [b/m,m,b%m,c] rfl
theorem Pol.mk_mod (a m:Pol K):Quo.mk m (a%m)=Quo.mk m a:=by
 rw [Quo.eq];refine ⟨-(a/m),?_⟩;have h:=div_mod a m;have e:a%m=(a/m*m+a%m)+m * -(a/m):=bq [a/m,m,a%m] rfl;rw [e,←h]
theorem Pol.mod_small {a m:Pol K} (h:a.len<m.len):a%m=a:=(div_mod_eq (q:=0) (by rw [zero_mul,zero_add]) h).2
theorem Pol.zero_mod {m:Pol K} (hm:m≠0):(0:Pol K)%m=0:=mod_small (by rw [len_zero]; exact len_pos hm)
theorem Pol.div_small {a m:Pol K} (h:a.len<m.len):a/m=0:=(div_mod_eq (q:=0) (by rw [zero_mul,zero_add]) h).1
theorem Pol.mod_mod (a:Pol K) {m:Pol K} (hm:m≠0):a%m%m=a%m:=mod_small (len_mod a hm)
theorem Pol.mul_mod_left (a b:Pol K) {m:Pol K} (hm:m≠0):(a%m)*b%m=a*b%m:=by
 rw [mod_eq_iff hm,Quo.mk_mul,Quo.mk_mul,mk_mod]
theorem Pol.mod_self_mul (a:Pol K) {m:Pol K} (hm:m≠0):(a*m)%m=0:=
 (div_mod_eq (q:=a) (by rw [add_zero]) (by rw [len_zero]; exact len_pos hm)).2
theorem Pol.len_mod_le (a:Pol K) {m:Pol K} (hm:m≠0):(a%m).len≤a.len:=by
 rcases dt a.len m.len with h | h
 ·rw [mod_small h]; exact bj _
 ·have:=len_mod a hm; omega
theorem Pol.len_div {a m:Pol K} (hm:m≠0) (h:m.len≤a.len):(a/m).len+m.len=a.len+1:=by
 have h1:=div_mod a m;have h2:=len_mod a hm;have h3:=len_pos hm
 by_cases hq:a/m=0
 ·rw [hq,zero_mul,zero_add] at h1
  rw [←h1] at h2; omega
 ·have h4:=len_mul hq hm
  have h5:=len_pos hq
  have e:a.len=(a/m*m).len:=by
   apply Nat.le_antisymm
   ·rw [h1]
    exact len_le (lt_add (by rw [←h1]; exact lt_len _) (lt_iff.2 (by rw [←h1]; omega)))
   ·have:a/m*m=a-a%m:=by
     have e:a-a%m=(a/m*m+a%m)-a%m:=by rw [←h1]
     rw [e]; exact bq [a/m*m,a%m] rfl
    rw [this];exact len_le (lt_sub a.lt_len (lt_iff.2 (by omega)))
  omega
theorem Pol.len_div_le (a:Pol K) {m:Pol K} (hm:m≠0):(a/m).len≤a.len:=by
 rcases dt a.len m.len with h | h
 ·rw [div_small h,len_zero]; omega
 ·have:=len_div hm h
  have:=len_pos hm;omega
theorem v5 {R:Type} [CR R] (a:R) (m:Nat):∀n,pw a (m+n)=pw a m*pw a n
 | 0=>(mul_one _).symm
 | n+1=>by rw [←eh,pw,v5 a m n,pw,mul_assoc]
theorem sb {R:Type} [CR R] (a b:R):∀n,pw (a*b) n=pw a n*pw b n
 | 0=>(mul_one _).symm
 | n+1=>by rw [pw,pw,pw,sb a b n]; exact bq [a,b,pw a n,pw b n] rfl
theorem qw {R:Type} [CR R] (a:R) (m:Nat):∀n,pw (pw a m) n=pw a (m*n)
 | 0=>rfl
 | n+1=>by rw [pw,qw a m n,Nat.mul_succ,v5]
theorem xq {R:Type} [CR R]:∀n,pw (1:R) n=1
 | 0=>rfl
 | n+1=>by rw [pw,xq n,mul_one]
theorem rc {R:Type} [CR R] (a:R):pw a 1=a:=one_mul a
theorem Pol.pow_mod (a:Pol K) {m:Pol K} (hm:m≠0) (n:Nat):pw (a%m) n%m=pw a n%m:=by
 rw [mod_eq_iff hm,Quo.mk_pow,Quo.mk_pow,mk_mod]
theorem Pol.bin_step {out base m:Pol K} (hm:m≠0) (k:Nat) (_hk:0<k) :
 (if k%2=1 then out*base%m else out)*pw (base*base%m) (k/2)%m=out*pw base k%m:=by
 rw [mod_eq_iff hm,Quo.mk_mul,Quo.mk_mul,Quo.mk_pow,mk_mod,Quo.mk_mul,sb,Quo.mk_pow,←v5]
 split
 ·rename_i h
  rw [mk_mod,Quo.mk_mul];have e:k=1+(k/2+k/2):=by omega
  have e2:pw (Quo.mk m base) k=Quo.mk m base*pw (Quo.mk m base) (k/2+k/2):=by
   have:=v5 (Quo.mk m base) 1 (k/2+k/2)
   rwa [←e,rc] at this
  rw [e2,mul_assoc]
 ·rename_i h
  have e:k/2+k/2=k:=by omega
  rw [e]
open Classical in
noncomputable def Pol.bz:Nat→Pol K→Pol K→Pol K→Pol K→Pol K→Pol K→Pol K×Pol K×Pol K
 | 0,a,_,u,_,v,_=>(a,u,v)
 | n+1,a,b,u,x,v,y=>if b=0 then (a,u,v) else bz n b (a%b) x (u-a/b*x) y (v-a/b*y)
structure Pol.BzI (A B a b u x v y:Pol K):Prop where
 one:u*A+v*B=a
 two:x*A+y*B=b
 lx:x.len=0∨x.len+a.len≤B.len+1
 ly:y.len=0∨y.len+a.len≤A.len+1
 lu:u.len=0∨u.len+b.len≤B.len+1
 lv:v.len=0∨v.len+b.len≤A.len+1
 any:a≠0∨b≠0
theorem Pol.BzI.init {A B:Pol K} (h:A≠0∨B≠0):BzI A B A B 1 0 0 1:=
 ⟨bq [A,B] rfl,bq [A,B] rfl,.inl len_zero,.inr (by rw [len_one]; omega),.inr (by rw [len_one]; omega),.inl len_zero,h⟩
theorem Pol.len_sub_le {a b:Pol K} {n:Nat} (ha:a.len≤n) (hb:b.len≤n):(a-b).len≤n:=len_le (lt_sub (lt_iff.2 ha) (lt_iff.2 hb))
theorem Pol.len_add_le {a b:Pol K} {n:Nat} (ha:a.len≤n) (hb:b.len≤n):(a+b).len≤n:=len_le (lt_add (lt_iff.2 ha) (lt_iff.2 hb))
theorem Pol.BzI.qlen {A B a b u x v y:Pol K} (h:BzI A B a b u x v y) (hb:b≠0) :
 ((a/b*x).len=0∨(a/b*x).len+b.len≤B.len+1)∧((a/b*y).len=0∨(a/b*y).len+b.len≤A.len+1):=by
 have key:∀(x:Pol K) (n:Nat),(x.len=0∨x.len+a.len≤n+1)→((a/b*x).len=0∨(a/b*x).len+b.len≤n+1):=by
  intro x n hx
  by_cases hx0:x=0
  ·left; rw [hx0,mul_zero,len_zero]
  ·rcases dt a.len b.len with hl | hl
   ·left; rw [div_small hl,zero_mul,len_zero]
   ·have h1:=len_div hb hl
    have hq:a/b≠0:=fun h0=>by
     rw [h0,len_zero] at h1;omega
    have h2:=len_mul hq hx0;have h3:=len_pos hx0;right; omega
 exact ⟨key x B.len h.lx,key y A.len h.ly⟩
theorem Pol.BzI.step {A B a b u x v y:Pol K} (h:BzI A B a b u x v y) (hb:b≠0):BzI A B b (a%b) x (u-a/b*x) y (v-a/b*y):=by
 have hm:=div_mod a b;have hl:=len_mod a hb;have hle:=len_mod_le a hb;obtain ⟨q1,q2⟩:=h.qlen hb
 have sub:∀(u q:Pol K) (n:Nat),(u.len=0∨u.len+b.len≤n+1)→(q.len=0∨q.len+b.len≤n+1)→((u-q).len=0∨(u-q).len+b.len≤n+1):=by
  intro u q n h1 h2
  by_cases hn:n+1≤b.len
  ·left
   have e1:u.len=0:=by omega
   have e2:q.len=0:=by omega
   have:=len_sub_le (a:=u) (b:=q) (n:=0) (by omega) (by omega)
   omega
  ·right
   have:=len_sub_le (a:=u) (b:=q) (n:=n+1-b.len) (by omega) (by omega)
   omega
 refine ⟨h.two,?_,sub _ _ _ h.lu q1,sub _ _ _ h.lv q2,?_,?_,.inl hb⟩
 ·have e:(u-a/b*x)*A+(v-a/b*y)*B=(u*A+v*B)-a/b*(x*A+y*B):=bq [u,a/b,x,A,v,y,B] rfl
  rw [e,h.one,h.two];have e2:a-a/b*b=(a/b*b+a%b)-a/b*b:=by rw [←hm]
  rw [e2];exact bq [a/b,b,a%b] rfl
 ·exact h.lx.imp id fun h=>by omega
 ·exact h.ly.imp id fun h=>by omega
theorem Pol.bz_spec {A B:Pol K}:∀(n:Nat) (a b u x v y:Pol K),b.len≤n→BzI A B a b u x v y →
 ∃x' y',BzI A B (bz n a b u x v y).1 0 (bz n a b u x v y).2.1 x' (bz n a b u x v y).2.2 y'∧(∃s,a=s*(bz n a b u x v y).1)∧(∃s,b=s*(bz n a b u x v y).1)
 | 0,a,b,u,x,v,y,hn,h=>by
  obtain rfl:=len_zero_iff.1 (show b.len=0 by omega)
  exact ⟨x,y,h,⟨1,(one_mul a).symm⟩,⟨0,(zero_mul a).symm⟩⟩
 | n+1,a,b,u,x,v,y,hn,h=>by
  unfold bz
  split
  ·rename_i hb
   subst hb;exact ⟨x,y,h,⟨1,(one_mul a).symm⟩,⟨0,(zero_mul a).symm⟩⟩
  ·rename_i hb
   have hl:=len_mod a hb;obtain ⟨x',y',h1,⟨s,h2⟩,⟨t,h3⟩⟩:=bz_spec n b (a%b) x (u-a/b*x) y (v-a/b*y) (by omega) (h.step hb)
   refine ⟨x',y',h1,⟨a/b*s+t,?_⟩,⟨s,h2⟩⟩;generalize (bz n b (a%b) x (u-a/b*x) y (v-a/b*y)).1=d at *;have e:(a/b*s+t)*d=a/b*(s*d)+t*d:=bq [a/b,s,t,d] rfl;rw [e,←h2,←h3];exact div_mod a b
noncomputable def Pol.eu (a b:Pol K):Pol K×Pol K×Pol K:=bz b.len a b 1 0 0 1
noncomputable def Pol.bezout (a b:Pol K):Pol K×Pol K×Pol K:=
 let r:=eu a b
 (C (Fd.inv r.1.ld)*r.1,C (Fd.inv r.1.ld)*r.2.1,C (Fd.inv r.1.ld)*r.2.2)
noncomputable def Pol.gcd (a b:Pol K):Pol K:=(bezout a b).1
end
end Gq

namespace Pe
open Go Gq
variable {T:Nat→Option Fn} {A:ap}
theorem a4o {p:Int} (a:Fp p) (h:a.len≤64):trim (pad (row a))=row a:=yv fun i=>by rw [yr (by rw [bf]; exact h),gd]
theorem Bl {l:List Int} {i:Nat} (h:i<l.length):l.take i++[l[i]]=l.take (i+1):=by
 rw [List.take_add_one,b7 h]; rfl
theorem Xi {O:ap} {l:List Int} (hb:kh l) (hl:l.length=64):∀(m i:Nat) (cp:Option Nat),i+m=64 →
 dn O 0 (.loop Z1q_L0) ⟨[(3,.sl 1 [] 0 i cp),(6,(.d (.arr 64 .leaf (ah .u8 l)))),(7,(.d (.int .i64 i)))],[.hole,.sl false .leaf (ah .i64 (l.take i)),.hole,.hole]⟩ =
  some (.exit 0,⟨[(3,.sl 1 [] 0 64 (if m=0 then cp else none)),(6,(.d (.arr 64 .leaf (ah .u8 l)))),(7,(.d (.int .i64 64))),(8,(.d (.bool false)))],[.hole,.sl false .leaf (ah .i64 (l.take 64)),.hole,.hole]⟩)
 | 0,i,cp,hi=>by
  have:i=64:=by omega
  subst this;exact cg (by simp -implicitDefEqProofs [Z1q_L0,az])
 | m+1,i,cp,hi=>by
  have h1:(i:Int)<64:=by omega
  have hlt:i<l.length:=by omega
  have hx:l[i]? = some l[i]:=b7 hlt;have hb':=hb _ (c6 hlt);have w1:IntKind.i64.wrap l[i]=l[i]:=w64 (by omega)
  have w4:IntKind.i64.wrap ((i:Int)+1)=((i+1:Nat):Int):=(w64 (x:=(i:Int)+1) (by omega)).trans (by omega)
  have h8:(i+1)*8≤1099511627776:=by omega
  have hlen:i≤l.length:=by omega
  have ht:(l.take i).take i=l.take i:=by rw [List.take_take,Nat.min_self]
  have e1:ah .i64 (l.take i)++[D.int .i64 l[i]]=ah .i64 (l.take (i+1)):=by rw [←Bl hlt,←Gf]; rfl
  have ih:=Xi (O:=O) hb hl m (i+1) none (by omega)
  have e2:(if m=0 then (none:Option Nat) else none)=none:=by split <;> rfl
  rw [e2] at ih;rw [if_neg (Nat.succ_ne_zero m)];refine c8 ?_ ih;simp -implicitDefEqProofs [Z1q_L0,az,h1,hlt,w1,w4,h8,hlen,ht,e1,List.replicate]
def Nu (O:ap):Prop:=∀l:List Int,kh l→l.length=64→ask O F1q [(D.arr 64 .leaf (ah .u8 l))]=some (D.sl .leaf (ah .i64 (trim l)))
theorem a66 (hT:T F1q=some Z1q) (ht:u5 (den T A)):Nu (den T A):=by
 intro l hb hl;have e:=Xi (O:=den T A) hb hl 64 0 (some 0) (bv _);have e0:((0:Nat):Int)=0:=rfl;rw [e0,iq,jf,bb (by omega)] at e
 have e1:=ht l (by omega)
 have ht:l.take 64=l:=bb (by omega)
 refine cd hT rfl ?_;simp -implicitDefEqProofs [Z1q,Z1q_B,e,e1,hl,ht]
def qa (O:ap):Prop:=∀(p:Int) [IsP p] (a:Fp p),a.len≤64→ask O F1q [(D.arr 64 .leaf (ah .u8 (pad (row a))))]=some (D.sl .leaf (ah .i64 (row a)))
theorem lh {p:Int} [IsP p] (a:Fp p):kh (pad (row a)):=fun x hx=>by
 obtain ⟨i,_,rfl⟩:=ch.1 hx;have:=(ko a).le IsP.pos i;have:=IsP.le (p:=p);omega
theorem a6b {O:ap} (h:Nu O):qa O:=fun p i a hl=>by
 rw [h _ (lh a) (c5 _),a4o a hl]
theorem a4h {O:ap} {l z:List Int} (hb:kh l) (hl:l.length≤64):∀(m i:Nat) (cur:List Int),i+m=l.length→cur.length=64 →
 dn O 0 (.loop Z1v_L0) ⟨[(2,.ptr 0 []),(3,.ptr 1 []),(6,(.d (.sl .leaf (ah .i64 l)))),(7,(.d (.int .i64 l.length))),(8,(.d (.int .i64 i)))],[.box false (D.arr 64 .leaf (ah .u8 z)),.box false (D.arr 64 .leaf (ah .u8 cur))]⟩ =
  some (.exit 0,⟨[(2,.ptr 0 []),(3,.ptr 1 []),(6,(.d (.sl .leaf (ah .i64 l)))),(7,(.d (.int .i64 l.length))),(8,(.d (.int .i64 l.length))),(9,(.d (.bool false)))],[.box false (D.arr 64 .leaf (ah .u8 z)),.box false (D.arr 64 .leaf (ah .u8 (upd (cf l) m i cur)))]⟩)
 | 0,i,cur,hi,hc=>by
  have:i=l.length:=by omega
  subst this;exact cg (by simp -implicitDefEqProofs [Z1v_L0,az,upd])
 | m+1,i,cur,hi,hc=>by
  have hlt:i<l.length:=by omega
  have hx:l[i]? = some (cf l i):=by rw [b7 hlt,fp hlt]
  have hb':=hb _ (c6 hlt);rw [←fp hlt] at hb';have w1:IntKind.u8.wrap l[i]=cf l i:=by rw [←fp hlt]; exact w8 hb'
  have w4:IntKind.i64.wrap ((i:Int)+1)=((i+1:Nat):Int):=(w64 (x:=(i:Int)+1) (by omega)).trans (by omega)
  have hi64:i<64:=by omega
  have hcur:cur[i]? = some (cf cur i):=by rw [b7 (by omega),fp]
  have ih:=a4h (O:=O) (z:=z) hb hl m (i+1) (cur.set i (cf l i)) (by omega) (by simpa using hc)
  refine c8 ?_ ih;simp -implicitDefEqProofs [Z1v_L0,az,hlt,w1,w4,hi64,hcur]
def Of (O:ap):Prop:=∀l:List Int,kh l→l.length≤64→ask O F1v [(D.sl .leaf (ah .i64 l))]=some (D.arr 64 .leaf (ah .u8 (pad l)))
theorem a7j {l:List Int} (_hl:l.length≤64):upd (cf l) l.length 0 (pad [])=pad l:=by
 symm
 apply I6
 ·rw [xn,c5]
 ·intro i hi
  unfold cf;rw [cz,cz,H6]
  by_cases h:i<l.length
  ·rw [if_pos (by rw [c5]; omega)]
   simp [h]
  ·rw [if_neg (by omega),ce (by omega),pf _ _ hi]; rfl
theorem aav (hT:T F1v=some Z1v):Of (den T A):=by
 intro l hb hl;have e:=a4h (O:=den T A) (z:=pad []) hb hl l.length 0 (pad []) (bv _) (c5 []);have e0:((0:Nat):Int)=0:=rfl;rw [e0,a7j hl] at e;refine cd hT rfl ?_;simp -implicitDefEqProofs [Z1v,Z1v_B,e]
theorem sa {p:Int} [IsP p] (a:Fp p):kh (row a):=fun x hx=>by
 have:=ko a x hx;have:=IsP.le (p:=p);omega
def N0 (O:ap):Prop:=∀(p:Int) [IsP p] (a:Fp p),a.len≤64→ask O F1v [(D.sl .leaf (ah .i64 (row a)))]=some (D.arr 64 .leaf (ah .u8 (pad (row a))))
theorem aa5 {O:ap} (h:Of O):N0 O:=fun p i a hl=>h _ (sa a) (by simpa using hl)
def V7 (O:ap):Prop:=∀l:List Int,l.length<1000000→ask O F1t [(D.sl .leaf (ah .i64 l))]=some (D.bool (decide (l.length≤64)))
theorem aa3 (hT:T F1t=some Z1t) (hd:me (den T A)):V7 (den T A):=by
 intro l hl;have e:=hd l hl;have e2:decide ((l.length:Int)-1≤63)=decide (l.length≤64):=decide_eq_decide.2 (by omega)
 refine cd hT rfl ?_;simp -implicitDefEqProofs [Z1t,Z1t_B,e,e2]
def G1 (l:List Int):D:=if l.length≤64 then .tup [(D.arr 64 .leaf (ah .u8 (pad l))),(D.int .i64 0)] else .tup [(D.arr 64 .leaf (ah .u8 (pad []))),(D.int .i64 3)]
def zu (O:ap):Prop:=∀l:List Int,kh l→l.length<1000000→ask O F1x [(D.sl .leaf (ah .i64 l))]=some (G1 l)
theorem ab6 (hT:T F1x=some Z1x) (hf:V7 (den T A)) (hp:Of (den T A)):zu (den T A):=by
 intro l hb hl;have e:=hf l hl;unfold G1;refine cd hT rfl ?_
 by_cases h:l.length≤64
 ·have e2:=hp l hb h
  simp -implicitDefEqProofs [Z1x,Z1x_B,e,e2,h,az]
 ·simp -implicitDefEqProofs [Z1x,Z1x_B,e,h,az]
def uo (O:ap):Prop:=∀(p:Int) [IsP p] (a b:Fp p),b≠0→a.len<5000→b.len<5000 →
 ask O F1k [(D.int .i64 p),(D.sl .leaf (ah .i64 (row a))),(D.sl .leaf (ah .i64 (row b)))]=some (D.sl .leaf (ah .i64 (row (a%b))))
theorem a9k (hT:T F1k=some Z1k) (hd:t7 (den T A)):uo (den T A):=by
 intro p i a b hb h1 h2;have e:=hd p a b hb h1 h2;refine cd hT rfl ?_;simp -implicitDefEqProofs [Z1k,Z1k_B,e]
end Pe
namespace Pe
open Go Gq
variable {T:Nat→Option Fn} {A:ap}
section
variable {p:Int} [IsP p]
theorem su:row (1:Fp p)=[1]:=by
 unfold row;rw [Pol.len_one];show [rep ((1:Fp p).c 0)]=[1];have:(1:Fp p).c 0=1:=rfl;rw [this,qb]
end
section
variable {p:Int}
theorem Cr (u z:Fp p):u+Pol.C (zp p (-1))*z=u-z:=by
 rw [J2,zh,Pol.C_neg,Pol.C_one];exact bq [u,z] rfl
end
section
variable {p:Int} [IsP p]
end
def rx (O:ap):Prop:=∀(p:Int) [IsP p] (a b:Fp p),a.len<1000000→b.len<1000000 →
 ask O F13 [(D.int .i64 p),(D.sl .leaf (ah .i64 (row a))),(D.sl .leaf (ah .i64 (row b))),(D.int .i64 (-1))]=some (D.sl .leaf (ah .i64 (row (a-b))))
theorem Th {O:ap} (h:fu O):rx O:=fun p i a b h1 h2=>by
 rw [h p (-1) a b (by omega) (by omega) h1 h2,Cr]
def C5 (O:ap):Prop:=∀(p:Int) [IsP p] (a b:Fp p),a.len<1000000→b.len<1000000 →
 ask O F13 [(D.int .i64 p),(D.sl .leaf (ah .i64 (row a))),(D.sl .leaf (ah .i64 (row b))),(D.int .i64 1)]=some (D.sl .leaf (ah .i64 (row (a+b))))
theorem Vy {O:ap} (h:fu O):C5 O:=fun p i a b h1 h2=>by
 rw [h p 1 a b (by omega) (by omega) h1 h2,zh,Pol.C_one,Gq.one_mul]
section
variable {p:Int} [IsP p]
theorem Ht {A B a b u x v y:Fp p} (h:Pol.BzI A B a b u x v y) (hA:A.len≤2000) (hB:B.len≤2000) (ha:a.len≤2000) (hb:b.len≤2000) (hb0:b≠0) :
 u.len<3000∧v.len<3000∧x.len<3000∧y.len<3000∧(a/b).len<3000∧(a%b).len≤2000∧(a/b*x).len<3000∧(a/b*y).len<3000:=by
 have h1:=h.lu;have h2:=h.lv;have h3:=h.lx;have h4:=h.ly;have h5:=Pol.len_div_le a hb0;have h6:=Pol.len_mod_le a hb0;obtain ⟨h7,h8⟩:=h.qlen hb0;omega
theorem a2e {O:ap} (hd:t7 O) (ht:rh O) (hc:rx O) {A B:Fp p} (hA:A.len≤2000) (hB:B.len≤2000):∀(n:Nat) (a b u x v y:Fp p),b.len≤n→a.len≤2000→b.len≤2000→Pol.BzI A B a b u x v y→∃x' y',
 dn O 0 (.loop Z12_L0) ⟨[(0,(.d (.int .i64 p))),(1,(.d (.sl .leaf (ah .i64 (row a))))),(2,(.d (.sl .leaf (ah .i64 (row b))))),(9,(.d (.sl .leaf (ah .i64 (row u))))),(10,(.d (.sl .leaf (ah .i64 (row v))))),(11,(.d (.sl .leaf (ah .i64 (row x))))),(12,(.d (.sl .leaf (ah .i64 (row y)))))],[.hole,.hole]⟩ =
  some (.exit 0,⟨[(0,(.d (.int .i64 p))),(1,(.d (.sl .leaf (ah .i64 (row (Pol.bz n a b u x v y).1))))),(2,(.d (.sl .leaf (ah .i64 ([]))))),(9,(.d (.sl .leaf (ah .i64 (row (Pol.bz n a b u x v y).2.1))))),(10,(.d (.sl .leaf (ah .i64 (row (Pol.bz n a b u x v y).2.2))))),(11,(.d (.sl .leaf (ah .i64 x')))),(12,(.d (.sl .leaf (ah .i64 y')))),(20,(.d (.bool false)))],[.hole,.hole]⟩):=by
 intro n
 induction n with
 | zero=>
  intro a b u x v y hn ha hb hi;obtain rfl:=Pol.len_zero_iff.1 (show b.len=0 by omega)
  exact ⟨row x,row y,cg (by simp -implicitDefEqProofs [Z12_L0,az,ee,Pol.bz,jf])⟩
 | succ n ih=>
  intro a b u x v y hn ha hb hi;unfold Pol.bz
  by_cases h0:b=0
  ·subst h0
   rw [if_pos rfl];exact ⟨row x,row y,cg (by simp -implicitDefEqProofs [Z12_L0,az,ee,jf])⟩
  ·rw [if_neg h0]
   obtain ⟨s1,s2,s3,s4,s5,s6,s7,s8⟩:=Ht hi hA hB ha hb h0;have hl:=Pol.len_mod a h0;have hp:=Pol.len_pos h0;obtain ⟨x',y',e⟩:=ih b (a%b) x (u-a/b*x) y (v-a/b*y) (by omega) hb s6 (hi.step h0)
   refine ⟨x',y',c8 ?_ e⟩;have e1:=hd p a b h0 (by omega) (by omega)
   have e2:=ht p (a/b) x (by omega) (by omega)
   have e3:=hc p u (a/b*x) (by omega) (by omega)
   have e4:=ht p (a/b) y (by omega) (by omega)
   have e5:=hc p v (a/b*y) (by omega) (by omega)
   simp -implicitDefEqProofs [Z12_L0,az,hp,e1,e2,e3,e4,e5]
end
def J9 (O:ap):Prop:=∀(p:Int) [IsP p] (a b:Fp p),(a≠0∨b≠0)→a.len≤2000→b.len≤2000 →
 ask O F12 [(D.int .i64 p),(D.sl .leaf (ah .i64 (row a))),(D.sl .leaf (ah .i64 (row b)))]=some (.tup [(D.sl .leaf (ah .i64 (row (Pol.bezout a b).1))),(D.sl .leaf (ah .i64 (row (Pol.bezout a b).2.1))),(D.sl .leaf (ah .i64 (row (Pol.bezout a b).2.2)))])
theorem uc {p:Int} [IsP p] (x:Zp p) (hx:x≠0):zp p (inv p (rep x))=Fd.inv x:=by
 have h0:=im x;have h1:rep x≠0:=fun h=>hx (ku.1 h)
 have h2:x*zp p (inv p (rep x))=1:=by
  have:zp p (rep x*inv p (rep x))=1:=by rw [←xm,a5g p _ (by omega) h0.2]; rfl
  rwa [zx,lm] at this
 have h3:=Fd.mul_inv x hx;have:Fd.inv x*(x*zp p (inv p (rep x)))=Fd.inv x*1:=by rw [h2]
 rw [←Gq.mul_assoc,Gq.mul_comm (Fd.inv x),h3,Gq.one_mul,Gq.mul_one] at this;exact this
theorem a49 (hT:T F12=some Z12) (hd:t7 (den T A)) (ht:rh (den T A)) (hc:rx (den T A)) (hld:my (den T A)) (hinv:gq (den T A)) (hs:Ag (den T A)):J9 (den T A):=by
 intro p i a b hab ha hb;have hp:=IsP.ge (p:=p);have hp7:=IsP.le (p:=p)
 -- the end
 have last:∀{x y:Fp p} {a' u v:Fp p},Pol.BzI a b a' 0 u x v y→ask (den T A) F1u [(D.sl .leaf (ah .i64 (row a')))]=some (D.int .i64 (rep a'.ld))∧ask (den T A) F18 [(D.int .i64 p),(D.int .i64 (rep a'.ld))]=some (D.int .i64 (inv p (rep a'.ld))) ∧
  ask (den T A) F1l [(D.int .i64 p),(D.sl .leaf (ah .i64 (row a'))),(D.int .i64 (inv p (rep a'.ld)))]=some (D.sl .leaf (ah .i64 (row (Pol.C (Fd.inv a'.ld)*a'))))∧ask (den T A) F1l [(D.int .i64 p),(D.sl .leaf (ah .i64 (row u))),(D.int .i64 (inv p (rep a'.ld)))]=some (D.sl .leaf (ah .i64 (row (Pol.C (Fd.inv a'.ld)*u))))∧ask (den T A) F1l [(D.int .i64 p),(D.sl .leaf (ah .i64 (row v))),(D.int .i64 (inv p (rep a'.ld)))]=some (D.sl .leaf (ah .i64 (row (Pol.C (Fd.inv a'.ld)*v)))):=by
  intro x y a' u v hi;have ha0:a'≠0:=hi.any.resolve_right (fun h=>h rfl)
  have hr:=im a'.ld;have hin:=xl p (rep a'.ld);have h1:=hi.lu;have h2:=hi.lv;rw [Pol.len_zero] at h1 h2
  have hal:a'.len<5000:=by
   have:=Pol.len_add_le (a:=u*a) (b:=v*b) (n:=4500) (by
    by_cases hu:u=0
    ·rw [hu,Gq.zero_mul,Pol.len_zero]; omega
    ·by_cases ha0:a=0
     ·rw [ha0,Gq.mul_zero,Pol.len_zero]; omega
     ·have:=Pol.len_mul hu ha0; omega) (by
    by_cases hu:v=0
    ·rw [hu,Gq.zero_mul,Pol.len_zero]; omega
    ·by_cases ha0:b=0
     ·rw [ha0,Gq.mul_zero,Pol.len_zero]; omega
     ·have:=Pol.len_mul hu ha0; omega)
   rw [hi.one] at this;omega
  have e1:=hld (row a') (by rw [bf]; omega)
  rw [vw] at e1;have e2:=hinv p (rep a'.ld) (by omega) (by omega) hr.1 hr.2
  have e3:=hs p (inv p (rep a'.ld)) a' (by omega) (by omega) (by omega)
  have e4:=hs p (inv p (rep a'.ld)) u (by omega) (by omega) (by omega)
  have e5:=hs p (inv p (rep a'.ld)) v (by omega) (by omega) (by omega)
  rw [uc _ (Pol.ld_ne ha0)] at e3 e4 e5;exact ⟨e1,e2,e3,e4,e5⟩
 have I0:=Pol.BzI.init (A:=a) (B:=b) hab;refine cd hT rfl ?_;unfold Pol.bezout Pol.eu
 by_cases h0:b=0
 ·subst h0
  have l0:=cg (O:=den T A) (np:=0) (c:=Z12_L0) (s:=⟨[(0,(.d (.int .i64 p))),(1,(.d (.sl .leaf (ah .i64 (row a))))),(2,(.d (.sl .leaf (ah .i64 ([]))))),(9,.sl 0 [] 0 1 (some 1)),(10,(.d (.sl .leaf (ah .i64 ([]))))),(11,(.d (.sl .leaf (ah .i64 ([]))))),(12,.sl 1 [] 0 1 (some 1))],[.sl false .leaf (ah .i64 [1]),.sl false .leaf (ah .i64 [1])]⟩) (s1:=⟨[(0,(.d (.int .i64 p))),(1,(.d (.sl .leaf (ah .i64 (row a))))),(2,(.d (.sl .leaf (ah .i64 ([]))))),(9,.sl 0 [] 0 1 (some 1)),(10,(.d (.sl .leaf (ah .i64 ([]))))),(11,(.d (.sl .leaf (ah .i64 ([]))))),(12,.sl 1 [] 0 1 (some 1)),(20,(.d (.bool false)))],[.sl false .leaf (ah .i64 [1]),.sl false .leaf (ah .i64 [1])]⟩) (id:=0) (by simp -implicitDefEqProofs [Z12_L0,az,jf])
  obtain ⟨e1,e2,e3,e4,e5⟩:=last I0;rw [su] at e4;rw [ee] at e5;rw [jf] at l0 e5;rw [Pol.len_zero];have o1:D.int IntKind.i64 1::[]=ah .i64 [1]:=rfl;simp -implicitDefEqProofs [Z12,Z12_B,ee,jf,Pol.bz,e1,e2,e3,e4,e5,l0,o1,List.replicate]
 ·have hp0:=Pol.len_pos h0
  have I1:=I0.step h0;obtain ⟨_,_,_,_,q5,q6,q7,q8⟩:=Ht I0 ha hb ha hb h0;have l0:=hd p a b h0 (by omega) (by omega)
  have l1:=ht p (a/b) 0 (by omega) (by rw [Pol.len_zero]; omega)
  have l2:=ht p (a/b) 1 (by omega) (by rw [Pol.len_one]; omega)
  have l3:=hc p 1 (a/b*0) (by rw [Pol.len_one]; omega) (by omega)
  have l4:=hc p 0 (a/b*1) (by rw [Pol.len_zero]; omega) (by omega)
  rw [su] at l2 l3;rw [ee,jf] at l1 l4
  have st1:dn (den T A) 0 Z12_L0 ⟨[(0,(.d (.int .i64 p))),(1,(.d (.sl .leaf (ah .i64 (row a))))),(2,(.d (.sl .leaf (ah .i64 (row b))))),(9,.sl 0 [] 0 1 (some 1)),(10,.d (.sl .leaf [])),(11,.d (.sl .leaf [])),(12,.sl 1 [] 0 1 (some 1))],[.sl false .leaf (ah .i64 [1]),.sl false .leaf (ah .i64 [1])]⟩ =
   some (.normal,⟨[(0,(.d (.int .i64 p))),(1,(.d (.sl .leaf (ah .i64 (row b))))),(2,(.d (.sl .leaf (ah .i64 (row (a%b)))))),(9,.d (.sl .leaf [])),(10,.sl 1 [] 0 1 (some 1)),(11,(.d (.sl .leaf (ah .i64 (row (1-a/b*0)))))),(12,(.d (.sl .leaf (ah .i64 (row (0-a/b*1))))))],[.hole,.sl true .leaf (ah .i64 [1])]⟩):=by
   simp -implicitDefEqProofs [Z12_L0,az,hp0,l0,l1,l2,l3,l4]
  by_cases h1:a%b=0
  ·have st2:dn (den T A) 0 Z12_L0 ⟨[(0,(.d (.int .i64 p))),(1,(.d (.sl .leaf (ah .i64 (row b))))),(2,(.d (.sl .leaf (ah .i64 (row (a%b)))))),(9,.d (.sl .leaf [])),(10,.sl 1 [] 0 1 (some 1)),(11,(.d (.sl .leaf (ah .i64 (row (1-a/b*0)))))),(12,(.d (.sl .leaf (ah .i64 (row (0-a/b*1))))))],[.hole,.sl true .leaf (ah .i64 [1])]⟩ =
    some (.exit 0,⟨[(0,(.d (.int .i64 p))),(1,(.d (.sl .leaf (ah .i64 (row b))))),(2,(.d (.sl .leaf (ah .i64 (row (a%b)))))),(9,.d (.sl .leaf [])),(10,.sl 1 [] 0 1 (some 1)),(11,(.d (.sl .leaf (ah .i64 (row (1-a/b*0)))))),(12,(.d (.sl .leaf (ah .i64 (row (0-a/b*1)))))),(20,(.d (.bool false)))],[.hole,.sl true .leaf (ah .i64 [1])]⟩):=by
    simp -implicitDefEqProofs [Z12_L0,az,h1,ee]
   have lp:=c8 st1 (cg st2)
   have hb1:Pol.bz b.len a b 1 0 0 1=(b,0,1):=by
    rw [show b.len=(b.len-1)+1 by omega,Pol.bz,if_neg h0]
    cases hn:b.len-1 with
    | zero=>rfl
    | succ n=>rw [Pol.bz,if_pos h1]
   rw [hb1];have I1':Pol.BzI a b b 0 0 (1-a/b*0) 1 (0-a/b*1):=h1▸I1;obtain ⟨e1,e2,e3,e4,e5⟩:=last I1';rw [su] at e5;rw [ee,jf] at e4;have o1:D.int IntKind.i64 1::[]=ah .i64 [1]:=rfl;simp -implicitDefEqProofs [Z12,Z12_B,e1,e2,e3,e4,e5,lp,o1,List.replicate]
  ·have hp1:=Pol.len_pos h1
   have hl1:=Pol.len_mod a h0;obtain ⟨s1,s2,s3,s4,s5,s6,s7,s8⟩:=Ht I1 ha hb hb (by omega) h1
   have m0:=hd p b (a%b) h1 (by omega) (by omega)
   have m1:=ht p (b/(a%b)) (1-a/b*0) (by omega) (by omega)
   have m2:=ht p (b/(a%b)) (0-a/b*1) (by omega) (by omega)
   have m3:=hc p 0 (b/(a%b)*(1-a/b*0)) (by omega) (by omega)
   have m4:=hc p 1 (b/(a%b)*(0-a/b*1)) (by omega) (by omega)
   rw [su] at m4;rw [ee,jf] at m3
   have st2:dn (den T A) 0 Z12_L0 ⟨[(0,(.d (.int .i64 p))),(1,(.d (.sl .leaf (ah .i64 (row b))))),(2,(.d (.sl .leaf (ah .i64 (row (a%b)))))),(9,.d (.sl .leaf [])),(10,.sl 1 [] 0 1 (some 1)),(11,(.d (.sl .leaf (ah .i64 (row (1-a/b*0)))))),(12,(.d (.sl .leaf (ah .i64 (row (0-a/b*1))))))],[.hole,.sl true .leaf (ah .i64 [1])]⟩ =
    some (.normal,⟨[(0,(.d (.int .i64 p))),(1,(.d (.sl .leaf (ah .i64 (row (a%b)))))),(2,(.d (.sl .leaf (ah .i64 (row (b%(a%b))))))),(9,(.d (.sl .leaf (ah .i64 (row (1-a/b*0)))))),(10,(.d (.sl .leaf (ah .i64 (row (0-a/b*1)))))),(11,(.d (.sl .leaf (ah .i64 (row (0-b/(a%b)*(1-a/b*0))))))),(12,(.d (.sl .leaf (ah .i64 (row (1-b/(a%b)*(0-a/b*1)))))))],[.hole,.hole]⟩):=by
    simp -implicitDefEqProofs [Z12_L0,az,hp1,m0,m1,m2,m3,m4]
   have I2:=I1.step h1;have hl2:=Pol.len_mod b h1;obtain ⟨x',y',e⟩:=a2e hd ht hc ha hb (b.len-2) _ _ _ _ _ _ (by omega) (by omega) (by omega) I2
   have lp:=c8 st1 (c8 st2 e)
   have hb1:Pol.bz b.len a b 1 0 0 1=Pol.bz (b.len-2) (a%b) (b%(a%b)) (1-a/b*0) (0-b/(a%b)*(1-a/b*0)) (0-a/b*1) (1-b/(a%b)*(0-a/b*1)):=by
    rw [show b.len=(b.len-2+1)+1 by omega,Pol.bz,if_neg h0,Pol.bz,if_neg h1]
    rfl
   rw [hb1];obtain ⟨x2,y2,I3,_,_⟩:=Pol.bz_spec (b.len-2) _ _ _ _ _ _ (by omega) I2
   obtain ⟨e1,e2,e3,e4,e5⟩:=last I3;have o1:D.int IntKind.i64 1::[]=ah .i64 [1]:=rfl;simp -implicitDefEqProofs [Z12,Z12_B,jf,e1,e2,e3,e4,e5,lp,o1,List.replicate]
def L4 (O:ap):Prop:=∀(p:Int) [IsP p] (a b:Fp p),(a≠0∨b≠0)→a.len≤2000→b.len≤2000 →
 ask O F17 [(D.int .i64 p),(D.sl .leaf (ah .i64 (row a))),(D.sl .leaf (ah .i64 (row b)))]=some (D.sl .leaf (ah .i64 (row (Pol.gcd a b))))
theorem afn (hT:T F17=some Z17) (hb:J9 (den T A)):L4 (den T A):=by
 intro p i a b hab h1 h2;have e:=hb p a b hab h1 h2;refine cd hT rfl ?_;simp -implicitDefEqProofs [Z17,Z17_B,e,Pol.gcd]
theorem aj4 (x:Int) (_h:0≤x):((BitVec.ofInt 64 x &&& 1#64).toNat:Int)=x%2:=by
 rw [BitVec.toNat_and];have e:(1#64).toNat=2^1-1:=rfl;rw [e,Nat.and_two_pow_sub_one_eq_mod,BitVec.toNat_ofInt];omega
theorem a87 (x:Int) (h:0≤x):a0e .i64 x 1=x%2:=by
 show IntKind.i64.wrap ((BitVec.ofInt 64 x &&& 1#64).toNat:Int)=_;rw [aj4 x h,w64 (by omega)]
theorem a84 (x:Int):yj .shr .i64 x 1=some (.int .i64 (x/2)):=by
 show (if (1:Int)<0 then none else some (D.int .i64 (x.fdiv (2^min (1:Int).toNat 64))))=_
 rw [if_neg (by omega)]
 congr 2
 show x.fdiv 2=x/2;rw [Int.fdiv_eq_ediv_of_nonneg _ (by omega)]
theorem a7d {O:ap} (hr:uo O) (ht:rh O) {p:Int} [IsP p] {m:Fp p} (hm:m≠0) (hml:m.len<2000):∀(n:Nat) (k:Int) (out base:Fp p),0≤k→k.toNat<2^n→k<4611686018427387904→out.len<m.len→base.len<m.len→∃base':List Int,
 dn O 0 (.loop Z1f_L0) ⟨[(0,(.d (.int .i64 p))),(2,(.d (.int .i64 k))),(3,(.d (.sl .leaf (ah .i64 (row m))))),(9,(.d (.sl .leaf (ah .i64 (row out))))),(10,(.d (.sl .leaf (ah .i64 (row base)))))],[.hole]⟩ =
  some (.exit 0,⟨[(0,(.d (.int .i64 p))),(2,(.d (.int .i64 0))),(3,(.d (.sl .leaf (ah .i64 (row m))))),(9,(.d (.sl .leaf (ah .i64 (row (out*pw base k.toNat%m)))))),(10,(.d (.sl .leaf (ah .i64 base')))),(20,(.d (.bool false)))],[.hole]⟩):=by
 intro n
 induction n with
 | zero=>
  intro k out base hk hn _ ho hb;obtain rfl:k=0:=by simp at hn; omega
  refine ⟨row base,?_⟩
  have e:out*pw base (0:Int).toNat%m=out:=by
   show out*1%m=out;rw [Gq.mul_one,Pol.mod_small ho]
  rw [e];exact cg (by simp -implicitDefEqProofs [Z1f_L0,az])
 | succ n ih=>
  intro k out base hk hn hkm ho hb
  by_cases h0:k=0
  ·subst h0
   refine ⟨row base,?_⟩
   have e:out*pw base (0:Int).toNat%m=out:=by
    show out*1%m=out;rw [Gq.mul_one,Pol.mod_small ho]
   rw [e];exact cg (by simp -implicitDefEqProofs [Z1f_L0,az])
  ·have hkp:0<k:=by omega
   have hlen:∀x y:Fp p,x.len<m.len→y.len<m.len→(x*y).len<5000:=fun x y hx hy=>by
    have:=Pol.len_le (Pol.lt_mul x.lt_len y.lt_len);omega
   have t1:=ht p out base (by omega) (by omega)
   have t2:=ht p base base (by omega) (by omega)
   have r1:=hr p (out*base) m hm (hlen _ _ ho hb) (by omega)
   have r2:=hr p (base*base) m hm (hlen _ _ hb hb) (by omega)
   have s:=Pol.bin_step (out:=out) (base:=base) hm k.toNat (by omega)
   have hdiv:(k/2).toNat=k.toNat/2:=by omega
   obtain ⟨b',e⟩:=ih (k/2) (if k.toNat%2=1 then out*base%m else out) (base*base%m) (by omega) (by rw [fo] at hn; omega) (by omega) (by split; exact Pol.len_mod _ hm; exact ho) (Pol.len_mod _ hm)
   rw [hdiv,s] at e;refine ⟨b',c8 ?_ e⟩;have ea:=a87 k (by omega)
   have es:=a84 k
   by_cases hodd:k%2=1
   ·rw [if_pos (show k.toNat%2=1 by omega)]
    simp -implicitDefEqProofs [Z1f_L0,az,hkp,t1,t2,r1,r2,ea,es,hodd]
   ·rw [if_neg (show ¬ k.toNat%2=1 by omega)]
    simp -implicitDefEqProofs [Z1f_L0,az,hkp,t2,r2,ea,es,hodd]
def Ai (O:ap):Prop:=∀(p:Int) [IsP p] (a:Fp p) (k:Int) (m:Fp p),m≠0→a.len<5000→m.len<2000→0≤k→k<4611686018427387904 →
 ask O F1f [(D.int .i64 p),(D.sl .leaf (ah .i64 (row a))),(D.int .i64 k),(D.sl .leaf (ah .i64 (row m)))]=some (D.sl .leaf (ah .i64 (row (pw a k.toNat%m))))
theorem a6s (hT:T F1f=some Z1f) (hr:uo (den T A)) (ht:rh (den T A)):Ai (den T A):=by
 intro p i a k m hm ha hml hk hkm;have r1:=hr p 1 m hm (by rw [Pol.len_one]; omega) (by omega)
 rw [su] at r1;have r2:=hr p a m hm (by omega) (by omega)
 obtain ⟨b',e⟩:=a7d hr ht hm hml 62 k (1%m) (a%m) hk (by omega) hkm (Pol.len_mod _ hm) (Pol.len_mod _ hm)
 have e2:1%m*pw (a%m) k.toNat%m=pw a k.toNat%m:=by
  rw [Pol.mul_mod_left _ _ hm,Gq.one_mul,Pol.pow_mod _ hm]
 rw [e2] at e;have o1:D.int IntKind.i64 1::[]=ah .i64 [1]:=rfl;refine cd hT rfl ?_;simp -implicitDefEqProofs [Z1f,Z1f_B,r1,r2,e,o1,List.replicate]
def va (p most:Int):Nat→Int→Int
 | 0,out=>out
 | n+1,out=>if out > most then out else va p most n (out*p)
theorem a20 {O:ap} {p:Int} [IsP p] {most nn:Int} (hmost:most≤1152921504606846976):∀(n:Nat) (i:Int) (out:Int),i+n=nn→-1000000<i→nn<1000000→0≤out→out≤8070450532247928832→∃(i':Int) (b:List (Nat×V)),
 dn O 0 (.loop Z1c_L0) ⟨[(0,(.d (.int .i64 p))),(2,(.d (.int .i64 most))),(7,(.d (.int .i64 out))),(8,(.d (.int .i64 nn))),(9,(.d (.int .i64 i)))],[]⟩ =
  some (.exit 0,⟨[(0,(.d (.int .i64 p))),(2,(.d (.int .i64 most))),(7,(.d (.int .i64 (va p most n out)))),(8,(.d (.int .i64 nn))),(9,(.d (.int .i64 i')))]++b,[]⟩)
 | 0,i,out,hi,h1,h2,ho,ho2=>by
  have:i=nn:=by omega
  subst this;exact ⟨i,[(10,(.d (.bool false)))],cg (by simp -implicitDefEqProofs [Z1c_L0,az,va])⟩
 | n+1,i,out,hi,h1,h2,ho,ho2=>by
  have hlt:i<nn:=by omega
  have hp:=IsP.le (p:=p);have hp2:=IsP.pos (p:=p)
  by_cases hm:most<out
  ·exact ⟨i,[(13,(.d (.bool true)))],cg (by simp -implicitDefEqProofs [Z1c_L0,az,va,hlt,hm])⟩
  ·have hmul:0≤out*p∧out*p≤8070450532247928832:=by
    refine ⟨ep ho (by omega),?_⟩
    have:out*p≤out*7:=c7 hp ho;omega
   obtain ⟨i',b,e⟩:=a20 (O:=O) (p:=p) (nn:=nn) hmost n (i+1) (out*p) (by omega) (by omega) h2 hmul.1 hmul.2
   have w1:IntKind.i64.wrap (out*p)=out*p:=w64 (by omega)
   have w2:IntKind.i64.wrap (i+1)=i+1:=w64 (by omega)
   refine ⟨i',b,c8 (s1:=⟨[(0,(.d (.int .i64 p))),(2,(.d (.int .i64 most))),(7,(.d (.int .i64 (out*p)))),(8,(.d (.int .i64 nn))),(9,(.d (.int .i64 (i+1))))],[]⟩) (by simp -implicitDefEqProofs [Z1c_L0,az,hlt,hm,w1,w2]) ?_⟩
   rw [e,va,if_neg (by omega)]
def ti (O:ap):Prop:=∀(p:Int) [IsP p] (n:Nat) (most:Int),n<1000000→most≤1152921504606846976→ask O F1c [(D.int .i64 p),(D.int .i64 n),(D.int .i64 most)]=some (D.int .i64 (va p most n 1))
theorem a9m (hT:T F1c=some Z1c):ti (den T A):=by
 intro p i n most hn hm;obtain ⟨i',b,e⟩:=a20 (O:=den T A) (p:=p) (nn:=(n:Int)) hm n 0 1 (by omega) (by omega) (by omega) (by omega) (by omega)
 refine cd hT rfl ?_;simp -implicitDefEqProofs [Z1c,Z1c_B,e]
def dgs (p:Int):Nat→Int→List Int
 | 0,_=>[]
 | f+1,n=>if n≤0 then [] else n%p::dgs p f (n/p)
def f7 (p n:Int):Fp p:=gn p (dgs p 64 n)
theorem Wp {p:Int} [IsP p]:∀f n,Can p (dgs p f n)
 | 0,n=>fun x hx=>by simp [dgs] at hx
 | f+1,n=>fun x hx=>by
  unfold dgs at hx
  split at hx
  ·simp at hx
  ·have hp:=IsP.pos (p:=p)
   rcases d8.1 hx with rfl | hx
   ·exact ⟨dw _ (by omega),de _ hp⟩
   ·exact Wp f _ x hx
theorem Ju {p n:Int} [IsP p] (h:0<n) (h2:n/p=0):n%p≠0:=by
 have h3:=Int.mul_ediv_add_emod n p;rw [h2] at h3;simp at h3;omega
theorem S7 {p:Int} [IsP p]:∀(f:Nat) (n:Int),n<2^f→dgs p f n=[]∨cf (dgs p f n) ((dgs p f n).length-1)≠0
 | 0,n,h=>.inl rfl
 | f+1,n,h=>by
  by_cases h0:n≤0
  ·left; simp [dgs,h0]
  ·right
   have hp:=IsP.ge (p:=p)
   have hd:n/p<2^f:=by
    apply jg (by omega)
    have:(2:Int)^(f+1)=2^f*2:=dq _ _;have h2:(2:Int)^f*2≤2^f*p:=c7 hp (oz (by omega))
    omega
   have e:dgs p (f+1) n=n%p::dgs p f (n/p):=by simp [dgs,h0]
   rw [e];have hdn:0≤n/p:=oc (by omega) (by omega)
   rcases S7 (p:=p) f (n/p) hd with h1 | h1
   ·rw [h1]
    show n%p≠0
    by_cases hz:n/p=0
    ·exact Ju (p:=p) (show 0<n by omega) hz
    ·exfalso
     cases f with
     | zero=>simp at hd; omega
     | succ f=>
      rw [dgs,if_neg (by omega)] at h1
      cases h1
   ·cases hq:dgs p f (n/p) with
    | nil=>rw [hq] at h1; simp [cf] at h1
    | cons a l=>
     rw [hq] at h1
     simpa [cf] using h1
theorem T3 {p:Int} [IsP p] {l:List Int} (h:Can p l) (hl:l=[]∨cf l (l.length-1)≠0):row (gn p l)=l:=by
 rw [←qk h];unfold trim
 have:qz l l.length=l.length:=by
  cases hn:l.length with
  | zero=>rfl
  | succ n=>
   rcases hl with h0 | h0
   ·rw [h0] at hn; simp at hn
   ·rw [hn,Nat.add_sub_cancel] at h0
    rw [qz,if_neg h0]
 rw [this,ph]
theorem Io {p:Int} [IsP p] {n:Int} (h:n<18446744073709551616):row (f7 p n)=dgs p 64 n:=T3 (Wp 64 n) (S7 64 n (by simpa using h))
theorem Vr (p:Int):∀f n,(dgs p f n).length≤f
 | 0,n=>by simp [dgs]
 | f+1,n=>by
  unfold dgs
  split
  ·simp
  ·have:=Vr p f (n/p); simp; omega
theorem Qf {p:Int} (n:Int):(f7 p n).len≤64:=dk (Pol.len_le (Pz _)) (Vr p 64 n)
theorem Hr {O:ap} {p:Int} [IsP p]:∀(f:Nat) (n:Int) (cur:List Int) (cp:Option Nat),0≤n→n<2^f→n<9223372036854775807→cur.length+f<1000→∃cp',
 dn O 0 (.loop Z1d_L0) ⟨[(0,(.d (.int .i64 p))),(1,(.d (.int .i64 n))),(5,.sl 0 [] 0 cur.length cp)],[.sl false .leaf (ah .i64 cur),.hole,.hole]⟩ =
  some (.exit 0,⟨[(0,(.d (.int .i64 p))),(1,(.d (.int .i64 0))),(5,.sl 0 [] 0 (cur++dgs p f n).length cp'),(7,(.d (.bool false)))],[.sl false .leaf (ah .i64 (cur++dgs p f n)),.hole,.hole]⟩)
 | 0,n,cur,cp,h0,hn,hm,hl=>by
  obtain rfl:n=0:=by simp at hn; omega
  refine ⟨cp,?_⟩;rw [dgs,fa];exact cg (by simp -implicitDefEqProofs [Z1d_L0,az])
 | f+1,n,cur,cp,h0,hn,hm,hl=>by
  have hp:=IsP.ge (p:=p);have hp7:=IsP.le (p:=p)
  by_cases hz:n=0
  ·subst hz
   refine ⟨cp,?_⟩;rw [dgs,if_pos (tc 0),fa];exact cg (by simp -implicitDefEqProofs [Z1d_L0,az])
  ·have hd:n/p<2^f:=by
    apply jg (by omega)
    have:(2:Int)^(f+1)=2^f*2:=dq _ _;have h2:(2:Int)^f*2≤2^f*p:=c7 hp (oz (by omega))
    omega
   have hdn:0≤n/p:=oc (by omega) (by omega)
   have hdl:n/p≤n:=Int.ediv_le_self _ h0;obtain ⟨cp',e⟩:=Hr (O:=O) (p:=p) f (n/p) (cur++[n%p]) none hdn hd (by omega) (by simp; omega)
   have hpos:0<n:=by omega
   have w1:IntKind.i64.wrap (n.tdiv p)=n/p:=by rw [p4 h0,w64 (by omega)]
   have w2:n.tmod p=n%p:=di h0;have hp0:p≠0:=by omega
   have h8:(cur.length+1)*8≤1099511627776:=by omega
   have o1:ah .i64 cur++[D.int .i64 (n%p)]=ah .i64 (cur++[n%p]):=by rw [←Gf]; rfl
   refine ⟨cp',?_⟩;rw [dgs,if_neg (by omega),show cur++n%p::dgs p f (n/p)=(cur++[n%p])++dgs p f (n/p) by simp]
   refine c8 ?_ e;simp -implicitDefEqProofs [Z1d_L0,az,hpos,w1,w2,hp0,h8,o1,List.replicate]
def kf (O:ap):Prop:=∀(p:Int) [IsP p] (n:Int),0≤n→n<4611686018427387904→ask O F1d [(D.int .i64 p),(D.int .i64 n)]=some (D.sl .leaf (ah .i64 (row (f7 p n))))
theorem Tf (hT:T F1d=some Z1d):kf (den T A):=by
 intro p i n h0 hn;obtain ⟨cp,e⟩:=Hr (O:=den T A) (p:=p) 64 n [] (some 0) h0 (by omega) (by omega) (by simp)
 rw [Io (by omega)]
 rw [jf,fg] at e;have e0:(([]:List Int).length:Nat)=0:=rfl;rw [e0] at e;refine cd hT rfl ?_;simp -implicitDefEqProofs [Z1d,Z1d_B,e]
theorem Ud (n:Nat) {α:Type} (f:Nat→α):(List.range n).map f++[f n]=(List.range (n+1)).map f:=by rw [List.range_succ,da]; rfl
end Pe

namespace Gq
section
variable {K:Type} [Fd K]
def Dv (a b:Pol K):Prop:=∃c,b=a*c
theorem Dv.refl (a:Pol K):Dv a a:=⟨1,(mul_one a).symm⟩
theorem Dv.trans {a b c:Pol K} (h:Dv a b) (h':Dv b c):Dv a c:=by
 obtain ⟨x,rfl⟩:=h;obtain ⟨y,rfl⟩:=h';exact ⟨x*y,mul_assoc _ _ _⟩
theorem Dv.zero (a:Pol K):Dv a 0:=⟨0,(mul_zero a).symm⟩
theorem Dv.mul_right {a b:Pol K} (h:Dv a b) (c:Pol K):Dv a (b*c):=h.trans ⟨c,rfl⟩
theorem Dv.mul_left {a b:Pol K} (h:Dv a b) (c:Pol K):Dv a (c*b):=h.trans ⟨c,mul_comm _ _⟩
theorem Dv.add {a b c:Pol K} (h:Dv a b) (h':Dv a c):Dv a (b+c):=by
 obtain ⟨x,rfl⟩:=h;obtain ⟨y,rfl⟩:=h';exact ⟨x+y,(mul_add _ _ _).symm⟩
theorem Dv.neg {a b:Pol K} (h:Dv a b):Dv a (-b):=by
 obtain ⟨x,rfl⟩:=h;exact ⟨-x,(a7n _ _).symm⟩
theorem Dv.sub {a b c:Pol K} (h:Dv a b) (h':Dv a c):Dv a (b-c):=by
 rw [sub_eq]; exact h.add h'.neg
theorem Dv.len {a b:Pol K} (h:Dv a b) (hb:b≠0):a.len≤b.len:=by
 obtain ⟨x,rfl⟩:=h;have ha:a≠0:=fun h=>hb (by rw [h,zero_mul])
 have hx:x≠0:=fun h=>hb (by rw [h,mul_zero])
 have:=Pol.len_mul ha hx;have:=Pol.len_pos hx;omega
theorem uj {a m:Pol K} (hm:m≠0):Dv m a↔a%m=0:=by
 constructor
 ·rintro ⟨c,rfl⟩
  rw [mul_comm];exact Pol.mod_self_mul c hm
 ·intro h
  have:=Pol.div_mod a m;rw [h,add_zero,mul_comm] at this;exact ⟨_,this⟩
theorem gh {a m:Pol K}:Dv m a↔Quo.mk m a=0:=by
 rw [←Quo.mk_zero,Quo.eq];constructor
 ·rintro ⟨c,h⟩; exact ⟨c,by rw [zero_add,h]⟩
 ·rintro ⟨c,h⟩; exact ⟨c,by rw [h,zero_add]⟩
theorem ox {a:Pol K} (h:a.len=1):∃k:K,k≠0∧a=Pol.C k:=by
 have e:=Pol.eq_C (Pol.lt_iff.2 (show a.len≤1 by omega))
 refine ⟨a.c 0,fun h0=>?_,e⟩
 rw [h0,Pol.C_zero] at e;rw [e,Pol.len_zero] at h;omega
theorem a26 {k:K} (h:k≠0):Pol.C k*Pol.C (Fd.inv k)=1:=by rw [←Pol.C_mul,Fd.mul_inv k h,Pol.C_one]
theorem Dv.Cmul {a b:Pol K} {k:K} (hk:k≠0):Dv (Pol.C k*a) b↔Dv a b:=by
 constructor
 ·rintro ⟨c,h⟩
  exact ⟨Pol.C k*c,by rw [h]; exact bq [Pol.C k,a,c] rfl⟩
 ·rintro ⟨c,h⟩
  refine ⟨Pol.C (Fd.inv k)*c,?_⟩;have:Pol.C k*a*(Pol.C (Fd.inv k)*c)=(Pol.C k*Pol.C (Fd.inv k))*(a*c):=bq [Pol.C k,a,Pol.C (Fd.inv k),c] rfl;rw [this,a26 hk,one_mul,h]
def Monic (a:Pol K):Prop:=a.ld=1∧a≠0
theorem Monic.mul {a b:Pol K} (ha:Monic a) (hb:Monic b):Monic (a*b):=⟨by rw [Pol.ld_mul ha.2 hb.2,ha.1,hb.1,mul_one],Pol.mul_ne ha.2 hb.2⟩
theorem Monic.one:Monic (1:Pol K):=⟨Pol.ld_one,Pol.one_ne⟩
theorem Pol.ld_C {k:K} (h:k≠0):(C k).ld=k:=by unfold ld; rw [len_C h]; rfl
theorem Monic.eq_one {a:Pol K} (h:Monic a) (hl:a.len=1):a=1:=by
 obtain ⟨k,hk,rfl⟩:=ox hl;have:=h.1;rw [Pol.ld_C hk] at this;rw [this,Pol.C_one]
theorem Monic.antisymm {a b:Pol K} (ha:Monic a) (hb:Monic b) (h:Dv a b) (h':Dv b a):a=b:=by
 obtain ⟨x,rfl⟩:=h;have h1:=h'.len ha.2;have hx:x≠0:=fun h=>hb.2 (by rw [h,mul_zero])
 have h2:=Pol.len_mul ha.2 hx;have h3:=Pol.len_pos hx;obtain ⟨k,hk,rfl⟩:=ox (show x.len=1 by omega)
 have h4:=hb.1;rw [Pol.ld_mul ha.2 hx,ha.1,one_mul,Pol.ld_C hk] at h4;rw [h4,Pol.C_one,mul_one]
noncomputable def mon (a:Pol K):Pol K:=Pol.C (Fd.inv a.ld)*a
theorem ry {a:Pol K} (h:a≠0):Monic (mon a):=by
 have h1:=Fd.inv_ne (Pol.ld_ne h);refine ⟨?_,Pol.mul_ne (Pol.C_ne h1) h⟩;unfold mon;rw [Pol.ld_mul (Pol.C_ne h1) h,Pol.ld_C h1,mul_comm,Fd.mul_inv _ (Pol.ld_ne h)]
theorem Bt {a b:Pol K} (h:a≠0):Dv (mon a) b↔Dv a b:=Dv.Cmul (Fd.inv_ne (Pol.ld_ne h))
theorem xz {a:Pol K} (h:a≠0):(mon a).len=a.len:=Pol.len_Cmul (Fd.inv_ne (Pol.ld_ne h)) a
theorem a34 {a:Pol K} (h:a≠0):a=Pol.C a.ld*mon a:=by
 unfold mon;rw [←mul_assoc,a26 (Pol.ld_ne h),one_mul]
theorem Pol.eu_spec {a b:Pol K} (h:a≠0∨b≠0):(eu a b).1≠0∧Dv (eu a b).1 a∧Dv (eu a b).1 b∧(eu a b).2.1*a+(eu a b).2.2*b=(eu a b).1:=by
 obtain ⟨x,y,h1,⟨s,h2⟩,⟨t,h3⟩⟩:=bz_spec b.len a b 1 0 0 1 (bj _) (BzI.init h);exact ⟨h1.any.resolve_right fun h=>h rfl,⟨s,by rw [mul_comm]; exact h2⟩,⟨t,by rw [mul_comm]; exact h3⟩,h1.one⟩
theorem Pol.gcd_monic {a b:Pol K} (h:a≠0∨b≠0):Monic (gcd a b):=ry (eu_spec h).1
theorem Pol.gcd_dv_left {a b:Pol K} (h:a≠0∨b≠0):Dv (gcd a b) a:=(Bt (eu_spec h).1).2 (eu_spec h).2.1
theorem Pol.gcd_dv_right {a b:Pol K} (h:a≠0∨b≠0):Dv (gcd a b) b:=(Bt (eu_spec h).1).2 (eu_spec h).2.2.1
theorem Pol.bezout_eq {a b:Pol K} (h:a≠0∨b≠0):(bezout a b).2.1*a+(bezout a b).2.2*b=gcd a b:=by
 have e:=(eu_spec h).2.2.2;show C (Fd.inv (eu a b).1.ld)*(eu a b).2.1*a+C (Fd.inv (eu a b).1.ld)*(eu a b).2.2*b=C (Fd.inv (eu a b).1.ld)*(eu a b).1;generalize C (Fd.inv (eu a b).1.ld)=k;generalize (eu a b).2.1=u at *;generalize (eu a b).2.2=v at *;rw [←e];exact bq [k,u,a,v,b] rfl
theorem Pol.dv_gcd {a b c:Pol K} (h:a≠0∨b≠0) (ha:Dv c a) (hb:Dv c b):Dv c (gcd a b):=by
 rw [←bezout_eq h];exact (ha.mul_left _).add (hb.mul_left _)
structure Irr (q:Pol K):Prop where
 len:2≤q.len
 no:∀u v,q=u*v→u.len=1∨v.len=1
theorem Irr.ne {q:Pol K} (h:Irr q):q≠0:=fun h0=>by have:=h.len; rw [h0,Pol.len_zero] at this; omega
theorem Irr.dv {q u:Pol K} (h:Irr q) (hd:Dv u q):u.len=1∨u.len=q.len:=by
 obtain ⟨v,hv⟩:=hd;have hu:u≠0:=fun h0=>h.ne (by rw [hv,h0,zero_mul])
 have hv0:v≠0:=fun h0=>h.ne (by rw [hv,h0,mul_zero])
 have l:=Pol.len_mul hu hv0;rw [←hv] at l;rcases h.no u v hv with h1 | h1
 ·exact .inl h1
 ·right; omega
theorem Irr.coprime {q a:Pol K} (h:Irr q) (hn:¬ Dv q a):∃u v,u*q+v*a=1:=by
 have h0:q≠0∨a≠0:=.inl h.ne;have e:=Pol.bezout_eq h0;have d1:=Pol.gcd_dv_left h0;have d2:=Pol.gcd_dv_right h0;have m:=Pol.gcd_monic h0;rcases h.dv d1 with h1 | h1
 ·rw [m.eq_one h1] at e
  exact ⟨_,_,e⟩
 ·exfalso
  obtain ⟨c,hc⟩:=d1;have hc0:c≠0:=fun h0=>h.ne (by rw [hc,h0,mul_zero])
  have l:=Pol.len_mul m.2 hc0;rw [←hc] at l;obtain ⟨k,hk,rfl⟩:=ox (show c.len=1 by omega)
  apply hn;rw [hc,mul_comm];exact (Dv.Cmul hk).2 d2
theorem Irr.prime {q a b:Pol K} (h:Irr q) (hd:Dv q (a*b)):Dv q a∨Dv q b:=by
 by_cases ha:Dv q a
 ·exact .inl ha
 ·obtain ⟨u,v,e⟩:=h.coprime ha
  right
  have:b=u*b*q+v*(a*b):=by
   have e2:u*b*q+v*(a*b)=(u*q+v*a)*b:=bq [u,b,q,v,a] rfl;rw [e2,e,one_mul]
  rw [this];exact ((Dv.refl q).mul_left _).add (hd.mul_left _)
theorem Irr.of_dv {q:Pol K} (hl:2≤q.len) (h:∀u,Dv u q→u.len=1∨u.len=q.len):Irr q:=⟨hl,fun u v e=>by
 have hq:q≠0:=fun h0=>by rw [h0,Pol.len_zero] at hl; omega
 have hu:u≠0:=fun h0=>hq (by rw [e,h0,zero_mul])
 have hv0:v≠0:=fun h0=>hq (by rw [e,h0,mul_zero])
 have l:=Pol.len_mul hu hv0;rw [←e] at l;rcases h u ⟨v,e⟩ with h1 | h1
 ·exact .inl h1
 ·right; omega⟩
theorem Irr.mon {q:Pol K} (h:Irr q):Irr (mon q):=Irr.of_dv (by rw [xz h.ne]; exact h.len) fun u hu=>by
 rw [xz h.ne];apply h.dv;refine hu.trans ?_;rw [Bt h.ne];exact .refl q
theorem Bw:∀(n:Nat) (a:Pol K),a.len≤n→2≤a.len→∃q,Irr q∧Monic q∧Dv q a
 | 0,a,h,h2=>by omega
 | n+1,a,h,h2=>by
  have ha:a≠0:=fun h0=>by rw [h0,Pol.len_zero] at h2; omega
  by_cases hi:Irr a
  ·exact ⟨Gq.mon a,hi.mon,ry ha,(Bt ha).2 (.refl a)⟩
  ·have:∃u,Dv u a∧u.len≠1∧u.len≠a.len:=cm fun hx=>hi (Irr.of_dv h2 fun u hu=>cm fun hy=>hx ⟨u,hu,by omega,by omega⟩)
   obtain ⟨u,hu,h3,h4⟩:=this;have h5:=hu.len ha
   have hu0:u≠0:=fun h0=>by
    obtain ⟨c,hc⟩:=hu;exact ha (by rw [hc,h0,zero_mul])
   have h6:=Pol.len_pos hu0;obtain ⟨q,h7,h8,h9⟩:=Bw n u (by omega) (by omega)
   exact ⟨q,h7,h8,h9.trans hu⟩
theorem Irr.eq_of_dv {q r:Pol K} (hq:Irr q) (hr:Irr r) (mq:Monic q) (mr:Monic r) (h:Dv q r):q=r:=by
 refine mq.antisymm mr h ?_;rcases hr.dv h with h1 | h1
 ·have:=hq.len; omega
 ·obtain ⟨c,rfl⟩:=h
  have hc:c≠0:=fun h0=>mr.2 (by rw [h0,mul_zero])
  have l:=Pol.len_mul mq.2 hc;obtain ⟨k,hk,rfl⟩:=ox (show c.len=1 by omega)
  rw [mul_comm];exact (Dv.Cmul hk).2 (.refl q)
theorem Quo.ex {R:Type} [CR R] {m:R} (x:Quo m):∃a,x=Quo.mk m a:=Quo.ind (P:=fun x=>∃a,x=Quo.mk m a) (fun a=>⟨a,rfl⟩) x
theorem Irr.quo_zero {q:Pol K} (h:Irr q) {x y:Quo q} (e:x*y=0):x=0∨y=0:=by
 obtain ⟨a,rfl⟩:=Quo.ex x;obtain ⟨b,rfl⟩:=Quo.ex y;rw [←Quo.mk_mul,←gh] at e;rw [←gh,←gh];exact h.prime e
theorem Irr.quo_inv {q:Pol K} (h:Irr q) {x:Quo q} (hx:x≠0):∃y,x*y=1:=by
 obtain ⟨a,rfl⟩:=Quo.ex x;obtain ⟨u,v,e⟩:=h.coprime fun hd=>hx (gh.1 hd)
 refine ⟨Quo.mk q v,?_⟩;rw [←Quo.mk_mul,←Quo.mk_one,Quo.eq];refine ⟨-u,?_⟩;rw [←e];exact bq [a,v,u,q] rfl
open Classical in
noncomputable abbrev Qm {q:Pol K} (h:Irr q):Fd (Quo q) where
 one_ne:=fun e=>by
  have:=gh.2 e;have h1:=this.len Pol.one_ne;have:=h.len;rw [Pol.len_one] at h1;omega
 inv:=fun x=>if hx:x=0 then 0 else Classical.choose (h.quo_inv hx)
 mul_inv:=fun x hx=>by rw [dif_neg hx]; exact d9 (h.quo_inv hx)
end
def pn {R:Type} [CR R]:List R→R
 | []=>1
 | x::l=>x*pn l
theorem Iv {R:Type} [CR R] {l m:List R} (h:l.Perm m):pn l=pn m:=by
 induction h with
 | nil=>rfl
 | cons x _ ih=>rw [pn,pn,ih]
 | swap x y l=>rw [pn,pn,pn,pn,mul_left_comm]
 | trans _ _ h1 h2=>exact h1.trans h2
theorem L3 {R:Type} [CR R] (x:R):∀l:List R,pn (l.map (x * ·))=pw x l.length*pn l
 | []=>(one_mul _).symm
 | y::l=>by
  rw [cw,pn,L3 x l,pn,bu,pw];exact bq [x,y,pw x l.length,pn l] rfl
theorem Gd {α:Type} [DecidableEq α]:∀{l m:List α},l.Nodup→(∀x∈l,x∈m)→m.length=l.length→l.Perm m
 | [],m,_,_,hl=>by
  obtain rfl:=te (by simpa using hl)
  exact .nil
 | x::l,m,hn,hs,hl=>by
  have hx:x∈m:=hs x (by simp)
  obtain ⟨h1,h2⟩:=mc.1 hn;have p:=List.perm_cons_erase hx;refine (List.Perm.cons x (Gd h2 (fun y hy=>?_) ?_)).trans p.symm
  ·have hne:y≠x:=fun e=>h1 (e▸hy)
   exact (List.mem_erase_of_ne hne).2 (hs y (by simp [hy]))
  ·rw [List.length_erase_of_mem hx]; simp at hl; omega
theorem a1t {R:Type} [CR R] [DecidableEq R] {l:List R} (hn:l.Nodup) (hc:∀x y:R,x*y=0→x=0∨y=0) (h1:(1:R)≠0) (hl:∀x,x∈l↔x≠0) {x:R} (hx:x≠0):pw x l.length=1:=by
 have hcan:∀y z:R,x*y=x*z→y=z:=fun y z e=>by
  have:x*(y-z)=0:=by
   have e2:x*(y-z)=x*y-x*z:=bq [x,y,z] rfl;rw [e2,e,sub_self]
  exact sd ((hc _ _ this).resolve_left hx)
 have hp:(l.map (x * ·)).Perm l:=by
  refine Gd ?_ (fun y hy=>?_) (by simp)
  ·unfold List.Nodup at hn ⊢
   rw [jy];exact hn.imp fun hab e=>hab (hcan _ _ e)
  ·obtain ⟨z,hz,rfl⟩:=ch.1 hy
   exact (hl _).2 fun e=>((hc _ _ e).elim hx) ((hl z).1 hz)
 have hprod:pn l≠0:=by
  have:∀m:List R,(∀z∈m,z≠0)→pn m≠0:=by
   intro m
   induction m with
   | nil=>exact fun _=>h1
   | cons z m ih=>exact fun hm e=>((hc _ _ e).elim (hm z (by simp))) (ih fun y hy=>hm y (by simp [hy]))
  exact this l fun z hz=>(hl z).1 hz
 have e:=Iv hp;rw [L3] at e
 have e2:pn l*(pw x l.length-1)=0:=by
  have e3:pn l*(pw x l.length-1)=pw x l.length*pn l-pn l:=bq [pn l,pw x l.length] rfl;rw [e3,e,sub_self]
 exact sd ((hc _ _ e2).resolve_left hprod)
section
variable {K:Type} [CR K]
def ff (f:Nat→K):Nat→K
 | 0=>0
 | n+1=>ff f n+f n
noncomputable def Pol.val (a:Pol K) (x:K):K:=ff (fun i=>a.c i*pw x i) a.len
theorem Ma (f:Nat→K) (n:Nat) (h:∀i,n≤i→f i=0):∀k,ff f (n+k)=ff f n
 | 0=>rfl
 | k+1=>by rw [←eh,ff,Ma f n h k,h _ (by omega),add_zero]
theorem xc (f g:Nat→K):∀n,ff (fun i=>f i+g i) n=ff f n+ff g n
 | 0=>(add_zero _).symm
 | n+1=>by rw [ff,xc f g n,ff,ff]; exact bq [ff f n,ff g n,f n,g n] rfl
theorem wn (k:K) (f:Nat→K):∀n,ff (fun i=>k*f i) n=k*ff f n
 | 0=>(mul_zero _).symm
 | n+1=>by rw [ff,wn k f n,ff,mul_add]
theorem a0g (x:K):∀n,∃g:Nat→K,(∀i,n≤i→g i=0)∧(∀k,n=k+1→g k=1)∧∀y,pw y n-pw x n=(y-x)*ff (fun i=>g i*pw y i) n:=by
 intro n
 induction n with
 | zero=>exact ⟨fun _=>0,fun _ _=>rfl,fun k h=>by omega,fun y=>by show (1:K)-1=(y-x)*0; rw [mul_zero,sub_self]⟩
 | succ n ih=>
  obtain ⟨g,h1,h2,h3⟩:=ih;refine ⟨fun i=>if i=n then 1 else x*g i,fun i hi=>?_,fun k hk=>?_,fun y=>?_⟩
  ·dsimp only; rw [if_neg (by omega),h1 i (by omega),mul_zero]
  ·dsimp only; rw [if_pos (by omega)]
  ·rw [ff]; dsimp only; rw [if_pos rfl,one_mul]
   have e:ff (fun i=>(if i=n then 1 else x*g i)*pw y i) n=x*ff (fun i=>g i*pw y i) n:=by
    rw [←wn]
    have:∀m,m≤n→ff (fun i=>(if i=n then 1 else x*g i)*pw y i) m=ff (fun i=>x*(g i*pw y i)) m:=by
     intro m
     induction m with
     | zero=>intro _; rfl
     | succ m ihm=>intro hm; rw [ff,ff,ihm (by omega),if_neg (by omega),mul_assoc]
    exact this n (bj n)
   rw [e,pw,pw];have e2:(y-x)*(x*ff (fun i=>g i*pw y i) n+pw y n)=x*((y-x)*ff (fun i=>g i*pw y i) n)+(y-x)*pw y n:=bq [y,x,ff (fun i=>g i*pw y i) n,pw y n] rfl
   rw [e2,←h3 y];exact bq [pw y n,y,pw x n,x] rfl
theorem U4 (f:Nat→K) (x:K):∀n,∃g:Nat→K,(∀i,n≤i+1→g i=0)∧(∀k,n=k+2→g k=f (k+1))∧∀y,ff (fun i=>f i*pw y i) n-ff (fun i=>f i*pw x i) n=(y-x)*ff (fun i=>g i*pw y i) n:=by
 intro n
 induction n with
 | zero=>exact ⟨fun _=>0,fun _ _=>rfl,fun k h=>by omega,fun y=>by show (0:K)-0=(y-x)*0; rw [mul_zero,sub_self]⟩
 | succ n ih=>
  obtain ⟨g,h1,h2,h3⟩:=ih;obtain ⟨g',h1',h2',h3'⟩:=a0g x n;refine ⟨fun i=>g i+f n*g' i,fun i hi=>?_,fun k hk=>?_,fun y=>?_⟩
  ·dsimp only; rw [h1 i (by omega),h1' i (by omega),mul_zero,add_zero]
  ·obtain rfl:k+1=n:=by omega
   dsimp only; rw [h1 k (by omega),h2' k rfl,mul_one,zero_add]
  ·rw [ff,ff,ff]
   have e0:g n+f n*g' n=0:=by rw [h1 n (by omega),h1' n (by omega),mul_zero,add_zero]
   dsimp only
   rw [e0,zero_mul,add_zero]
   have e:ff (fun i=>(g i+f n*g' i)*pw y i) n=ff (fun i=>g i*pw y i) n+f n*ff (fun i=>g' i*pw y i) n:=by
    rw [←wn,←xc]
    congr 1
    funext i
    exact bq [g i,f n,g' i,pw y i] rfl
   rw [e];have e2:(y-x)*(ff (fun i=>g i*pw y i) n+f n*ff (fun i=>g' i*pw y i) n)=(y-x)*ff (fun i=>g i*pw y i) n+f n*((y-x)*ff (fun i=>g' i*pw y i) n):=bq [y,x,ff (fun i=>g i*pw y i) n,f n,ff (fun i=>g' i*pw y i) n] rfl
   rw [e2,←h3 y,←h3' y];exact bq [ff (fun i=>f i*pw y i) n,f n,pw y n,ff (fun i=>f i*pw x i) n,pw x n] rfl
theorem De (hc:∀x y:K,x*y=0→x=0∨y=0):∀(n:Nat) (f:Nat→K) (l:List K),f n≠0→l.Nodup→(∀y∈l,ff (fun i=>f i*pw y i) (n+1)=0)→l.length≤n
 | n,f,[],_,_,_=>jc n
 | 0,f,x::l,hf,_,hr=>by
  have:=hr x (by simp)
  have e:ff (fun i=>f i*pw x i) (0+1)=f 0:=by show 0+f 0*1=f 0; rw [zero_add,mul_one]
  rw [e] at this;exact absurd this hf
 | n+1,f,x::l,hf,hn,hr=>by
  obtain ⟨g,h1,h2,h5⟩:=U4 f x (n+2);have hx:=hr x (by simp)
  obtain ⟨h3,h4⟩:=mc.1 hn;have hg0:g n≠0:=by rw [h2 n rfl]; exact hf
  have hg:∀y,ff (fun i=>f i*pw y i) (n+2)=(y-x)*ff (fun i=>g i*pw y i) (n+1):=fun y=>by
   have:=h5 y;rw [hx] at this
   have e:ff (fun i=>g i*pw y i) (n+2)=ff (fun i=>g i*pw y i) (n+1):=by
    show ff (fun i=>g i*pw y i) (n+1)+g (n+1)*pw y (n+1)=_
    rw [h1 (n+1) (by omega),zero_mul,add_zero]
   rw [e] at this;rw [←this];exact bq [ff (fun i=>f i*pw y i) (n+2)] rfl
  have:=De hc n g l hg0 h4 fun y hy=>by
   have e:=hr y (by simp [hy])
   rw [hg y] at e;refine (hc _ _ e).resolve_left fun h0=>h3 ?_
   rw [←sd h0]; exact hy
  simp; omega
end
end Gq

namespace Pe
open Go Gq
section
variable {p:Int} [IsP p]
end
section
variable {p:Int}
theorem gr (h:1≤p) {a b:Nat} (hab:a≤b):p^a≤p^b:=by
 obtain ⟨k,rfl⟩:=gi hab;rw [Int.pow_add];have h1:1≤p^k:=qy (n:=p) (m:=k) (by omega)
 have h2:0≤p^a:=oz (by omega)
 have:=c7 h1 h2;omega
end
section
variable {p:Int} [IsP p]
def vl (p:Int):List Int→Int
 | []=>0
 | d::l=>d+p*vl p l
theorem Xq:∀{l:List Int},Can p l→0≤vl p l∧vl p l<p^l.length
 | [],_=>by simp [vl]
 | d::l,h=>by
  have hp:=IsP.pos (p:=p);obtain ⟨h1,h2⟩:=Xq (l:=l) fun x hx=>h x (by simp [hx])
  have h3:=h d (by simp)
  have h4:0≤p*vl p l:=ep (by omega) h1
  have h5:p*vl p l≤p*(p^l.length-1):=c7 (by omega) (by omega)
  rw [Int.mul_sub,lc] at h5;rw [bu,dq,i8 (p^l.length),vl];omega
theorem a2g:∀{l:List Int},Can p l→∀i,cf l i=vl p l/p^i%p
 | [],_,i=>by simp [vl,cf]
 | d::l,h,0=>by
  have h3:=h d (by simp)
  show d=(d+p*vl p l)/p^0%p;rw [eo,Int.ediv_one,p6,mj h3.1 h3.2]
 | d::l,h,i+1=>by
  have hp:=IsP.pos (p:=p);have h3:=h d (by simp)
  have e:cf (d::l) (i+1)=cf l i:=by simp [cf]
  rw [e,a2g (l:=l) fun x hx=>h x (by simp [hx]),vl,dq,i8 (p^i),←Int.ediv_ediv_of_nonneg (by omega),Int.add_mul_ediv_left _ _ (by omega),kq h3.1 h3.2,Int.zero_add]
theorem a54:∀(f:Nat) (n:Int),0≤n→n<2^f→∀i,cf (dgs p f n) i=n/p^i%p
 | 0,n,h0,hn,i=>by
  obtain rfl:n=0:=by simp at hn; omega
  simp [dgs,cf]
 | f+1,n,h0,hn,i=>by
  have hp:=IsP.ge (p:=p);unfold dgs
  split
  ·obtain rfl:n=0:=by omega
   simp [cf]
  ·have hd:n/p<2^f:=by
    apply jg (by omega)
    have:(2:Int)^(f+1)=2^f*2:=dq _ _;have h2:(2:Int)^f*2≤2^f*p:=c7 hp (oz (by omega))
    omega
   cases i with
   | zero=>show n%p=n/p^0%p; rw [eo,Int.ediv_one]
   | succ i=>
    have e:cf (n%p::dgs p f (n/p)) (i+1)=cf (dgs p f (n/p)) i:=by simp [cf]
    rw [e,a54 f _ (oc h0 (by omega)) hd,dq,i8 (p^i),←Int.ediv_ediv_of_nonneg (by omega)]
abbrev A8 (n:Int):Prop:=0≤n∧n<18446744073709551616
theorem Du {n:Int} (h:A8 n) (i:Nat):(f7 p n).c i=zp p (n/p^i):=by
 unfold f7;rw [jr,a54 64 n h.1 (by simpa using h.2),xm]
noncomputable def fh (a:Fp p):Int:=vl p (row a)
theorem zf (a:Fp p):0≤fh a∧fh a<p^a.len:=by
 have:=Xq (ko a)
 rwa [bf] at this
theorem Bz {a:Fp p} (h:fh a<18446744073709551616):f7 p (fh a)=a:=Pol.ext fun i=>by
 rw [Du ⟨(zf a).1,h⟩];have:=a2g (ko a) i;rw [gd] at this;rw [←xm,show fh a/p^i%p=rep (a.c i) from this.symm,lm]
theorem a1j:∀(f:Nat) (n:Int),0≤n→n<2^f→vl p (dgs p f n)=n
 | 0,n,h0,hn=>by
  obtain rfl:n=0:=by simp at hn; omega
  rfl
 | f+1,n,h0,hn=>by
  have hp:=IsP.ge (p:=p);unfold dgs
  split
  ·show (0:Int)=n; omega
  ·have hd:n/p<2^f:=by
    apply jg (by omega)
    have:(2:Int)^(f+1)=2^f*2:=dq _ _;have h2:(2:Int)^f*2≤2^f*p:=c7 hp (oz (by omega))
    omega
   rw [vl,a1j f _ (oc h0 (by omega)) hd]
   exact Int.emod_add_mul_ediv n p
theorem sf {n:Int} (h:A8 n):fh (f7 p n)=n:=by
 unfold fh;rw [Io h.2,a1j 64 n h.1 (by simpa using h.2)]
theorem Dk {n m:Int} (hn:A8 n) (hm:A8 m) (h:f7 p n=f7 p m):n=m:=by rw [←sf (p:=p) hn,h,sf hm]
theorem tt {n:Int} (h:A8 n) {d:Nat} (hd:n<p^d):(f7 p n).lt d:=fun i hi=>by
 have hp:=IsP.pos (p:=p);rw [Du h,kq h.1 (Int.lt_of_lt_of_le hd (gr (by omega) hi)),Ak]
theorem m6 (d:Nat):((p.toNat^d:Nat):Int)=p^d:=by
 have hp:=IsP.pos (p:=p);rw [Int.natCast_pow,Int.toNat_of_nonneg (by omega)]
theorem Az:f7 p 0=0:=Pol.ext fun i=>by rw [Du ⟨by omega,by omega⟩,Int.zero_ediv,Ak]; rfl
def yi (q:Fp p) (d:Nat):List (Quo q):=(List.range (p.toNat^d-1)).map fun (n:Nat)=>Quo.mk q (f7 p (n+1))
theorem pa (d:Nat):0<p.toNat^d:=Nat.pow_pos (by have:=IsP.pos (p:=p); omega)
theorem xr {q:Fp p} {d:Nat} (hq:q.len=d+1) (hd:p^d<1000000000000):(yi q d).Nodup:=by
 unfold yi List.Nodup;rw [jy];refine List.Pairwise.imp_of_mem ?_ (List.pairwise_lt_range (n:=p.toNat^d-1));intro a b ha hb hab e;rw [ft] at ha hb;have hc:=m6 (p:=p) d;have hpos:=pa (p:=p) d;have h1:A8 ((a:Int)+1):=⟨by omega,by omega⟩
 have h2:A8 ((b:Int)+1):=⟨by omega,by omega⟩
 have hq0:q≠0:=fun h0=>by rw [h0,Pol.len_zero] at hq; omega
 have l1:=Pol.len_le (tt (p:=p) h1 (d:=d) (by omega))
 have l2:=Pol.len_le (tt (p:=p) h2 (d:=d) (by omega))
 rw [←Pol.mod_eq_iff hq0,Pol.mod_small (by omega),Pol.mod_small (by omega)] at e
 have:=Dk h1 h2 e;omega
theorem C4 {q:Fp p} {d:Nat} (hq:q.len=d+1) (hd:p^d<1000000000000) (x:Quo q):x∈yi q d↔x≠0:=by
 have hc:=m6 (p:=p) d;have hpos:=pa (p:=p) d;have hq0:q≠0:=fun h0=>by rw [h0,Pol.len_zero] at hq; omega
 constructor
 ·intro h e
  obtain ⟨n,hn,rfl⟩:=ch.1 h;rw [ft] at hn;have h1:A8 ((n:Int)+1):=⟨by omega,by omega⟩
  have l1:=Pol.len_le (tt (p:=p) h1 (d:=d) (by omega))
  rw [←Quo.mk_zero,←Pol.mod_eq_iff hq0,Pol.mod_small (by omega),Pol.zero_mod hq0,←Az] at e
  have:=Dk h1 ⟨by omega,by omega⟩ e
  omega
 ·intro h
  obtain ⟨a,rfl⟩:=Quo.ex x;have hl:=Pol.len_mod a hq0;rw [←Pol.mk_mod] at h ⊢;have hin:=zf (a%q);have hle:p^(a%q).len≤p^d:=gr (by have:=IsP.pos (p:=p); omega) (by omega)
  have e:=Bz (a:=a%q) (by omega)
  have hne:fh (a%q)≠0:=fun h0=>by
   rw [h0,Az] at e;exact h (by rw [←e,Quo.mk_zero])
  refine ch.2 ⟨(fh (a%q)).toNat-1,?_,?_⟩
  ·rw [ft]; omega
  ·rw [show (((fh (a%q)).toNat-1:Nat):Int)+1=fh (a%q) by omega,e]
theorem U5 {q:Fp p} (hi:Irr q) {d:Nat} (hq:q.len=d+1) (hd:p^d<1000000000000) {x:Quo q} (hx:x≠0):pw x (p.toNat^d-1)=1:=by
 classical
 have h1:(1:Quo q)≠0:=(Qm hi).one_ne;have:=a1t (xr hq hd) (fun x y e=>hi.quo_zero e) h1 (C4 hq hd) hx
 rwa [yi,ba,jw] at this
theorem xg {q:Fp p} (hi:Irr q) {d:Nat} (hq:q.len=d+1) (hd:p^d<1000000000000) (x:Quo q):pw x (p.toNat^d)=x:=by
 have hpos:=pa (p:=p) d
 by_cases hx:x=0
 ·rw [hx]
  cases hn:p.toNat^d with
  | zero=>omega
  | succ n=>rw [pw,Gq.mul_zero]
 ·have:=U5 hi hq hd hx
  have e:p.toNat^d=(p.toNat^d-1)+1:=by omega
  rw [e,pw,this,Gq.one_mul]
end
section
variable {p:Int}
theorem aff {q:Fp p}:(ic p:Quo q)=0:=by
 have h:∀n:Int,(ic n:Quo q)=Quo.mk q (Pol.C (zp p n)):=by
  have hn:∀n:Nat,(nc n:Quo q)=Quo.mk q (Pol.C (zp p n)):=by
   intro n
   induction n with
   | zero=>show (0:Quo q)=_; rw [show zp p ((0:Nat):Int)=0 from rfl,Pol.C_zero,Quo.mk_zero]
   | succ n ih=>
    rw [nc,ih];have:zp p ((n+1:Nat):Int)=zp p n+1:=rfl;rw [this,Pol.C_add,Quo.mk_add,Pol.C_one,Quo.mk_one]
  intro n;cases n with
  | ofNat n=>exact hn n
  | negSucc n=>
   show -(nc (n+1):Quo q)=_;rw [hn,←Quo.mk_neg,←Pol.C_neg]; rfl
 rw [h];have:zp p p=0:=Ex.2 (by simp)
 rw [this,Pol.C_zero,Quo.mk_zero]
end
section
variable {p:Int} [IsP p]
theorem wo {q:Fp p} (x y:Quo q):pw (x+y) p.toNat=pw x p.toNat+pw y p.toNat:=by
 have h:=aff (q:=q);rcases (inferInstance:IsP p).h with rfl | rfl | rfl | rfl
 ·have e:pw (x+y) 2=pw x 2+pw y 2+ic 2*(x*y):=by
   show (x+y)^2=x^2+y^2+ic 2*(x*y);exact bq [x,y] rfl
  rw [h,Gq.zero_mul,Gq.add_zero] at e;exact e
 ·have e:pw (x+y) 3=pw x 3+pw y 3+ic 3*(x*x*y+x*y*y):=by
   show (x+y)^3=x^3+y^3+ic 3*(x*x*y+x*y*y);exact bq [x,y] rfl
  rw [h,Gq.zero_mul,Gq.add_zero] at e;exact e
 ·have e:pw (x+y) 5=pw x 5+pw y 5+ic 5*(x^4*y+ic 2*x^3*y^2+ic 2*x^2*y^3+x*y^4):=by
   show (x+y)^5=x^5+y^5+ic 5*(x^4*y+ic 2*x^3*y^2+ic 2*x^2*y^3+x*y^4);exact bq [x,y] rfl
  rw [h,Gq.zero_mul,Gq.add_zero] at e;exact e
 ·have e:pw (x+y) 7=pw x 7+pw y 7+ic 7*(x^6*y+ic 3*x^5*y^2+ic 5*x^4*y^3+ic 5*x^3*y^4+ic 3*x^2*y^5+x*y^6):=by
   show (x+y)^7=x^7+y^7+ic 7*(x^6*y+ic 3*x^5*y^2+ic 5*x^4*y^3+ic 5*x^3*y^4+ic 3*x^2*y^5+x*y^6);exact bq [x,y] rfl
  rw [h,Gq.zero_mul,Gq.add_zero] at e;exact e
theorem ue (c:Zp p):pw c p.toNat=c:=by
 have h0:=im c;have e:c=zp p (rep c):=(lm c).symm;generalize rep c=n at *;subst e;rcases (inferInstance:IsP p).h with rfl | rfl | rfl | rfl
 ·have:n=0∨n=1:=by omega
  rcases this with rfl | rfl <;> exact Ex.2 (by decide)
 ·have:n=0∨n=1∨n=2:=by omega
  rcases this with rfl | rfl | rfl <;> exact Ex.2 (by decide)
 ·have:n=0∨n=1∨n=2∨n=3∨n=4:=by omega
  rcases this with rfl | rfl | rfl | rfl | rfl <;> exact Ex.2 (by decide)
 ·have:n=0∨n=1∨n=2∨n=3∨n=4∨n=5∨n=6:=by omega
  rcases this with rfl | rfl | rfl | rfl | rfl | rfl | rfl <;> exact Ex.2 (by decide)
end
end Pe
namespace Pe
open Go Gq
section
variable {p:Int} [IsP p]
theorem Ej {q:Fp p} (x y:Quo q):∀k,pw (x+y) (p.toNat^k)=pw x (p.toNat^k)+pw y (p.toNat^k)
 | 0=>by rw [mh,rc,rc,rc]
 | k+1=>by rw [fo,←qw,Ej x y k,wo,qw,qw]
theorem Ga (c:Zp p):∀k,pw c (p.toNat^k)=c
 | 0=>by rw [mh,rc]
 | k+1=>by rw [fo,←qw,Ga c k,ue]
end
section
variable {p:Int}
theorem a11 (c:Zp p):∀n,Pol.C (pw c n)=pw (Pol.C c) n
 | 0=>rfl
 | n+1=>by rw [pw,Pol.C_mul,a11 c n,pw]
end
section
variable {p:Int} [IsP p]
end
section
variable {p:Int}
theorem Or {P:Fp p→Prop} (h0:P 0) (h:∀c a,P a→P (Pol.C c+Pol.X*a)):∀(n:Nat) (a:Fp p),a.lt n→P a
 | 0,a,ha=>by rw [Pol.lt_zero.1 ha]; exact h0
 | n+1,a,ha=>by
  obtain ⟨m,hm⟩:=a.fin
  let b:Fp p:=⟨fun i=>a.c (i+1),m,fun i hi=>hm _ (by omega)⟩
  have e:a=Pol.C (a.c 0)+Pol.X*b:=Pol.ext fun i=>by
   rw [Pol.c_add,Pol.c_C,Pol.c_Xmul];cases i with
   | zero=>rw [if_pos rfl,if_pos rfl,Gq.add_zero]
   | succ i=>rw [if_neg (by omega),if_neg (by omega),Gq.zero_add]; rfl
  rw [e];exact h _ _ (Or h0 h n b fun i hi=>ha _ (by omega))
end
section
variable {p:Int} [IsP p]
theorem Jg {q:Fp p} (k:Nat) (h:pw (Quo.mk q Pol.X) (p.toNat^k)=Quo.mk q Pol.X) (x:Quo q):pw x (p.toNat^k)=x:=by
 obtain ⟨a,rfl⟩:=Quo.ex x;refine Or (P:=fun a=>pw (Quo.mk q a) (p.toNat^k)=Quo.mk q a) ?_ (fun c a ha=>?_) _ a a.lt_len
 ·rw [Quo.mk_zero]
  have:=pa (p:=p) k;cases hn:p.toNat^k with
  | zero=>omega
  | succ n=>rw [pw,Gq.mul_zero]
 ·rw [Quo.mk_add,Quo.mk_mul,Ej,sb,h,ha]
  congr 1
  rw [←Quo.mk_pow,←a11,Ga]
theorem uk {K:Type} [CR K] (m:Nat) (g:Nat→K):∀n,ff (fun i=>(if i=m then 1 else 0)*g i) n=if m<n then g m else 0
 | 0=>by rw [if_neg (by omega)]; rfl
 | n+1=>by
  rw [ff,uk m g n];rcases jz m n with h | h | h
  ·rw [if_pos h,if_neg (by omega),if_pos (by omega),Gq.zero_mul,Gq.add_zero]
  ·rw [if_neg (by omega),if_pos h.symm,if_pos (by omega),Gq.one_mul,Gq.zero_add,h]
  ·rw [if_neg (by omega),if_neg (by omega),if_neg (by omega),Gq.zero_mul,Gq.add_zero]
noncomputable def frT (p:Int) (k:Nat):Fp p:=pw Pol.X (p.toNat^k)-Pol.X
theorem y7 {q:Fp p} {k:Nat}:Dv q (frT p k)↔pw (Quo.mk q Pol.X) (p.toNat^k)=Quo.mk q Pol.X:=by
 rw [gh,frT,Quo.mk_sub,Quo.mk_pow];exact ⟨fun h=>sd h,fun h=>by rw [h,sub_self]⟩
theorem H9 {q:Fp p} (hi:Irr q) {d:Nat} (hq:q.len=d+1) (hd:p^d<1000000000000):Dv q (frT p d):=y7.2 (xg hi hq hd _)
theorem C8 {q:Fp p} (hi:Irr q) {d k:Nat} (hq:q.len=d+1) (hd:p^d<1000000000000) (hk:0<k) (h:Dv q (frT p k)):d≤k:=by
 classical
 have hfix:=Jg k (y7.1 h);have hone:(1:Quo q)≠0:=(Qm hi).one_ne;have hP:2≤p.toNat:=by have:=IsP.ge (p:=p); omega
 have hne1:1<p.toNat^k:=Nat.one_lt_pow (by omega) hP
 have r:=De (fun x y e=>hi.quo_zero e) (p.toNat^k) (fun i=>(if i=p.toNat^k then (1:Quo q) else 0)-(if i=1 then 1 else 0)) ((0:Quo q)::yi q d)
  (by rw [if_pos rfl,if_neg (by omega),sub_eq,py,Gq.add_zero]; exact hone)
  (mc.2 ⟨fun h0=>(C4 hq hd 0).1 h0 rfl,xr hq hd⟩)
  (fun y _=>by
   have e:(fun i=>((if i=p.toNat^k then (1:Quo q) else 0)-(if i=1 then 1 else 0))*pw y i)=fun i=>(if i=p.toNat^k then (1:Quo q) else 0)*pw y i+(if i=1 then 1 else 0) * -pw y i:=by
    funext i
    exact bq [(if i=p.toNat^k then (1:Quo q) else 0),(if i=1 then (1:Quo q) else 0),pw y i] rfl
   rw [e,xc,uk,uk _ (fun i=>-pw y i),if_pos (by omega),if_pos (by omega),hfix,rc,add_neg])
 have hl:(yi q d).length=p.toNat^d-1:=by unfold yi; rw [ba,jw]
 have hpos:=pa (p:=p) d;rw [bu,hl] at r;have:p.toNat^d≤p.toNat^k:=by omega
 exact (Nat.pow_le_pow_iff_right (by omega)).1 this
end
section
variable {p:Int} [IsP p]
theorem Og:∀{l m:List Int},Can p l→Can p m→l.length<m.length→cf m (m.length-1)≠0→vl p l<vl p m
 | l,[],_,_,h,_=>by simp at h
 | l,d::m,hl,hm,h,hc=>by
  have hp:=IsP.pos (p:=p);have hd:=hm d (by simp)
  have hmc:Can p m:=fun x hx=>hm x (by simp [hx])
  cases l with
  | nil=>
   show 0<d+p*vl p m;have h2:=(Xq hmc).1;cases m with
   | nil=>
    have:d≠0:=hc;simp [vl]; omega
   | cons e m=>
    have h3:cf (e::m) ((e::m).length-1)≠0:=by simpa [cf] using hc
    have:=Og (l:=[]) (m:=e::m) (fun x hx=>by simp at hx) hmc (by simp) h3
    have h5:0<p*vl p (e::m):=vk hp (by simpa [vl] using this)
    omega
  | cons c l=>
   have hlc:Can p l:=fun x hx=>hl x (by simp [hx])
   have hcc:=hl c (by simp)
   have h3:cf m (m.length-1)≠0:=by
    cases m with
    | nil=>simp at h
    | cons e m=>simpa [cf] using hc
   have:=Og hlc hmc (by simpa using h) h3
   have h5:p*(vl p l+1)≤p*vl p m:=c7 (by omega) (by omega)
   rw [td,lc] at h5;show c+p*vl p l<d+p*vl p m;omega
end
section
variable {p:Int}
theorem a1m {a:Fp p} (h:a≠0):cf (row a) ((row a).length-1)≠0:=by
 rw [bf,gd];exact fun h0=>Pol.ld_ne h (ku.1 h0)
end
section
variable {p:Int} [IsP p]
theorem ua {a b:Fp p} (h:a.len<b.len):fh a<fh b:=Og (ko a) (ko b) (by simpa using h) (a1m fun h0=>by rw [h0,Pol.len_zero] at h; omega)
theorem a3q:∀{l m:List Int},Can p l→Can p m→l.length=m.length→vl p l=vl p m→l=m
 | [],[],_,_,_,_=>rfl
 | [],_::_,_,_,h,_=>by simp at h
 | _::_,[],_,_,h,_=>by simp at h
 | c::l,d::m,hl,hm,h,e=>by
  have hp:=IsP.pos (p:=p);have hcc:=hl c (by simp)
  have hd:=hm d (by simp)
  have e2:c+p*vl p l=d+p*vl p m:=e
  have e3:c=d:=by
   have:=congrArg (· % p) e2
   simp only [p6] at this
   rwa [mj hcc.1 hcc.2,mj hd.1 hd.2] at this
  subst e3;have e4:p*vl p l=p*vl p m:=by omega
  rw [a3q (l:=l) (m:=m) (fun x hx=>hl x (by simp [hx])) (fun x hx=>hm x (by simp [hx])) (by simpa using h) (Int.eq_of_mul_eq_mul_left (by omega) e4)]
theorem Lq {a b:Fp p} (h:fh a=fh b):a=b:=by
 rcases jz a.len b.len with h1 | h1 | h1
 ·have:=ua h1; omega
 ·exact a71 (a3q (ko a) (ko b) (by simpa using h1) h)
 ·have:=ua h1; omega
abbrev k9 (p:Int):=List (Fp p×Nat)
noncomputable def ki (L:k9 p):Fp p:=pn (L.map fun x=>pw x.1 x.2)
structure FacOk (L:k9 p):Prop where
 irr:∀x∈L,Irr x.1∧Monic x.1∧1≤x.2
 dis:L.Pairwise fun x y=>x.1≠y.1
structure IsFac (a:Fp p) (L:k9 p):Prop where
 ok:FacOk L
 sorted:L.Pairwise fun x y=>fh x.1<fh y.1
 eq:a=Pol.C a.ld*ki L
end
section
variable {p:Int}
theorem qh (x:Fp p×Nat) (L:k9 p):ki (x::L)=pw x.1 x.2*ki L:=rfl
end
section
variable {p:Int} [IsP p]
theorem Monic.pw {a:Fp p} (h:Monic a):∀n,Monic (pw a n)
 | 0=>Monic.one
 | n+1=>(Monic.pw h n).mul h
theorem vd {L:k9 p} (h:FacOk L):Monic (ki L):=by
 induction L with
 | nil=>exact Monic.one
 | cons x L ih=>
  rw [qh];exact (Monic.pw (h.irr x (by simp)).2.1 _).mul (ih ⟨fun y hy=>h.irr y (by simp [hy]),(d5.1 h.dis).2⟩)
theorem Irr.pw_dv {q a:Fp p} (h:Irr q):∀n,Dv q (pw a n)→Dv q a
 | 0,hd=>by
  have h1:q.len≤(1:Fp p).len:=hd.len Pol.one_ne;have h2:=h.len;rw [Pol.len_one] at h1; omega
 | n+1,hd=>(h.prime hd).elim (Irr.pw_dv h n) id
theorem Gy {q:Fp p} (hq:Irr q) (mq:Monic q):∀{L:k9 p},FacOk L→Dv q (ki L)→∃k,(q,k)∈L
 | [],_,h=>by
  have h1:q.len≤(1:Fp p).len:=h.len Pol.one_ne;have h2:=hq.len;rw [Pol.len_one] at h1; omega
 | x::L,ok,h=>by
  rw [qh] at h;rcases hq.prime h with h1 | h1
  ·have h2:=Irr.pw_dv hq _ h1
   obtain ⟨i1,i2,_⟩:=ok.irr x (by simp)
   have:=hq.eq_of_dv i1 mq i2 h2;exact ⟨x.2,by rw [this]; simp⟩
  ·obtain ⟨k,hk⟩:=Gy hq mq ⟨fun y hy=>ok.irr y (by simp [hy]),(d5.1 ok.dis).2⟩ h1
   exact ⟨k,by simp [hk]⟩
theorem x8 {q:Fp p} {k:Nat}:∀{L:k9 p},FacOk L→(q,k)∈L→∃r,ki L=pw q k*r∧¬ Dv q r
 | x::L,ok,h=>by
  have ok':FacOk L:=⟨fun y hy=>ok.irr y (by simp [hy]),(d5.1 ok.dis).2⟩
  rw [qh];rcases d8.1 h with rfl | h
  ·refine ⟨ki L,rfl,fun hd=>?_⟩
   obtain ⟨i1,i2,_⟩:=ok.irr (q,k) (by simp)
   obtain ⟨k',hk⟩:=Gy i1 i2 ok' hd;exact (d5.1 ok.dis).1 _ hk rfl
  ·obtain ⟨r,e,hn⟩:=x8 ok' h
   refine ⟨pw x.1 x.2*r,by rw [e,Gq.mul_left_comm],fun hd=>?_⟩
   obtain ⟨i1,i2,_⟩:=ok.irr (q,k) (by simp [h])
   obtain ⟨j1,j2,_⟩:=ok.irr x (by simp)
   rcases i1.prime hd with h1 | h1
   ·have h2:=Irr.pw_dv i1 _ h1
    have e:=i1.eq_of_dv j1 i2 j2 h2;exact (d5.1 ok.dis).1 _ h e.symm
   ·exact hn h1
theorem J3 {a:Fp p} (h:a≠0):∀n,pw a n≠0
 | 0=>Pol.one_ne
 | n+1=>Pol.mul_ne (J3 h n) h
theorem Gz {a:Fp p} (ha:a≠0) {L:k9 p} (ok:FacOk L) (e:a=Pol.C a.ld*ki L) (q:Fp p) (k:Nat):(q,k)∈L↔Irr q∧Monic q∧1≤k∧Dv (pw q k) a∧¬ Dv (pw q (k+1)) a:=by
 have hld:=Pol.ld_ne ha
 have dvP:∀c,Dv c a↔Dv c (ki L):=fun c=>by
  constructor
  ·rintro ⟨x,hx⟩
   refine ⟨Pol.C (Fd.inv a.ld)*x,?_⟩
   have:ki L=Pol.C (Fd.inv a.ld)*a:=by
    rw [e];have e2:(Pol.C a.ld*ki L).ld=a.ld:=by rw [←e]
    rw [e2,←Gq.mul_assoc,Gq.mul_comm (Pol.C (Fd.inv _)),a26 hld,Gq.one_mul]
   rw [this];generalize Pol.C (Fd.inv a.ld)=k;rw [hx];exact bq [k,c,x] rfl
  ·intro h
   rw [e]; exact h.mul_left _
 constructor
 ·intro h
  obtain ⟨i1,i2,i3⟩:=ok.irr (q,k) h;obtain ⟨r,e2,hn⟩:=x8 ok h;refine ⟨i1,i2,i3,(dvP _).2 ⟨r,e2⟩,fun hd=>hn ?_⟩
  obtain ⟨y,hy⟩:=(dvP _).1 hd;rw [e2,pw,Gq.mul_assoc] at hy;exact ⟨y,Pol.mul_cancel (J3 i1.ne k) hy⟩
 ·rintro ⟨i1,i2,i3,h1,h2⟩
  have hq:Dv q a:=by
   obtain ⟨k,rfl⟩:∃j,k=j+1:=⟨k-1,by omega⟩
   exact Dv.trans ⟨pw q k,Gq.mul_comm _ _⟩ h1
  obtain ⟨k',hk'⟩:=Gy i1 i2 ok ((dvP _).1 hq);obtain ⟨r,e2,hn⟩:=x8 ok hk'
  have:k=k':=by
   rcases jz k k' with h | h | h
   ·exfalso
    apply h2;rw [dvP,e2];obtain ⟨j,rfl⟩:=gi (show k+1≤k' from h);rw [v5 q (k+1) j];exact ((Dv.refl _).mul_right _).mul_right _
   ·exact h
   ·exfalso
    apply hn;obtain ⟨y,hy⟩:=(dvP _).1 h1;obtain ⟨j,rfl⟩:=gi (show k'+1≤k from h);rw [e2,v5,pw,Gq.mul_assoc,Gq.mul_assoc] at hy;exact ⟨_,Pol.mul_cancel (J3 i1.ne k') hy⟩
  rw [this]; exact hk'
theorem Ly {α:Type} (f:α→Int):∀{l m:List α},l.Pairwise (fun x y=>f x<f y)→m.Pairwise (fun x y=>f x<f y)→(∀x,x∈l↔x∈m)→l=m
 | [],[],_,_,_=>rfl
 | [],y::m,_,_,h=>by have:=(h y).2 (by simp); simp at this
 | x::l,[],_,_,h=>by have:=(h x).1 (by simp); simp at this
 | x::l,y::m,hl,hm,h=>by
  obtain ⟨l1,l2⟩:=d5.1 hl;obtain ⟨m1,m2⟩:=d5.1 hm
  have e:x=y:=by
   rcases d8.1 ((h x).1 (by simp)) with h1 | h1
   ·exact h1
   ·rcases d8.1 ((h y).2 (by simp)) with h2 | h2
    ·exact h2.symm
    ·have:=m1 _ h1
     have:=l1 _ h2;omega
  subst e;rw [Ly f l2 m2 fun z=>?_]
  constructor
  ·intro hz
   rcases d8.1 ((h z).1 (by simp [hz])) with h1 | h1
   ·subst h1; have:=l1 _ hz; omega
   ·exact h1
  ·intro hz
   rcases d8.1 ((h z).2 (by simp [hz])) with h1 | h1
   ·subst h1; have:=m1 _ hz; omega
   ·exact h1
theorem IsFac.unique {a:Fp p} (ha:a≠0) {L L':k9 p} (h:IsFac a L) (h':IsFac a L'):L=L':=
 Ly (fun x=>fh x.1) h.sorted h'.sorted fun x=>by
  obtain ⟨q,k⟩:=x;rw [Gz ha h.ok h.eq,Gz ha h'.ok h'.eq]
def Ad (n:Nat) (a:Fp p):Prop:=∀q,Irr q→Dv q a→n+1≤q.len
theorem za {a:Fp p} {n:Nat} (h:Ad n a) (hl:2≤a.len) (hs:a.len<2*n+1):Irr a:=by
 refine Irr.of_dv hl fun u hu=>?_
 have ha:a≠0:=fun h0=>by rw [h0,Pol.len_zero] at hl; omega
 obtain ⟨v,rfl⟩:=hu;have hu0:u≠0:=fun h0=>ha (by rw [h0,Gq.zero_mul])
 have hv0:v≠0:=fun h0=>ha (by rw [h0,Gq.mul_zero])
 have l:=Pol.len_mul hu0 hv0;have l1:=Pol.len_pos hu0;have l2:=Pol.len_pos hv0;apply cm;intro hx;have hu2:2≤u.len:=by omega
 have hv2:2≤v.len:=by omega
 obtain ⟨q,q1,_,q2⟩:=Bw u.len u (bj _) hu2;obtain ⟨r,r1,_,r2⟩:=Bw v.len v (bj _) hv2;have s1:=h q q1 (q2.mul_right v);have s2:=h r r1 (r2.mul_left u);have s3:=q2.len hu0;have s4:=r2.len hv0;omega
theorem S9 (a:Fp p):Ad 1 a:=fun _q h _=>h.len
theorem Td {a b:Fp p} {n:Nat} (h:Ad n a) (hd:Dv b a):Ad n b:=fun q hq hb=>h q hq (hb.trans hd)
end
end Pe
namespace Pe
open Go Gq
variable {T:Nat→Option Fn} {A:ap}
def B8 (O:ap) (F:Nat):Prop:=∀x:Int,ask O F [(D.int .i64 x)]=some (D.bool false)
theorem a8p (hT:T F3=some Z3):B8 (den T A) F3:=fun x=>by
 refine cd hT rfl ?_;simp -implicitDefEqProofs [Z3,Z3_B]
theorem a0s (hT:T F4=some Z4):B8 (den T A) F4:=fun x=>by
 refine cd hT rfl ?_;simp -implicitDefEqProofs [Z4,Z4_B]
def pt (x y:Int):Int:=if x<y then -1 else if y<x then 1 else 0
def qj (O:ap) (F:Nat):Prop:=∀x y:Int,ask O F [(D.int .i64 x),(D.int .i64 y)]=some (D.int .i64 (pt x y))
theorem Tn (hT:T F0=some Z0) (h:B8 (den T A) F3):qj (den T A) F0:=fun x y=>by
 have e1:=h x;have e2:=h y;refine cd hT rfl ?_;unfold pt
 by_cases h1:x<y
 ·simp -implicitDefEqProofs [Z0,Z0_B,e1,e2,h1,az]
 ·by_cases h2:y<x
  ·simp -implicitDefEqProofs [Z0,Z0_B,e1,e2,h1,h2,az]
  ·simp -implicitDefEqProofs [Z0,Z0_B,e1,e2,h1,h2,az]
theorem Mo (hT:T F2=some Z2) (h:B8 (den T A) F4):qj (den T A) F2:=fun x y=>by
 have e1:=h x;have e2:=h y;refine cd hT rfl ?_;unfold pt
 by_cases h1:x<y
 ·simp -implicitDefEqProofs [Z2,Z2_B,e1,e2,h1,az]
 ·by_cases h2:y<x
  ·simp -implicitDefEqProofs [Z2,Z2_B,e1,e2,h1,h2,az]
  ·simp -implicitDefEqProofs [Z2,Z2_B,e1,e2,h1,h2,az]
def Ev (l m:List Int):Nat→Int
 | 0=>0
 | n+1=>if pt (cf l n) (cf m n)≠0 then pt (cf l n) (cf m n) else Ev l m n
theorem Lu {O:ap} (hc:qj O F2) {l m:List Int} (hlm:l.length=m.length) (hl:l.length<1000000):∀n:Nat,n≤l.length →
 dn O 0 (.loop Zl_L0) ⟨[(0,(.d (.sl .leaf (ah .i64 l)))),(1,(.d (.sl .leaf (ah .i64 m)))),(6,(.d (.int .i64 ((n:Int)-1))))],[]⟩ =
  if Ev l m n=0 then some (.exit 0,⟨[(0,(.d (.sl .leaf (ah .i64 l)))),(1,(.d (.sl .leaf (ah .i64 m)))),(6,(.d (.int .i64 (-1)))),(20,(.d (.bool false)))],[]⟩) else some (.ret,⟨[(4,(.d (.int .i64 (Ev l m n))))],[]⟩)
 | 0,hn=>by
  simp only [Ev,if_true];exact cg (by simp -implicitDefEqProofs [Zl_L0,az])
 | n+1,hn=>by
  have t0:(((n+1:Nat):Int)-1)=(n:Int):=by omega
  rw [t0];have h1:n<l.length:=by omega
  have h2:n<m.length:=by omega
  have e1:l[n]? = some (cf l n):=by rw [b7 h1,fp h1]
  have e2:m[n]? = some (cf m n):=by rw [b7 h2,fp h2]
  have e1':l[n]=cf l n:=(fp h1).symm;have e2':m[n]=cf m n:=(fp h2).symm;have e3:=hc (cf l n) (cf m n);have w1:IntKind.i64.wrap ((n:Int)-1)=(n:Int)-1:=w64 (by omega)
  by_cases h0:pt (cf l n) (cf m n)=0
  ·rw [h0] at e3
   have e:Ev l m (n+1)=Ev l m n:=if_neg (fun h=>h h0)
   rw [e];refine c8 ?_ (Lu hc hlm hl n (by omega))
   simp -implicitDefEqProofs [Zl_L0,az,h1,h2,e1',e2',e3,w1]
  ·have e:Ev l m (n+1)=pt (cf l n) (cf m n):=if_pos h0
   rw [e,if_neg h0];refine nj ?_;simp -implicitDefEqProofs [Zl_L0,az,h1,h2,e1',e2',e3,h0]
def a7f (l m:List Int):Int:=if pt l.length m.length≠0 then pt l.length m.length else Ev l m l.length
def Al (O:ap):Prop:=∀l m:List Int,l.length<1000000→m.length<1000000→ask O Fl [(D.sl .leaf (ah .i64 l)),(D.sl .leaf (ah .i64 m))]=some (D.int .i64 (a7f l m))
theorem Y6 (hT:T Fl=some Zl) (h1:qj (den T A) F0) (h2:qj (den T A) F2):Al (den T A):=by
 intro l m hl hm;have e1:=h1 l.length m.length;unfold a7f;refine cd hT rfl ?_
 by_cases h0:pt l.length m.length=0
 ·have hlm:l.length=m.length:=by
   unfold pt at h0
   split at h0
   ·omega
   ·split at h0 <;> omega
  rw [if_neg (fun h=>h h0)]
  rw [h0] at e1;have e2:=Lu h2 hlm hl l.length (bj _);have w1:IntKind.i64.wrap ((l.length:Int)-1)=(l.length:Int)-1:=w64 (by omega)
  by_cases hz:Ev l m l.length=0
  ·rw [if_pos hz] at e2
   simp -implicitDefEqProofs [Zl,Zl_B,az,e1,e2,w1,hz]
  ·rw [if_neg hz] at e2
   simp -implicitDefEqProofs [Zl,Zl_B,az,e1,e2,w1]
 ·rw [if_pos h0]
  simp -implicitDefEqProofs [Zl,Zl_B,az,e1,h0]
section
variable (f:D→Int)
def Bd:List D→D→List D→List D
 | [],x,R=>x::R
 | y::L,x,R=>if f x<f y then Bd L x (y::R) else (y::L).reverse++x::R
def Jt:List D→List D→List D
 | P,[]=>P
 | P,x::r=>Jt (Bd f P.reverse x []) r
theorem Qt:∀(L:List D) (x:D) (R S:List D),Bd f L x (R++S)=Bd f L x R++S
 | [],x,R,S=>rfl
 | y::L,x,R,S=>by
  unfold Bd
  split
  ·rw [←fy,Qt L x (y::R) S]
  ·simp
theorem Af:∀(L:List D) (x:D) (R:List D),(Bd f L x R).Perm (x::(L.reverse++R))
 | [],x,R=>.refl _
 | y::L,x,R=>by
  unfold Bd
  split
  ·refine (Af L x (y::R)).trans ?_
   simp
  ·exact List.perm_middle
theorem a43 (L:List D) (x:D) (R:List D):(Bd f L x R).length=L.length+R.length+1:=by
 have:=(Af f L x R).length_eq
 simpa using this
def Asc (l:List D):Prop:=l.Pairwise fun x y=>f x≤f y
theorem Su:∀(L:List D) (x:D) (R:List D),Asc f (L.reverse++R)→(∀y∈R,f x≤f y)→Asc f (Bd f L x R)
 | [],x,R,h,hx=>by
  unfold Bd Asc;refine d5.2 ⟨hx,?_⟩;have h':Asc f R:=by simpa using h
  exact h'
 | y::L,x,R,h,hx=>by
  unfold Bd
  split
  ·rename_i hlt
   refine Su L x (y::R) (by simpa using h) fun z hz=>?_
   rcases d8.1 hz with rfl | hz
   ·omega
   ·exact hx z hz
  ·rename_i hlt
   unfold Asc at h ⊢;rw [fe] at h ⊢;refine ⟨h.1,d5.2 ⟨hx,h.2.1⟩,fun a ha b hb=>?_⟩
   rcases d8.1 hb with rfl | hb
   ·have hay:f a≤f y:=by
     have h1:=h.1;rw [List.reverse_cons,fe] at h1;rw [List.reverse_cons] at ha;rcases bi.1 ha with ha | ha
     ·exact h1.2.2 a ha y (by simp)
     ·simp at ha; rw [ha]; exact tc _
    omega
   ·exact h.2.2 a ha b hb
theorem M2:∀(r P:List D),(Jt f P r).Perm (P++r)
 | [],P=>by simp [Jt]
 | x::r,P=>by
  unfold Jt;refine (M2 r _).trans ?_;have:=Af f P.reverse x [];refine (List.Perm.append_right r this).trans ?_;simp;exact List.perm_middle.symm
theorem Ss:∀(r P:List D),Asc f P→Asc f (Jt f P r)
 | [],P,h=>h
 | x::r,P,h=>by
  unfold Jt;exact Ss r _ (Su f P.reverse x [] (by simpa using h) (by simp))
end
section
variable {O:ap} {g:Nat} {first caps:List D}
abbrev kw:Sh:=.st [.leaf,.leaf]
structure CmpOk (O:ap) (g:Nat) (first caps:List D) (f:D→Int) (s:Sh) (cs:List D):Prop where
 nf:yn first
 nc:yn caps
 nx:yn cs
 sh:A7 s cs
 ask:∀x∈cs,∀y∈cs,ask O g (first++[x,y]++caps)=some (D.int .i64 (pt (f x) (f y)))
theorem CmpOk.perm {f:D→Int} {s:Sh} {cs ds:List D} (h:CmpOk O g first caps f s cs) (p:ds.Perm cs):CmpOk O g first caps f s ds:=
 ⟨h.nf,h.nc,fun x hx=>h.nx x (p.subset hx),fun x hx=>h.sh x (p.subset hx),fun x hx y hy=>h.ask x (p.subset hx) y (p.subset hy)⟩
theorem CmpOk.call {f:D→Int} {s:Sh} {cs:List D} (h:CmpOk O g first caps f s cs) {hp:Heap} {np:Nat} {news:List Nat} {x y:D} (hx:x∈cs) (hy:y∈cs) :
 Da O np hp .flat news (g,first.map .d,caps.map .d) [.d x,.d y]=some (.d (D.int .i64 (pt (f x) (f y))),hp):=by
 have e:p9 hp (first.map .d++[.d x,.d y]++caps.map .d)=some (first++[x,y]++caps):=
  v6 hp (v6 hp (o8 hp h.nf) (o8 hp (ds:=[x,y]) (by intro z hz; simp at hz; rcases hz with rfl | rfl; exact h.nx _ hx; exact h.nx _ hy))) (o8 hp h.nc)
 rw [Cj,e,ae,Hw,h.ask x hx y hy,ae,E3,show (D.int IntKind.i64 (pt (f x) (f y))).flat=true from rfl,if_pos rfl]
theorem Qx (x y:Int):pt x y<0↔x<y:=by
 unfold pt
 split
 ·omega
 ·split <;> omega
theorem a5o {f:D→Int} {n:Nat} {cp:Option Nat} (hn:n≤1000) {i:Nat}:∀(L:List D) (x:D) (R:List D),(L.reverse++x::R).length=n→CmpOk O g first caps f kw (L.reverse++x::R)→∃j:Int,
 dn O 1 (.loop Z2l_L0) ⟨[(0,.sl 0 [] 0 n cp),(1,(.d (.int .i64 0))),(2,(.d (.int .i64 n))),(3,.d (.fn g first caps)),(8,(.d (.int .i64 i))),(9,(.d (.int .i64 L.length)))],[.sl false kw (L.reverse++x::R)]⟩ =
  some (.exit 2,⟨[(0,.sl 0 [] 0 n cp),(1,(.d (.int .i64 0))),(2,(.d (.int .i64 n))),(3,.d (.fn g first caps)),(8,(.d (.int .i64 i))),(9,(.d (.int .i64 j))),(34,(.d (.bool false)))],[.sl false kw (Bd f L x R)]⟩)
 | [],x,R,hl,ok=>by
  refine ⟨0,cg ?_⟩;simp -implicitDefEqProofs [Z2l_L0,az,Bd]
 | y::L,x,R,hl,ok=>by
  have hj:(y::L).length=L.length+1:=rfl;have hlen:((y::L).reverse++x::R).length=L.length+1+(R.length+1):=by simp; omega
  have e1:((y::L).reverse++x::R)[L.length+1]? = some x:=by
   rw [bg (by simp)]; simp
  have e2:((y::L).reverse++x::R)[L.length]? = some y:=by
   rw [bn (by simp)]; simp
  have m1:x∈(y::L).reverse++x::R:=by simp
  have m2:y∈(y::L).reverse++x::R:=by simp
  have c:=ok.call (hp:=[.sl false kw ((y::L).reverse++x::R)]) (np:=1) (news:=[]) m1 m2;have s1:=ok.sh x m1;have s2:=ok.sh y m2;have n1:=ok.nx x m1;have n2:=ok.nx y m2
  have e3:(((y::L).reverse++x::R).set (L.length+1) y).set L.length x=L.reverse++x::y::R:=by
   rw [List.set_append_right _ _ (by simp),List.set_append_left _ _ (by simp)]
   simp
  have hp:((y::L).reverse++x::R).Perm (L.reverse++x::y::R):=by
   simp;exact (List.Perm.swap x y R).append_left _
  have w1:IntKind.i64.wrap (L.length:Int)=L.length:=w64 (by omega)
  have h0:(0:Int)<(L.length:Int)+1:=by omega
  have h00:(0:Int)≤(L.length:Int)+1:=by omega
  have h1:L.length+1<n:=by omega
  have h2:L.length<n:=by omega
  have h3:L.length<((y::L).reverse++x::R).length:=by omega
  have h4:L.length+1<((y::L).reverse++x::R).length:=by omega
  have e4:(((y::L).reverse++x::R).set (L.length+1) y)[L.length]? = some y:=by
   rw [bh (by omega),e2]
  unfold Bd;rw [hj,show ((L.length+1:Nat):Int)=(L.length:Int)+1 by omega]
  generalize (y::L).reverse++x::R=cs at *;have e1':cs[L.length+1]=x:=by rw [b7 h4] at e1; exact aw e1
  have e2':cs[L.length]=y:=by rw [b7 h3] at e2; exact aw e2
  by_cases hlt:f x<f y
  ·rw [if_pos hlt]
   obtain ⟨j,e⟩:=a5o hn L x (y::R) (by rw [←hp.length_eq]; omega) (ok.perm hp.symm)
   have hc:=(Qx (f x) (f y)).2 hlt;refine ⟨j,c8 ?_ e⟩;simp -implicitDefEqProofs [Z2l_L0,az,h0,h00,h1,h2,h3,h4,e1',e2',c,s1,s2,n1,n2,w1,hc,e3]
  ·rw [if_neg hlt]
   have hc:=mt (Qx (f x) (f y)).1 hlt;refine ⟨(L.length:Int)+1,cg ?_⟩;simp -implicitDefEqProofs [Z2l_L0,az,h0,h00,h1,h2,h3,h4,e1',e2',c,s1,s2,w1,hc]
end
theorem a35 {O:ap} {g:Nat} {first caps:List D} {f:D→Int} {n:Nat} {cp:Option Nat} (hn:n≤1000):∀(r P:List D),P.length+r.length=n→0<P.length→CmpOk O g first caps f kw (P++r) →
 dn O 1 (.loop Z2l_L1) ⟨[(0,.sl 0 [] 0 n cp),(1,(.d (.int .i64 0))),(2,(.d (.int .i64 n))),(3,.d (.fn g first caps)),(8,(.d (.int .i64 P.length)))],[.sl false kw (P++r)]⟩ =
  some (.exit 0,⟨[(0,.sl 0 [] 0 n cp),(1,(.d (.int .i64 0))),(2,(.d (.int .i64 n))),(3,.d (.fn g first caps)),(8,(.d (.int .i64 n))),(14,(.d (.bool false)))],[.sl false kw (Jt f P r)]⟩)
 | [],P,hl,hP,ok=>by
  have hl':P.length=n:=by simpa using hl
  refine cg ?_;simp -implicitDefEqProofs [Z2l_L1,az,Jt,hl']
 | x::r,P,hl,hP,ok=>by
  simp at hl;have e0:P.reverse.reverse++x::r=P++x::r:=by simp
  obtain ⟨j,e⟩:=a5o (O:=O) (g:=g) (first:=first) (caps:=caps) (f:=f) (n:=n) (cp:=cp) hn (i:=P.length) P.reverse x r (by simp; omega) (by rw [e0]; exact ok)
  rw [e0,List.length_reverse,←fg r,Qt,fg] at e;have hlen:=a43 f P.reverse x [];rw [List.length_reverse,dl,eg] at hlen
  have hperm:(Bd f P.reverse x []++r).Perm (P++x::r):=by
   refine (List.Perm.append_right r (Af f P.reverse x [])).trans ?_;simp;exact List.perm_middle.symm
  have ih:=a35 (O:=O) (g:=g) (first:=first) (caps:=caps) (f:=f) (cp:=cp) hn r (Bd f P.reverse x []) (by rw [hlen]; omega) (by omega) (ok.perm hperm)
  have hlt:P.length<n:=by omega
  have w1:IntKind.i64.wrap ((P.length:Int)+1)=((P.length+1:Nat):Int):=(w64 (x:=(P.length:Int)+1) (by omega)).trans (by omega)
  rw [hlen] at ih;unfold Jt;refine c8 ?_ ih;simp -implicitDefEqProofs [Z2l_L1,az,hlt,e,w1]
def a9v (O:ap) (F:Nat) (args:V→List V→List V):Prop:=∀(g:Nat) (first caps:List D) (f:D→Int) (cs:List D) (cp:Option Nat),cs.length≤12→CmpOk O g first caps f kw cs →
 ∃ds:List D,ds.Perm cs∧Asc f ds∧O F (args (.sl 0 [] 0 cs.length cp) [(.d (.int .i64 cs.length)),.d (.fn g first caps)]) [.sl false kw cs]=some (.tup [],[.sl false kw ds],[])
def vg (O:ap):Prop:=a9v O F2l fun s l=>[s,(.d (.int .i64 0))]++l
theorem Rh (hT:T F2l=some Z2l):vg (den T A):=by
 intro g first caps f cs cp hl ok;cases cs with
 | nil=>
  refine ⟨[],.refl _,List.Pairwise.nil,na hT rfl ?_⟩;have st:=cg (O:=den T A) (np:=1) (c:=Z2l_L1) (s:=⟨[(0,.sl 0 [] 0 0 cp),(1,(.d (.int .i64 0))),(2,(.d (.int .i64 0))),(3,.d (.fn g first caps)),(8,(.d (.int .i64 1)))],[.sl false kw []]⟩) (s1:=⟨[(0,.sl 0 [] 0 0 cp),(1,(.d (.int .i64 0))),(2,(.d (.int .i64 0))),(3,.d (.fn g first caps)),(8,(.d (.int .i64 1))),(14,(.d (.bool false)))],[.sl false kw []]⟩) (id:=0) (by simp -implicitDefEqProofs [Z2l_L1,az])
  have w1:IntKind.i64.wrap 1=1:=w64 (by omega)
  simp -implicitDefEqProofs [Z2l,Z2l_B,st,w1]
 | cons x r=>
  have e:=a35 (O:=den T A) (g:=g) (first:=first) (caps:=caps) (f:=f) (n:=(x::r).length) (cp:=cp) (by omega) r [x] (by simp; omega) (by simp) ok
  have e1:(([x]:List D).length:Int)=1:=rfl;rw [e1] at e;refine ⟨Jt f [x] r,M2 f r [x],Ss f r [x] (fj _ _),na hT rfl ?_⟩;have w1:IntKind.i64.wrap 1=1:=w64 (by omega)
  rw [List.singleton_append] at e;generalize x::r=cs at *;simp -implicitDefEqProofs [Z2l,Z2l_B,e,w1]
def Am (O:ap) (F:Nat):Prop:=∀n:Nat,n≤12→∃v:Int,ask O F [.int .u64 n]=some (D.int .i64 v)
theorem a6d (hT:T F27=some Z27):Am (den T A) F27:=by
 intro n hn
 have key:∀v:Int,run (fun _ _ _=>none) 1 Z27 [.d (.int .u64 n)] []=some ((.d (.int .i64 v)),[],[])→ask (den T A) F27 [.int .u64 n]=some (D.int .i64 v):=by
  intro v h
  have h2:=Ns (A:=A) hT (n:=1) (vs:=[.d (.int .u64 n)]) (bs:=[]) (ans:=((.d (.int .i64 v)),[],[])) (by
   obtain ⟨qs,h3,h4⟩:=Ay h;cases qs with
   | nil=>exact h4 _ (by intro q hq; simp at hq)
   | cons q qs=>exact absurd (h3 q (by simp)) (by simp))
  unfold ask;rw [show ([D.int .u64 n]:List D).map V.d=[.d (.int .u64 n)] from rfl,h2];rfl
 have h:n=0∨n=1∨n=2∨n=3∨n=4∨n=5∨n=6∨n=7∨n=8∨n=9∨n=10∨n=11∨n=12:=by omega
 rcases h with rfl | rfl | rfl | rfl | rfl | rfl | rfl | rfl | rfl | rfl | rfl | rfl | rfl
 ·exact ⟨0,key 0 (by kernel_rfl)⟩
 ·exact ⟨1,key 1 (by kernel_rfl)⟩
 ·exact ⟨2,key 2 (by kernel_rfl)⟩
 ·exact ⟨2,key 2 (by kernel_rfl)⟩
 ·exact ⟨3,key 3 (by kernel_rfl)⟩
 ·exact ⟨3,key 3 (by kernel_rfl)⟩
 ·exact ⟨3,key 3 (by kernel_rfl)⟩
 ·exact ⟨3,key 3 (by kernel_rfl)⟩
 ·exact ⟨4,key 4 (by kernel_rfl)⟩
 ·exact ⟨4,key 4 (by kernel_rfl)⟩
 ·exact ⟨4,key 4 (by kernel_rfl)⟩
 ·exact ⟨4,key 4 (by kernel_rfl)⟩
 ·exact ⟨4,key 4 (by kernel_rfl)⟩
theorem aem (hT:T F25=some Z25) (h:Am (den T A) F27):Am (den T A) F25:=by
 intro n hn;obtain ⟨v,e⟩:=h n hn;refine ⟨v,cd hT rfl ?_⟩;simp -implicitDefEqProofs [Z25,Z25_B,az,e]
theorem ada (hT:T F2t=some Z2t) (hi:vg (den T A)):∀(g:Nat) (first caps:List D) (f:D→Int) (cs:List D) (cp:Option Nat) (v:Int),cs.length≤12→CmpOk (den T A) g first caps f kw cs →
 ∃ds:List D,ds.Perm cs∧Asc f ds∧den T A F2t [.sl 0 [] 0 cs.length cp,(.d (.int .i64 0)),(.d (.int .i64 cs.length)),(.d (.int .i64 v)),.d (.fn g first caps)] [.sl false kw cs]=some (.tup [],[.sl false kw ds],[]):=by
 intro g first caps f cs cp v hl ok;obtain ⟨ds,h1,h2,e⟩:=hi g first caps f cs cp hl ok;refine ⟨ds,h1,h2,na hT rfl ?_⟩;have w1:IntKind.i64.wrap (cs.length:Int)=cs.length:=w64 (by omega)
 have h12:(cs.length:Int)≤12:=by omega
 have lp:=nj (O:=den T A) (np:=1) (c:=Z2t_L0) (s:=⟨[(0,.sl 0 [] 0 cs.length cp),(1,(.d (.int .i64 0))),(2,(.d (.int .i64 cs.length))),(3,(.d (.int .i64 v))),(4,.d (.fn g first caps)),(10,(.d (.bool true))),(11,(.d (.bool true)))],[.sl false kw cs]⟩) (s1:=⟨[],[.sl false kw ds]⟩) (by
  simp at e;simp -implicitDefEqProofs [Z2t_L0,az,w1,h12,e,List.idxOf,List.findIdx,List.findIdx.go])
 simp -implicitDefEqProofs [Z2t,Z2t_B,lp]
def Br (O:ap):Prop:=∀(g:Nat) (first caps:List D) (f:D→Int) (cs:List D) (cp:Option Nat),cs.length≤12→CmpOk O g first caps f kw cs →
 ∃ds:List D,ds.Perm cs∧Asc f ds∧O F2h [.sl 0 [] 0 cs.length cp,.d (.fn g first caps)] [.sl false kw cs]=some (.tup [],[.sl false kw ds],[])
theorem Uh (hT:T F2h=some Z2h) (hTp:T F2t=some Z2t) (hi:vg (den T A)) (hl:Am (den T A) F25):Br (den T A):=by
 intro g first caps f cs cp hl12 ok;obtain ⟨v,ev⟩:=hl cs.length hl12;obtain ⟨ds,h1,h2,e⟩:=ada hTp hi g first caps f cs cp v hl12 ok;refine ⟨ds,h1,h2,na hT rfl ?_⟩
 have w1:IntKind.u64.wrap (cs.length:Int)=cs.length:=by
  simp [IntKind.wrap,IntKind.bits,IntKind.signed]; omega
 simp -implicitDefEqProofs [Z2h,Z2h_B,w1,ev,e,List.idxOf,List.findIdx,List.findIdx.go]
theorem Wg {O:ap} (hd:t7 O) {p:Int} [IsP p] {b:Fp p} (hb:2≤b.len) (hbl:b.len<2000):∀(n:Nat) (a:Fp p) (i:Nat),a.len≤n→a≠0→n<2000→i+n<100000→∃(k:Nat) (r:Fp p),a=r*pw b k∧¬ Dv b r ∧
 dn O 0 (.loop Z1n_L0) ⟨[(0,(.d (.int .i64 p))),(1,(.d (.sl .leaf (ah .i64 (row a))))),(2,(.d (.sl .leaf (ah .i64 (row b))))),(8,(.d (.int .i64 i)))],[]⟩=some (.ret,⟨[(6,(.d (.sl .leaf (ah .i64 (row r))))),(7,(.d (.int .i64 ((i+k:Nat)))))],[]⟩)
 | 0,a,i,hn,ha,_,_=>absurd (Pol.len_zero_iff.1 (by omega)) ha
 | n+1,a,i,hn,ha,hn2,hi=>by
  have hb0:b≠0:=fun h=>by rw [h,Pol.len_zero] at hb; omega
  have e:=hd p a b hb0 (by omega) (by omega)
  by_cases h0:a%b=0
  ·have hm:=Pol.div_mod a b
   rw [h0,Gq.add_zero] at hm;have hq:a/b≠0:=fun h=>ha (by rw [hm,h,Gq.zero_mul])
   have hl:=Pol.len_mul hq hb0;rw [←hm] at hl;obtain ⟨k,r,e1,e2,e3⟩:=Wg hd hb hbl n (a/b) (i+1) (by omega) hq (by omega) (by omega)
   refine ⟨k+1,r,?_,e2,?_⟩
   ·rw [pw,←Gq.mul_assoc,←e1]; exact hm
   ·have w1:IntKind.i64.wrap ((i:Int)+1)=((i+1:Nat):Int):=(w64 (x:=(i:Int)+1) (by omega)).trans (by omega)
    rw [show i+(k+1)=i+1+k by omega]
    refine c8 ?_ e3;simp -implicitDefEqProofs [Z1n_L0,az,e,h0,ee,w1]
  ·refine ⟨0,a,(Gq.mul_one a).symm,fun hdv=>h0 ((uj hb0).1 hdv),nj ?_⟩
   have hp:=Pol.len_pos h0;simp -implicitDefEqProofs [Z1n_L0,az,e,hp]
def D6 (O:ap):Prop:=∀(p:Int) [IsP p] (a b:Fp p),a≠0→2≤b.len→a.len<1000→b.len<1000→∃(k:Nat) (r:Fp p),a=r*pw b k∧¬ Dv b r ∧
 ask O F1n [(D.int .i64 p),(D.sl .leaf (ah .i64 (row a))),(D.sl .leaf (ah .i64 (row b)))]=some (.tup [(D.sl .leaf (ah .i64 (row r))),(D.int .i64 k)])
theorem a65 (hT:T F1n=some Z1n) (hd:t7 (den T A)):D6 (den T A):=by
 intro p i a b ha hb hal hbl;obtain ⟨k,r,h1,h2,e⟩:=Wg hd hb (by omega) a.len a 0 (bj _) ha (by omega) (by omega)
 have e0:((0:Nat):Int)=0:=rfl;rw [e0,bv] at e;refine ⟨k,r,h1,h2,cd hT rfl ?_⟩;simp -implicitDefEqProofs [Z1n,Z1n_B,e]
section
variable {p:Int} [IsP p]
theorem md {n:Nat} (h:n≤12):p^n≤13841287201:=by
 have hp:=IsP.pos (p:=p);have h1:=gr (p:=p) (by omega) h
 have h2:p^12≤13841287201:=by
  rcases (inferInstance:IsP p).h with rfl | rfl | rfl | rfl <;> decide
 omega
theorem je (n:Nat):0<p^n:=qy (IsP.pos)
theorem Ar (n:Nat):2*p^n≤p^(n+1):=by
 have hp:=IsP.ge (p:=p);rw [dq,i8];exact c7 hp (Int.le_of_lt (je n))
theorem ud {most:Int}:∀(n:Nat) (out:Int),0<out→out*p^n≤most→va p most n out=out*p^n
 | 0,out,h0,h=>by rw [eo,lc]; rfl
 | n+1,out,h0,h=>by
  have hp:=IsP.pos (p:=p);have e:out*p^(n+1)=out*p*p^n:=by rw [dq,jl,i8 p]
  rw [e] at h ⊢;have h1:1≤p^(n+1):=je (n+1);have h2:out*1≤out*p^(n+1):=c7 h1 (by omega)
  rw [e] at h2;rw [va,if_neg (by omega)]
  exact ud n (out*p) (vk h0 hp) h
theorem uz {n:Nat} (hn:n≤12) {k:Int} (h1:p^n≤k) (h2:k<2*p^n):Monic (f7 p k)∧(f7 p k).len=n+1:=by
 have hp:=IsP.ge (p:=p);have hb:=md (p:=p) hn;have hpos:=je (p:=p) n;have ok:A8 k:=⟨by omega,by omega⟩
 have hs:=Ar (p:=p) n;have hlt:=tt (p:=p) ok (d:=n+1) (by omega)
 have hc:(f7 p k).c n=1:=by
  rw [Du ok]
  have:k/p^n=1:=by
   have e:k=(k-p^n)+p^n:=by omega
   rw [e,Int.add_ediv_of_dvd_right (Int.dvd_refl _),Int.ediv_self (by omega),kq (by omega) (by omega)]; rfl
  rw [this]; rfl
 have hl:=Pol.len_eq hlt (by rw [hc]; exact Fd.one_ne)
 refine ⟨⟨?_,fun h0=>by rw [h0,Pol.len_zero] at hl; omega⟩,hl⟩
 unfold Pol.ld;rw [hl]; exact hc
theorem om {n:Nat} (_hn:n≤12) {q:Fp p} (hq:Monic q) (hl:q.len=n+1):p^n≤fh q∧fh q<2*p^n:=by
 have hp:=IsP.ge (p:=p);have hpos:=je (p:=p) n;have h1:=zf q;have h2:=a2g (ko q) n;have h3:q.c n=1:=by have:=hq.1; unfold Pol.ld at this; rwa [hl] at this
 rw [gd,h3,qb] at h2
 have h4:fh q/p^n<p:=by
  apply jg hpos;rw [hl,dq,i8] at h1;exact h1.2
 have h5:0≤fh q/p^n:=oc h1.1 (by omega)
 have h6:fh q/p^n=1:=by
  have:fh q/p^n%p=fh q/p^n:=mj h5 h4;have h7:(1:Int)=fh q/p^n%p:=h2;omega
 have h8:=Int.mul_ediv_add_emod (fh q) (p^n);rw [h6,lc] at h8;have h9:=dw (fh q) (show p^n≠0 by omega)
 have h10:=de (fh q) hpos;omega
theorem zn {n:Nat} (hn:n≤12) {q:Fp p} (hq:Monic q) (hl:q.len=n+1):f7 p (fh q)=q:=Bz (by
 have:=om hn hq hl;have:=md (p:=p) hn;omega)
theorem a2p {O:ap} (hnu:kf O) (hr:uo O) {a:Fp p} (hal:a.len<1000) {n:Nat} (hn:n≤12):∀(m:Nat) (k:Int),p^n≤k→k<2*p^n→(2*p^n-k).toNat≤m→(∃k0,k≤k0∧k0<2*p^n∧Dv (f7 p k0) a)→∃b:Fp p,Monic b∧b.len=n+1∧Dv b a ∧
 dn O 0 (.loop Z1p_L0) ⟨[(0,(.d (.int .i64 p))),(1,(.d (.sl .leaf (ah .i64 (row a))))),(7,(.d (.int .i64 (p^n)))),(8,(.d (.int .i64 k)))],[]⟩=some (.ret,⟨[(6,(.d (.sl .leaf (ah .i64 (row b)))))],[]⟩)
 | 0,k,h1,h2,hm,hx=>by omega
 | m+1,k,h1,h2,hm,hx=>by
  have hb:=md (p:=p) hn;have hpos:=je (p:=p) n;obtain ⟨m1,m2⟩:=uz hn h1 h2;have e1:=hnu p k (by omega) (by omega)
  have e2:=hr p a (f7 p k) m1.2 (by omega) (by omega)
  have w1:IntKind.i64.wrap (2*p^n)=2*p^n:=w64 (by omega)
  have w2:IntKind.i64.wrap (k+1)=k+1:=w64 (by omega)
  by_cases hd:Dv (f7 p k) a
  ·refine ⟨f7 p k,m1,m2,hd,nj ?_⟩
   have h0:=(uj m1.2).1 hd;rw [h0,ee] at e2;simp -implicitDefEqProofs [Z1p_L0,az,e1,e2,w1,h2]
  ·obtain ⟨k0,g1,g2,g3⟩:=hx
   have hne:k≠k0:=fun h=>hd (h▸g3)
   obtain ⟨b,b1,b2,b3,e⟩:=a2p hnu hr hal hn m (k+1) (by omega) (by omega) (by omega) ⟨k0,by omega,g2,g3⟩
   refine ⟨b,b1,b2,b3,c8 ?_ e⟩;have h0:a%f7 p k≠0:=fun h=>hd ((uj m1.2).2 h)
   have h0':row (a%f7 p k)≠[]:=fun h=>h0 (a7w.1 h)
   have h0'':(a%f7 p k).len≠0:=fun h=>h0 (Pol.len_zero_iff.1 h)
   simp -implicitDefEqProofs [Z1p_L0,az,e1,e2,w1,w2,h2,h0'']
end
def ro (O:ap):Prop:=∀(p:Int) [IsP p] (a:Fp p) (n:Nat),1≤n→n≤12→a.len<1000→a≠0→(∃q,Monic q∧q.len=n+1∧Dv q a)→∃b:Fp p,Monic b∧b.len=n+1∧Dv b a ∧
 ask O F1p [(D.int .i64 p),(D.sl .leaf (ah .i64 (row a))),(D.int .i64 n)]=some (D.sl .leaf (ah .i64 (row b)))
theorem Nn (hT:T F1p=some Z1p) (hnu:kf (den T A)) (hr:uo (den T A)) (hno:ti (den T A)) (hdg:me (den T A)) (hld:my (den T A)) (hinv:gq (den T A)) (hs:Ag (den T A)):ro (den T A):=by
 intro p i a n hn1 hn hal ha ⟨q,q1,q2,q3⟩;have hp:=IsP.ge (p:=p);have hp7:=IsP.le (p:=p);have e1:=hdg (row a) (by rw [bf]; omega)
 rw [bf] at e1
 by_cases hd:a.len=n+1
 ·have hr:=im a.ld
  have hin:=xl p (rep a.ld);have e2:=hld (row a) (by rw [bf]; omega)
  rw [vw] at e2;have e3:=hinv p (rep a.ld) (by omega) (by omega) hr.1 hr.2
  have e4:=hs p (inv p (rep a.ld)) a (by omega) (by omega) (by omega)
  rw [uc _ (Pol.ld_ne ha)] at e4;have hd2:(a.len:Int)-1=n:=by omega
  refine ⟨mon a,ry ha,by rw [xz ha,hd],(Bt ha).2 (.refl a),cd hT rfl ?_⟩
  simp -implicitDefEqProofs [Z1p,Z1p_B,az,e1,e2,e3,e4,hd2,mon]
 ·have hd2:¬ (a.len:Int)-1=n:=by omega
  have hb:=md (p:=p) hn;have hpos:=je (p:=p) n;have e2:=hno p n 1099511627776 (by omega) (by omega)
  rw [ud n 1 (by omega) (by omega),fc] at e2
  have hq:=om hn q1 q2;obtain ⟨b,b1,b2,b3,e⟩:=a2p hnu hr hal hn (2*p^n-p^n).toNat (p^n) (tc _) (by omega) (bj _) ⟨fh q,hq.1,hq.2,by rw [zn hn q1 q2]; exact q3⟩
  refine ⟨b,b1,b2,b3,cd hT rfl ?_⟩;simp -implicitDefEqProofs [Z1p,Z1p_B,az,e1,e2,hd2,e]
section
variable {p:Int} [IsP p]
theorem a37:row (Pol.X:Fp p)=[0,1]:=by
 unfold row;rw [Pol.len_X];show [rep ((Pol.X:Fp p).c 0),rep ((Pol.X:Fp p).c 1)]=[0,1];have e0:(Pol.X:Fp p).c 0=0:=rfl;have e1:(Pol.X:Fp p).c 1=1:=rfl;rw [e0,e1,rep_zero,qb]
theorem Irr.assoc {q b:Fp p} (hq:Irr q) (hb:Irr b) (h:Dv q b):Dv b q:=by
 obtain ⟨c,hc⟩:=h;have hc0:c≠0:=fun h0=>hb.ne (by rw [hc,h0,Gq.mul_zero])
 have l:=Pol.len_mul hq.ne hc0;rw [←hc] at l;have h1:=hq.len;rcases hb.dv ⟨c,hc⟩ with h2 | h2
 ·omega
 ·obtain ⟨k,hk,rfl⟩:=ox (show c.len=1 by omega)
  rw [hc,Gq.mul_comm];exact (Dv.Cmul hk).2 (.refl q)
structure FInv (a0:Fp p) (n:Nat) (a:Fp p) (out:k9 p):Prop where
 ne:a≠0
 eq:a0=a*ki out
 ok:FacOk out
 nd:∀x∈out,¬ Dv x.1 a
 ns:Ad n a
 ln:out.length+a.len≤13
structure JInv (a0:Fp p) (n:Nat) (a:Fp p) (out:k9 p) (all:Fp p):Prop where
 f:FInv a0 n a out
 ne:all≠0
 ln:all.len≤13
 one:∀q,Irr q→Dv q all→q.len=n+1∧Dv q a
 two:∀q,Irr q→q.len=n+1→Dv q a→Dv q all
end
section
variable {p:Int}
theorem xy (L:k9 p) (x:Fp p×Nat):ki (L++[x])=ki L*pw x.1 x.2:=by
 induction L with
 | nil=>show pw x.1 x.2*1=1*pw x.1 x.2; rw [Gq.mul_one,Gq.one_mul]
 | cons y L ih=>rw [fy,qh,qh,ih,Gq.mul_assoc]
end
section
variable {p:Int} [IsP p]
theorem FacOk.snoc {L:k9 p} (h:FacOk L) {q:Fp p} {k:Nat} (hi:Irr q) (hm:Monic q) (hk:1≤k) (hd:∀x∈L,x.1≠q):FacOk (L++[(q,k)]):=by
 refine ⟨fun x hx=>?_,?_⟩
 ·rcases bi.1 hx with hx | hx
  ·exact h.irr x hx
  ·simp at hx; subst hx; exact ⟨hi,hm,hk⟩
 ·rw [fe]
  refine ⟨h.dis,fj _ _,fun x hx y hy=>?_⟩
  simp at hy; subst hy; exact hd x hx
theorem JInv.irr {a0 a:Fp p} {n:Nat} {out:k9 p} {all b:Fp p} (h:JInv a0 n a out all) (hn:1≤n) (hb:b.len=n+1) (hd:Dv b all):Irr b:=by
 have hb0:b≠0:=fun h0=>by rw [h0,Pol.len_zero] at hb; omega
 refine Irr.of_dv (by omega) fun u hu=>?_
 have hul:=hu.len hb0
 have hu0:u≠0:=fun h0=>by
  obtain ⟨c,hc⟩:=hu;exact hb0 (by rw [hc,h0,Gq.zero_mul])
 have hup:=Pol.len_pos hu0
 by_cases h1:u.len=1
 ·exact .inl h1
 ·right
  obtain ⟨r,r1,_,r2⟩:=Bw u.len u (bj _) (by omega)
  have h2:=(h.one r r1 ((r2.trans hu).trans hd)).1;have h3:=r2.len hu0;omega
theorem JInv.step {a0 a:Fp p} {n:Nat} {out:k9 p} {all b:Fp p} (h:JInv a0 n a out all) (hn:1≤n) (hm:Monic b) (hb:b.len=n+1) (hd:Dv b all)
 {k k':Nat} {r r':Fp p} (h1:a=r*pw b k) (h2:¬ Dv b r) (h3:all=r'*pw b k') (h4:¬ Dv b r'):JInv a0 n r (out++[(b,k)]) r'∧r'.len<all.len∧1≤k:=by
 have hi:=h.irr hn hb hd;have hda:=(h.one b hi hd).2
 have hk:1≤k:=by
  cases k with
  | zero=>exact absurd (by rw [h1,pw,Gq.mul_one] at hda; exact hda) h2
  | succ k=>omega
 have hk':1≤k':=by
  cases k' with
  | zero=>exact absurd (by rw [h3,pw,Gq.mul_one] at hd; exact hd) h4
  | succ k=>omega
 have hr0:r≠0:=fun h0=>h.f.ne (by rw [h1,h0,Gq.zero_mul])
 have hr0':r'≠0:=fun h0=>h.ne (by rw [h3,h0,Gq.zero_mul])
 have shrink:∀(a r:Fp p) (k:Nat),r≠0→1≤k→a=r*pw b k→r.len<a.len:=by
  intro a r k hr hk e;obtain ⟨j,rfl⟩:∃j,k=j+1:=⟨k-1,by omega⟩
  have hj:=J3 hi.ne j;have l1:=Pol.len_mul hj hi.ne;have l2:=Pol.len_mul hr (Pol.mul_ne hj hi.ne);have l3:=Pol.len_pos hj;rw [e,pw]; omega
 have s1:=shrink a r k hr0 hk h1;have s2:=shrink all r' k' hr0' hk' h3;have dr:∀q,Dv q r→Dv q a:=fun q hq=>by rw [h1]; exact hq.mul_right _
 have pd:∀q,Irr q→∀m,Dv q (pw b m)→Dv b q:=fun q hq m hq2=>Irr.assoc hq hi (Irr.pw_dv hq m hq2)
 refine ⟨⟨⟨hr0,?_,h.f.ok.snoc hi hm hk fun x hx e=>h.f.nd x hx (e▸hda),?_,Td h.f.ns ⟨pw b k,h1⟩,?_⟩,hr0',by have:=h.ln; omega,?_,?_⟩,s2,hk⟩
 ·rw [h.f.eq,xy]
  conv=>lhs; rw [h1]
  exact bq [r,pw b k,ki out] rfl
 ·intro x hx
  rcases bi.1 hx with hx | hx
  ·exact fun hq=>h.f.nd x hx (dr _ hq)
  ·simp at hx; subst hx; exact h2
 ·have:=h.f.ln
  simp; omega
 ·intro q hq hqr
  have hqa:Dv q all:=by rw [h3]; exact hqr.mul_right _
  obtain ⟨g1,g2⟩:=h.one q hq hqa;refine ⟨g1,?_⟩;rw [h1] at g2;rcases hq.prime g2 with g | g
  ·exact g
  ·exact absurd ((pd q hq k g).trans hqr) h4
 ·intro q hq hql hqr
  have:=h.two q hq hql (dr q hqr);rw [h3] at this;rcases hq.prime this with g | g
  ·exact g
  ·exact absurd ((pd q hq k' g).trans hqr) h2
theorem JInv.done {a0 a:Fp p} {n:Nat} {out:k9 p} {all:Fp p} (h:JInv a0 n a out all) (hl:all.len<2):FInv a0 (n+1) a out:=by
 refine ⟨h.f.ne,h.f.eq,h.f.ok,h.f.nd,fun q hq hd=>?_,h.f.ln⟩
 have h1:=h.f.ns q hq hd;apply cm;intro hx;have h2:=(h.two q hq (by omega) hd).len h.ne
 have:=hq.len;omega
theorem JInv.init {a0 a:Fp p} {n:Nat} {out:k9 p} (h:FInv a0 n a out) (hn:1≤n) (hn2:n≤12) {fr:Fp p} (hf:fr%a=pw Pol.X (p.toNat^n)%a):JInv a0 n a out (Pol.gcd (fr-Pol.X) a):=by
 have h0:fr-Pol.X≠0∨a≠0:=.inr h.ne;have hm:=Pol.gcd_monic h0;have hd2:=Pol.gcd_dv_right h0
 have key:∀q,Dv q a→(Dv q (fr-Pol.X)↔Dv q (frT p n)):=by
  intro q hq
  have e:Dv q (fr-pw Pol.X (p.toNat^n)):=by
   refine hq.trans ?_;rw [gh,Quo.mk_sub];rw [(Pol.mod_eq_iff h.ne).1 hf,sub_self]
  unfold frT;constructor
  ·intro g
   have:pw Pol.X (p.toNat^n)-Pol.X=(fr-Pol.X)-(fr-pw Pol.X (p.toNat^n)):=bq [pw Pol.X (p.toNat^n),Pol.X,fr] rfl;rw [this]; exact g.sub e
  ·intro g
   have:fr-Pol.X=(pw Pol.X (p.toNat^n)-Pol.X)+(fr-pw Pol.X (p.toNat^n)):=bq [pw Pol.X (p.toNat^n),Pol.X,fr] rfl;rw [this]; exact g.add e
 have hl:=hd2.len h.ne;have hl2:=h.ln;refine ⟨h,hm.2,by omega,fun q hq hd=>?_,fun q hq hql hqa=>?_⟩
 ·have g1:=hd.trans hd2
  have g2:=(key q g1).1 (hd.trans (Pol.gcd_dv_left h0));have g3:=h.ns q hq g1;have g4:=g1.len h.ne;have g5:=C8 hq (d:=q.len-1) (k:=n) (by have:=hq.len; omega) (by have:=md (p:=p) (n:=q.len-1) (by omega); omega) hn g2
  exact ⟨by omega,g1⟩
 ·have g2:=H9 hq hql (by have:=md (p:=p) hn2; omega)
  exact Pol.dv_gcd h0 ((key q hqa).2 g2) hqa
noncomputable abbrev mf (x:Fp p×Nat):D:=.st [.leaf,.leaf] [(D.sl .leaf (ah .i64 (row x.1))),(D.int .i64 x.2)]
theorem a5u {O:ap} (hw:ro O) (hst:D6 O) (hdg:me O) {a0:Fp p} {n:Nat} (hn:1≤n) (hn2:n≤12):∀(m:Nat) (a:Fp p) (out:k9 p) (all:Fp p) (cp:Option Nat),all.len≤m→JInv a0 n a out all→∃(a':Fp p) (out':k9 p) (all':List Int) (cp':Option Nat),FInv a0 (n+1) a' out'∧a'.len≤a.len ∧
 dn O 0 (.loop Z15_L1) ⟨[(0,(.d (.int .i64 p))),(1,(.d (.sl .leaf (ah .i64 (row a))))),(5,.sl 0 [] 0 out.length cp),(6,(.d (.int .i64 n))),(8,(.d (.sl .leaf (ah .i64 (row all)))))],[.sl false kw (out.map mf),.hole,.hole,.hole,.hole]⟩ =
  some (.exit 4,⟨[(0,(.d (.int .i64 p))),(1,(.d (.sl .leaf (ah .i64 (row a'))))),(5,.sl 0 [] 0 out'.length cp'),(6,(.d (.int .i64 n))),(8,(.d (.sl .leaf (ah .i64 all')))),(52,(.d (.bool false)))],[.sl false kw (out'.map mf),.hole,.hole,.hole,.hole]⟩)
 | m,a,out,all,cp,hm,h=>by
  have hln:=h.ln;have hp:=Pol.len_pos h.ne;have e1:=hdg (row all) (by rw [bf]; omega)
  rw [bf] at e1
  by_cases hl:all.len<2
  ·refine ⟨a,out,row all,cp,h.done hl,bj _,cg ?_⟩
   have h1:¬ (1:Int)<(all.len:Int):=by omega
   simp -implicitDefEqProofs [Z15_L1,az,e1,h1]
  ·have hlo:=h.f.ln
   obtain ⟨q,q1,q2,q3⟩:=Bw all.len all (bj _) (by omega)
   obtain ⟨b,b1,b2,b3,e2⟩:=hw p all n hn hn2 (by omega) h.ne ⟨q,q2,(h.one q q1 q3).1,q3⟩
   obtain ⟨k,r,g1,g2,e3⟩:=hst p a b h.f.ne (by omega) (by omega) (by omega)
   obtain ⟨k',r',g3,g4,e4⟩:=hst p all b h.ne (by omega) (by omega) (by omega)
   obtain ⟨hJ,hlt,hk⟩:=h.step hn b1 b2 b3 g1 g2 g3 g4;cases m with
   | zero=>omega
   | succ m=>
    obtain ⟨a',out',all',cp',i1,i2,e⟩:=a5u hw hst hdg hn hn2 m r (out++[(b,k)]) r' none (by omega) hJ
    have hra:r.len≤a.len:=(show Dv r a from ⟨_,g1⟩).len h.f.ne;refine ⟨a',out',all',cp',i1,by omega,c8 ?_ e⟩
    have h1:(1:Int)<(all.len:Int):=by omega
    have h8:(out.length+1)*32≤1099511627776:=by omega
    have ht:(out.map mf).take out.length=out.map mf:=bb (by simp)
    have hL:(out.map mf).length=out.length:=by simp
    have o1:(out++[(b,k)]).map mf=out.map mf++[mf (b,k)]:=by simp
    have o2:(out++[(b,k)]).length=out.length+1:=by simp
    rw [o1,o2];generalize out.map mf=LD at *;simp -implicitDefEqProofs [Z15_L1,az,e1,e2,e3,e4,h1,h8,ht,hL,List.replicate]
theorem a25 {O:ap} (hpw:Ai O) {a:Fp p} (ha:a≠0) (hal:a.len≤13) {n:Nat} (hn2:n≤1000) {st:V} {hp:Heap} (hst:st.refs=[0]) (hhp:∃b,hp=[b,.hole,.hole,.hole,.hole]):∀(m i:Nat) (fr:Fp p),i+m=n→fr.len≤13→∃fr':Fp p,fr'.len≤13∧fr'%a=pw fr (p.toNat^m)%a ∧
 dn O 0 (.loop Z15_L0) ⟨[(0,(.d (.int .i64 p))),(1,(.d (.sl .leaf (ah .i64 (row a))))),(5,st),(6,(.d (.int .i64 n))),(7,(.d (.sl .leaf (ah .i64 (row fr))))),(34,(.d (.int .i64 n))),(35,(.d (.int .i64 i)))],hp⟩ =
  some (.exit 2,⟨[(0,(.d (.int .i64 p))),(1,(.d (.sl .leaf (ah .i64 (row a))))),(5,st),(6,(.d (.int .i64 n))),(7,(.d (.sl .leaf (ah .i64 (row fr'))))),(34,(.d (.int .i64 n))),(35,(.d (.int .i64 n))),(36,(.d (.bool false)))],hp⟩)
 | 0,i,fr,hi,hf=>by
  obtain ⟨b,rfl⟩:=hhp;obtain rfl:i=n:=by omega
  refine ⟨fr,hf,by rw [mh,rc],cg ?_⟩
  simp -implicitDefEqProofs [Z15_L0,az,hst]
 | m+1,i,fr,hi,hf=>by
  have hP:=IsP.pos (p:=p);have hP7:=IsP.le (p:=p);have e:=hpw p fr p a ha (by omega) (by omega) (by omega) (by omega)
  have hl:=Pol.len_mod (pw fr p.toNat) ha;obtain ⟨fr',g1,g2,g3⟩:=a25 (O:=O) hpw ha hal hn2 hst hhp m (i+1) (pw fr p.toNat%a) (by omega) (by omega)
  obtain ⟨b,rfl⟩:=hhp;have h1:i<n:=by omega
  have w1:IntKind.i64.wrap ((i:Int)+1)=((i+1:Nat):Int):=(w64 (x:=(i:Int)+1) (by omega)).trans (by omega)
  refine ⟨fr',g1,?_,c8 ?_ g3⟩
  ·rw [g2,Pol.pow_mod _ ha,qw,fo,fm]
  ·simp -implicitDefEqProofs [Z15_L0,az,e,h1,w1,hst]
structure FEnd (a0:Fp p) (out:k9 p):Prop where
 ok:FacOk out
 eq:∃c:Zp p,c≠0∧a0=Pol.C c*ki out
 ln:out.length≤12
theorem a5a {O:ap} (hw:ro O) (hst:D6 O) (hdg:me O) (hpw:Ai O) (hlet:zk O) (hc:rx O) (hg:L4 O) (hld:my O) (hinv:gq O) (hs:Ag O) {a0:Fp p}:∀(m n:Nat) (a:Fp p) (out:k9 p) (cp:Option Nat),1≤n→n+m=15→FInv a0 n a out→∃(out':k9 p) (cp':Option Nat) (e:Env),FEnd a0 out'∧((∃x y,e=[(0,(.d (.int .i64 p))),(1,(.d (.sl .leaf (ah .i64 x)))),(5,.sl 0 [] 0 out'.length cp'),(6,(.d (.int .i64 y))),(14,(.d (.bool false)))])∨e=[(5,.sl 0 [] 0 out'.length cp')]) ∧
 dn O 0 (.loop Z15_L2) ⟨[(0,(.d (.int .i64 p))),(1,(.d (.sl .leaf (ah .i64 (row a))))),(5,.sl 0 [] 0 out.length cp),(6,(.d (.int .i64 n)))],[.sl false kw (out.map mf),.hole,.hole,.hole,.hole]⟩ =
  some (.exit 0,⟨e,[.sl false kw (out'.map mf),.hole,.hole,.hole,.hole]⟩)
 | m,n,a,out,cp,hn,hm,h=>by
  have hp:=IsP.ge (p:=p);have hp7:=IsP.le (p:=p);have hln:=h.ln;have ha:=Pol.len_pos h.ne;have e1:=hdg (row a) (by rw [bf]; omega)
  rw [bf] at e1
  by_cases hl:a.len=1
  ·have h1:¬ (1:Int)<(a.len:Int):=by omega
   obtain ⟨c,hc0,rfl⟩:=ox hl;refine ⟨out,cp,_,⟨h.ok,⟨c,hc0,h.eq⟩,by omega⟩,.inl ⟨row (Pol.C c),n,rfl⟩,cg ?_⟩
   simp -implicitDefEqProofs [Z15_L2,az,e1,h1]
  ·have h1:(1:Int)<(a.len:Int):=by omega
   have w1:IntKind.i64.wrap (2*(n:Int))=2*(n:Int):=w64 (by omega)
   have h8:(out.length+1)*32≤1099511627776:=by omega
   have ht:(out.map mf).take out.length=out.map mf:=bb (by simp)
   have hL:(out.map mf).length=out.length:=by simp
   by_cases h2:(a.len:Int)-1<2*(n:Int)
   ·have hi:=za h.ns (by omega) (by omega)
    have hr:=im a.ld;have hin:=xl p (rep a.ld);have e2:=hld (row a) (by rw [bf]; omega)
    rw [vw] at e2;have e3:=hinv p (rep a.ld) (by omega) (by omega) hr.1 hr.2
    have e4:=hs p (inv p (rep a.ld)) a (by omega) (by omega) (by omega)
    rw [uc _ (Pol.ld_ne h.ne)] at e4;have e4':ask O F1l [(D.int .i64 p),(D.sl .leaf (ah .i64 (row a))),(D.int .i64 (inv p (rep a.ld)))]=some (D.sl .leaf (ah .i64 (row (mon a)))):=e4;have o1:(out++[(mon a,1)]).map mf=out.map mf++[mf (mon a,1)]:=by simp
    have o2:(out++[(mon a,1)]).length=out.length+1:=by simp
    refine ⟨out++[(mon a,1)],none,_,⟨h.ok.snoc hi.mon (ry h.ne) (bj 1) fun x hx e=>h.nd x hx (by rw [e,Bt h.ne]; exact .refl a),⟨a.ld,Pol.ld_ne h.ne,?_⟩,by rw [o2]; omega⟩,.inr rfl,cg ?_⟩
    ·rw [xy]
     show a0=Pol.C a.ld*(ki out*pw (mon a) 1);rw [rc,h.eq]
     conv=>lhs; rw [a34 h.ne]
     exact bq [Pol.C a.ld,mon a,ki out] rfl
    ·rw [o1,o2]
     generalize out.map mf=LD at *;simp -implicitDefEqProofs [Z15_L2,az,e1,h1,h2,w1,e2,e3,e4',h8,ht,hL,List.replicate]
   ·cases m with
    | zero=>omega
    | succ m=>
     have hl2:(Pol.X:Fp p).len≤13:=by rw [Pol.len_X]; omega
     obtain ⟨fr,g1,g2,g3⟩:=a25 (O:=O) hpw h.ne (by omega) (n:=n) (by omega) (st:=.sl 0 [] 0 out.length cp) (hp:=[.sl false kw (out.map mf),.hole,.hole,.hole,.hole]) (by simp [V.refs]) ⟨_,rfl⟩ n 0 Pol.X (bv _) hl2
     have hJ:=JInv.init h hn (by omega) g2
     have hlj:=hJ.ln;obtain ⟨a',out',all',cp',i1,i2,i3⟩:=a5u (O:=O) hw hst hdg hn (by omega) (Pol.gcd (fr-Pol.X) a).len a out _ cp (bj _) hJ
     obtain ⟨out2,cp2,e,j1,j2,j3⟩:=a5a hw hst hdg hpw hlet hc hg hld hinv hs m (n+1) a' out' cp' (by omega) (by omega) i1
     have e2:ask O Fu []=some (D.sl .leaf (ah .i64 (row (Pol.X:Fp p)))):=by rw [a37]; exact hlet
     have e3:=hc p fr Pol.X (by omega) (by omega)
     have hsl:=Pol.len_sub_le (a:=fr) (b:=Pol.X) (n:=13) g1 hl2;have e4:=hg p (fr-Pol.X) a (.inr h.ne) (by omega) (by omega)
     have w2:IntKind.i64.wrap ((n:Int)+1)=((n+1:Nat):Int):=(w64 (x:=(n:Int)+1) (by omega)).trans (by omega)
     have e0:((0:Nat):Int)=0:=rfl;rw [e0] at g3;refine ⟨out2,cp2,e,j1,j2,c8 ?_ j3⟩;generalize out.map mf=LD at *;simp -implicitDefEqProofs [Z15_L2,az,e1,h1,h2,w1,w2,e2,e3,e4,g3,i3]
end
theorem Rd {α β:Type} (f:α→β) {m ds:List β} (h:m.Perm ds):∀l:List α,l.map f=m→∃l':List α,l'.Perm l∧l'.map f=ds:=by
 induction h with
 | nil=>intro l hl; exact ⟨[],by simp at hl; subst hl; exact .refl _,rfl⟩
 | cons x h ih=>
  intro l hl;cases l with
  | nil=>simp at hl
  | cons y l=>
   simp at hl;obtain ⟨l',p,e⟩:=ih l hl.2;exact ⟨y::l',p.cons y,by simp [e,hl.1]⟩
 | swap x y s=>
  intro l hl;cases l with
  | nil=>simp at hl
  | cons a l=>
   cases l with
   | nil=>simp at hl
   | cons b l=>
    simp at hl;exact ⟨b::a::l,List.Perm.swap a b l,by simp [hl]⟩
 | trans _ _ ih1 ih2=>
  intro l hl;obtain ⟨l',p,e⟩:=ih1 l hl;obtain ⟨l'',p2,e2⟩:=ih2 l' e;exact ⟨l'',p2.trans p,e2⟩
section
variable {p:Int} [IsP p]
theorem abf:∀(n:Nat) {l m:List Int},Can p l→Can p m→l.length=n→m.length=n→Ev l m n=pt (vl p l) (vl p m):=by
 have hp:=IsP.pos (p:=p)
 -- the value of the first coefficients
 have key:∀(k:Nat) (l:List Int),Can p l→k≤l.length→vl p (l.take k)+(if k<l.length then p^k*cf l k else 0)=vl p (l.take (k+1))∧0≤vl p (l.take k)∧vl p (l.take k)<p^k:=by
  intro k l hl hk;have hin:=Xq (p:=p) (l:=l.take k) fun x hx=>hl x (jp hx)
  rw [bm,Nat.min_eq_left hk] at hin;refine ⟨?_,hin⟩
  have app:∀(a b:List Int),vl p (a++b)=vl p a+p^a.length*vl p b:=by
   intro a
   induction a with
   | nil=>intro b; simp [vl]
   | cons x a ih=>
    intro b;rw [fy,vl,ih,vl,bu,dq,td,i8 (p^a.length) p,jl,Int.add_assoc]
  by_cases hlt:k<l.length
  ·rw [if_pos hlt,←Bl hlt,app,bm,Nat.min_eq_left hk,fp hlt]
   simp [vl]
  ·rw [if_neg hlt,bb (by omega),bb (by omega),Int.add_zero]
 intro n l m hl hm hln hmn
 have main:∀k,k≤n→Ev l m k=pt (vl p (l.take k)) (vl p (m.take k)):=by
  intro k
  induction k with
  | zero=>intro _; simp [Ev,pt,vl]
  | succ k ih=>
   intro hk;obtain ⟨a1,a2,a3⟩:=key k l hl (by omega)
   obtain ⟨b1,b2,b3⟩:=key k m hm (by omega)
   rw [if_pos (by omega)] at a1 b1
   rw [←a1,←b1,Ev,ih (by omega)]
   have hpk:=je (p:=p) k;generalize vl p (l.take k)=u at *;generalize vl p (m.take k)=v at *;generalize cf l k=c at *;generalize cf m k=d at *
   have mono:∀x y:Int,x<y→p^k*x+p^k≤p^k*y:=fun x y h=>by
    have:=c7 (show x+1≤y by omega) (Int.le_of_lt hpk)
    rwa [td,lc] at this
   rcases Int.lt_trichotomy c d with h | h | h
   ·have:=mono c d h
    have e:pt c d=-1:=if_pos h;rw [e,if_pos (by omega)]
    exact (if_pos (by omega)).symm
   ·subst h
    have e:pt c c=0:=by unfold pt; rw [if_neg (by omega),if_neg (by omega)]
    rw [e,if_neg (fun h=>h rfl)]
    unfold pt
    by_cases h1:u<v
    ·rw [if_pos h1,if_pos (by omega)]
    ·rw [if_neg h1]
     by_cases h2:v<u
     ·rw [if_pos h2,if_neg (by omega),if_pos (by omega)]
     ·rw [if_neg h2,if_neg (by omega),if_neg (by omega)]
   ·have:=mono d c h
    have e:pt c d=1:=by unfold pt; rw [if_neg (by omega),if_pos h]
    rw [e,if_pos (by omega)]
    unfold pt;rw [if_neg (by omega),if_pos (by omega)]
 have:=main n (bj n)
 rwa [bb (by omega),bb (by omega)] at this
theorem a3l (a b:Fp p):a7f (row a) (row b)=pt (fh a) (fh b):=by
 unfold a7f;rw [bf,bf];rcases jz a.len b.len with h | h | h
 ·have:=ua h
  have e:pt (a.len:Int) b.len=-1:=if_pos (by omega)
  rw [e,if_pos (by omega)]
  exact (if_pos this).symm
 ·have e:pt (a.len:Int) b.len=0:=by unfold pt; rw [if_neg (by omega),if_neg (by omega)]
  rw [e,if_neg (fun h=>h rfl)]
  exact abf a.len (ko a) (ko b) (bf a) (by rw [bf,h])
 ·have:=ua h
  have e:pt (a.len:Int) b.len=1:=by unfold pt; rw [if_neg (by omega),if_pos (by omega)]
  rw [e,if_pos (by omega)]
  unfold pt;rw [if_neg (by omega),if_pos this]
end
def aeh (p:Int):D→Int
 | .st _ (.sl _ cs::_)=>vl p (cs.map D.num)
 | _=>0
theorem Co {p:Int} (x:Fp p×Nat):aeh p (mf x)=vl p (row x.1):=by
 show vl p ((ah .i64 (row x.1)).map D.num)=_;unfold ah;rw [tw];have:(D.num ∘ D.int .i64)=id:=rfl;rw [this,List.map_id]
theorem a7r {p:Int} [IsP p] (hT:T F16=some Z16) (hc:Al (den T A)) {L:k9 p} (hl:∀x∈L,x.1.len≤1000):CmpOk (den T A) F16 [] [] (aeh p) kw (L.map mf):=by
 refine ⟨fun x hx=>by simp at hx,fun x hx=>by simp at hx,fun x hx=>?_,fun x hx=>?_,fun x hx y hy=>?_⟩
 ·obtain ⟨a,_,rfl⟩:=ch.1 hx; rfl
 ·obtain ⟨a,_,rfl⟩:=ch.1 hx; rfl
 ·obtain ⟨a,ha,rfl⟩:=ch.1 hx
  obtain ⟨b,hb,rfl⟩:=ch.1 hy;have h1:=hl a ha;have h2:=hl b hb;have e:=hc (row a.1) (row b.1) (by rw [bf]; omega) (by rw [bf]; omega)
  rw [a3l] at e;have n1:=Co a;have n2:=Co b;rw [n1,n2];refine cd hT rfl ?_;simp -implicitDefEqProofs [Z16,Z16_B,e,fh]
def Ee (O:ap):Prop:=∀(p:Int) [IsP p] (a:Fp p),a≠0→a.len≤13→∃L:k9 p,IsFac a L∧L.length≤12 ∧
 ask O F15 [(D.int .i64 p),(D.sl .leaf (ah .i64 (row a)))]=some (.sl kw (L.map mf))
theorem FacOk.perm {p:Int} [IsP p] {L L':k9 p} (h:FacOk L) (hp:L'.Perm L):FacOk L':=
 ⟨fun x hx=>h.irr x (hp.subset hx),(hp.pairwise_iff (fun h e=>h e.symm)).2 h.dis⟩
theorem Vm {p:Int} {L L':k9 p} (hp:L'.Perm L):ki L'=ki L:=Iv (hp.map _)
theorem a09 (hT:T F15=some Z15) (hT1:T F16=some Z16) (hw:ro (den T A)) (hst:D6 (den T A)) (hdg:me (den T A)) (hpw:Ai (den T A)) (hlet:zk (den T A)) (hc:rx (den T A)) (hg:L4 (den T A)) (hld:my (den T A)) (hinv:gq (den T A)) (hs:Ag (den T A)) (hcmp:Al (den T A)) (hsort:Br (den T A)):Ee (den T A):=by
 intro p i a ha hal;have h0:FInv a 1 a []:=⟨ha,(Gq.mul_one a).symm,⟨by simp,List.Pairwise.nil⟩,by simp,S9 a,by simpa using hal⟩
 obtain ⟨out,cp,e,j1,j2,j3⟩:=a5a hw hst hdg hpw hlet hc hg hld hinv hs 14 1 a [] (some 0) (bj 1) rfl h0;obtain ⟨c,hc0,hac⟩:=j1.eq;have hP:=vd j1.ok
 have hlen:∀x∈out,x.1.len≤1000:=fun x hx=>by
  have h1:Dv x.1 a:=by
   obtain ⟨r,h2,_⟩:=x8 j1.ok (show (x.1,x.2)∈out from hx);obtain ⟨k,hk⟩:∃k,x.2=k+1:=⟨x.2-1,by have:=(j1.ok.irr x hx).2.2; omega⟩
   rw [hac,h2,hk,pw];exact (((Dv.refl x.1).mul_left _).mul_right _).mul_left _
  have:=h1.len ha;omega
 obtain ⟨ds,s1,s2,s3⟩:=hsort _ _ _ _ (out.map mf) cp (by simpa using j1.ln) (a7r hT1 hcmp hlen)
 obtain ⟨L,p1,p2⟩:=Rd mf s1.symm out rfl;have ok:=j1.ok.perm p1;subst p2;have hLl:L.length=out.length:=p1.length_eq;refine ⟨L,⟨ok,?_,?_⟩,by rw [hLl]; exact j1.ln,cd hT rfl ?_⟩
 ·have s4:L.Pairwise fun x y=>fh x.1≤fh y.1:=by
   have:=s2;unfold Asc at this;rw [jy] at this;exact this.imp fun h=>by rw [Co,Co] at h; exact h
  exact (s4.and ok.dis).imp fun {x y} h=>by
   have h1:=h.1;rcases Int.lt_or_eq_of_le h1 with h2 | h2
   ·exact h2
   ·exact absurd (Lq h2) h.2
 ·have:a.ld=c:=by
   rw [hac,Pol.ld_mul (Pol.C_ne hc0) hP.2,Pol.ld_C hc0,hP.1,Gq.mul_one]
  rw [this,Vm p1]; exact hac
 ·have e0:(([]:k9 p).length:Nat)=0:=rfl
  have e00:((1:Nat):Int)=1:=rfl;rw [e0,e00,gt] at j3;have hds:(L.map mf).length=out.length:=by rw [ba,hLl]
  have hol:(out.map mf).length=out.length:=by simp
  have htk:(L.map mf).take out.length=L.map mf:=bb (by omega)
  rw [hol] at s3;generalize L.map mf=LD at *;generalize out.map mf=OD at *;rcases j2 with ⟨x,y,rfl⟩ | rfl
  ·simp -implicitDefEqProofs [Z15,Z15_B,j3,s3,hds,htk,List.idxOf,List.findIdx,List.findIdx.go]
  ·simp -implicitDefEqProofs [Z15,Z15_B,j3,s3,hds,htk,List.idxOf,List.findIdx,List.findIdx.go]
end Pe
namespace Pe
open Go Gq
variable {T:Nat→Option Fn} {A:ap}
open Classical in
noncomputable def fac {p:Int} [IsP p] (a:Fp p):k9 p:=if h:∃L,IsFac a L then Classical.choose h else []
theorem a56 {p:Int} [IsP p] {a:Fp p} (ha:a≠0) {L:k9 p} (h:IsFac a L):fac a=L:=by
 have hx:∃L,IsFac a L:=⟨L,h⟩;unfold fac;rw [dif_pos hx];exact IsFac.unique ha (d9 hx) h
def Lz (O:ap):Prop:=∀(p:Int) [IsP p] (a:Fp p),a≠0→a.len≤13→IsFac a (fac a)∧(fac a).length≤12 ∧
 ask O F15 [(D.int .i64 p),(D.sl .leaf (ah .i64 (row a)))]=some (.sl kw ((fac a).map mf))
theorem ag2 {O:ap} (h:Ee O):Lz O:=fun p i a ha hl=>by
 obtain ⟨L,h1,h2,h3⟩:=h p a ha hl;rw [a56 ha h1];exact ⟨h1,h2,h3⟩
section
variable {p:Int} [IsP p]
theorem IsFac.len {m:Fp p} (hm:m≠0) {L:k9 p} (h:IsFac m L) {x:Fp p×Nat} (hx:x∈L):2≤x.1.len∧x.1.len≤m.len∧x.2<m.len∧x.1≠0:=by
 obtain ⟨i1,i2,i3⟩:=h.ok.irr x hx;obtain ⟨_,_,_,h4,_⟩:=(Gz hm h.ok h.eq x.1 x.2).1 hx;have h5:=h4.len hm
 have h6:∀n,n<(pw x.1 n).len:=by
  intro n
  induction n with
  | zero=>show 0<(1:Fp p).len; rw [Pol.len_one]; omega
  | succ n ih=>
   have l:=Pol.len_mul (J3 i1.ne n) i1.ne;have:=i1.len;rw [pw]; omega
 have h7:=h6 x.2
 have h8:x.1.len≤(pw x.1 x.2).len:=by
  obtain ⟨k,hk⟩:∃k,x.2=k+1:=⟨x.2-1,by omega⟩
  rw [hk,pw];exact (show Dv x.1 (pw x.1 k*x.1) from ⟨pw x.1 k,Gq.mul_comm _ _⟩).len (Pol.mul_ne (J3 i1.ne k) i1.ne)
 exact ⟨i1.len,by omega,by omega,i1.ne⟩
end
end Pe
namespace Pe
open Go Gq
variable {T:Nat→Option Fn} {A:ap}
theorem It {p:Int} (h:isP p=true):IsP p:=⟨by unfold isP at h; simpa using h⟩
theorem Hm {p:Int} [h:IsP p]:isP p=true:=by unfold isP; exact decide_eq_true h.h
theorem a5c {p:Int} [IsP p] {a:Fp p}:wi p (pad (row a))=true:=by
 unfold wi;rw [fw];intro x hx;obtain ⟨i,_,rfl⟩:=ch.1 hx;have:=(ko a).le IsP.pos i
 simpa using this.2
theorem Q9 {p:Int} [IsP p] {l:List Int} (hb:kh l) (hl:l.length=64) (h:wi p l=true):∃a:Fp p,a.len≤64∧l=pad (row a):=by
 have hc:Can p l:=fun x hx=>⟨(hb x hx).1,by
  unfold wi at h;rw [fw] at h
  simpa using h x hx⟩
 refine ⟨gn p l,dk (Pol.len_le (Pz l)) (by omega),?_⟩
 rw [←qk hc]
 symm
 apply I6 hl;intro i hi;rw [qk hc,gd,jr,Mu (hc.le IsP.pos i)]
inductive Arg1 (p:Int) (l:List Int):Prop
 | bad (h:kv p [l]=1) (h2:isP p=true→wi p l=false)
 | good (ip:IsP p) (a:Fp p) (hl:a.len≤64) (e:l=pad (row a))
theorem aiq (p:Int) {l:List Int} (hb:kh l) (hl:l.length=64):Arg1 p l:=by
 by_cases h1:isP p=true
 ·by_cases h2:wi p l=true
  ·have ip:=It h1
   obtain ⟨a,g1,g2⟩:=Q9 hb hl h2;exact .good ip a g1 g2
  ·refine .bad (by simp [kv,h2]) fun _=>by simpa using h2
 ·exact .bad (by simp [kv,h1]) fun h=>absurd h h1
theorem Ca {p:Int} [IsP p] (ls:List (Fp p)):kv p (ls.map fun a=>pad (row a))=0:=by
 unfold kv;rw [if_pos];refine ⟨Hm,?_⟩;rw [List.all_map,fw];intro a _;exact a5c
theorem M4 {p:Int} [IsP p] (a:Fp p):kv p [pad (row a)]=0:=Ca [a]
theorem t6 {p:Int} [IsP p] (x:Zp p):rep x=1↔x=1:=⟨fun h=>H8 (by rw [h,qb]),fun h=>by rw [h,qb]⟩
theorem Ba {p:Int} [IsP p] (a:Fp p):Monic a↔a.ld=1:=⟨fun h=>h.1,fun h=>⟨h,fun h0=>by
 rw [h0] at h;have:(0:Fp p).ld=0:=rfl;rw [this] at h;exact Fd.one_ne h.symm⟩⟩
theorem a1w {p:Int} {l:List Int} {f:Fp p} (h:∀i,cf l i=rep (f.c i)):qz l l.length=f.len:=by
 have e:=congrArg List.length (yv h);rw [bf] at e;unfold trim at e;rw [bm] at e;have:=Hd l l.length;omega
theorem a2t {O:ap} {l:List Int} (hl:l.length=64):∀n:Nat,n≤64 →
 dn O 0 (.loop Z35_L0) ⟨[(1,.ptr 0 []),(3,(.d (.int .i64 ((n:Int)-1))))],[.box false (D.arr 64 .leaf (ah .u8 l))]⟩ =
  some (.exit 0,⟨[(1,.ptr 0 []),(3,(.d (.int .i64 ((qz l n:Int)-1)))),(11,(.d (.bool false)))],[.box false (D.arr 64 .leaf (ah .u8 l))]⟩)
 | 0,_=>cg (by simp -implicitDefEqProofs [Z35_L0,az,qz])
 | n+1,hn=>by
  have hlt:n<l.length:=by omega
  have hn64:n<64:=by omega
  have hx:l[n]=cf l n:=(fp hlt).symm;have t0:(((n+1:Nat):Int)-1)=(n:Int):=by omega
  rw [t0];have w1:IntKind.i64.wrap ((n:Int)-1)=(n:Int)-1:=w64 (by omega)
  by_cases h0:cf l n=0
  ·have e:qz l (n+1)=qz l n:=by simp [qz,h0]
   rw [e];refine c8 ?_ (a2t hl n (by omega))
   simp -implicitDefEqProofs [Z35_L0,az,hlt,hn64,hx,h0,w1]
  ·have e:qz l (n+1)=n+1:=by simp [qz,h0]
   rw [e,t0];refine cg ?_;simp -implicitDefEqProofs [Z35_L0,az,hlt,hn64,hx,h0]
def Tq (O:ap):Prop:=∀l:List Int,l.length=64→ask O F35 [(D.arr 64 .leaf (ah .u8 l))]=some (D.int .i64 ((qz l 64:Int)-1))
theorem aam (hT:T F35=some Z35):Tq (den T A):=by
 intro l hl;have e:=a2t (O:=den T A) hl 64 (bj _);have e0:((64:Nat):Int)-1=63:=rfl;rw [e0] at e;refine cd hT rfl ?_;simp -implicitDefEqProofs [Z35,Z35_B,e]
def m8 (O:ap):Prop:=∀(p:Int) [IsP p] (a:Fp p),a.len≤64→ask O F35 [(D.arr 64 .leaf (ah .u8 (pad (row a))))]=some (D.int .i64 ((a.len:Int)-1))
theorem aae {O:ap} (h:Tq O):m8 O:=fun p i a hl=>by
 have e:=a1w (f:=a) (l:=pad (row a)) fun i=>by rw [yr (by rw [bf]; exact hl),gd]
 rw [c5] at e;rw [h _ (c5 _),e]
def X3 (O:ap):Prop:=∀n a b:Int,ask O F38 [(D.int .i64 n),(D.int .i64 a),(D.int .i64 b)]=some (D.bool (decide (a≤n∧n≤b)))
theorem ae9 (hT:T F38=some Z38):X3 (den T A):=by
 intro n a b;refine cd hT rfl ?_
 by_cases h:a≤n <;> simp -implicitDefEqProofs [Z38,Z38_B,h]
def zy (O:ap):Prop:=∀p:Int,ask O F3i [(D.int .i64 p)]=some (D.bool (isP p))
theorem a5d (hT:T F3i=some Z3i):zy (den T A):=by
 intro p;refine cd hT rfl ?_
 by_cases h2:p=2
 ·simp -implicitDefEqProofs [Z3i,Z3i_B,h2,isP]
 ·by_cases h3:p=3
  ·simp -implicitDefEqProofs [Z3i,Z3i_B,h3,isP]
  ·by_cases h5:p=5
   ·simp -implicitDefEqProofs [Z3i,Z3i_B,h5,isP]
   ·simp -implicitDefEqProofs [Z3i,Z3i_B,h2,h3,h5,isP]
theorem a98 {O:ap} {p:Int} {l:List Int} (hb:kh l) (hl:l.length=64):∀(m i:Nat),i+m=64 →
 dn O 0 (.loop Z3b_L0) ⟨[(0,(.d (.int .i64 p))),(3,.ptr 0 []),(5,(.d (.int .i64 i)))],[.box false (D.arr 64 .leaf (ah .u8 l))]⟩ =
  if (l.drop i).all (fun x=>decide (x<p)) then some (.exit 0,⟨[(0,(.d (.int .i64 p))),(3,.ptr 0 []),(5,(.d (.int .i64 64))),(7,(.d (.bool false)))],[.box false (D.arr 64 .leaf (ah .u8 l))]⟩) else some (.ret,⟨[(4,(.d (.bool false)))],[.hole]⟩)
 | 0,i,hi=>by
  obtain rfl:i=64:=by omega
  rw [show l.drop 64=[] from du (by omega)]
  exact cg (by simp -implicitDefEqProofs [Z3b_L0,az])
 | m+1,i,hi=>by
  have hlt:i<l.length:=by omega
  have hi64:i<64:=by omega
  have hi64':(i:Int)<64:=by omega
  have hx:l[i]=cf l i:=(fp hlt).symm;have hb':=hb _ (c6 hlt);rw [hx] at hb';have w1:IntKind.i64.wrap (cf l i)=cf l i:=w64 (by omega)
  have w4:IntKind.i64.wrap ((i:Int)+1)=((i+1:Nat):Int):=(w64 (x:=(i:Int)+1) (by omega)).trans (by omega)
  rw [bt hlt,List.all_cons,hx]
  by_cases h0:cf l i<p
  ·rw [decide_eq_true h0,Bool.true_and]
   refine c8 ?_ (a98 hb hl m (i+1) (by omega))
   have h1:¬ p≤cf l i:=by omega
   simp -implicitDefEqProofs [Z3b_L0,az,hlt,hi64,hi64',hx,h1,w1,w4]
  ·rw [decide_eq_false h0,Bool.false_and]
   have h1:p≤cf l i:=by omega
   refine nj ?_;simp -implicitDefEqProofs [Z3b_L0,az,hlt,hi64,hi64',hx,h1,w1]
def Xj (O:ap):Prop:=∀(p:Int) (l:List Int),kh l→l.length=64→ask O F3b [(D.int .i64 p),(D.arr 64 .leaf (ah .u8 l))]=some (D.bool (wi p l&&isP p))
theorem afh (hT:T F3b=some Z3b) (hp:zy (den T A)):Xj (den T A):=by
 intro p l hb hl;have e:=a98 (O:=den T A) (p:=p) hb hl 64 0 (by omega)
 have e0:((0:Nat):Int)=0:=rfl;rw [e0,dx,show (l.all fun x=>decide (x<p))=wi p l from rfl] at e
 have e1:=hp p;refine cd hT rfl ?_
 by_cases h:wi p l=true
 ·rw [if_pos h] at e
  simp -implicitDefEqProofs [Z3b,Z3b_B,e,e1,h]
 ·rw [if_neg h] at e
  simp -implicitDefEqProofs [Z3b,Z3b_B,e,h]
theorem Xv {O:ap} (hi:Xj O) {p:Int} (hp:isP p=true) {ls:List (List Int)} (h:Ve ls) (hl:ls.length<2000000):∀(m i:Nat),i+m=ls.length →
 dn O 0 (.loop Z33_L0) ⟨[(0,(.d (.int .i64 p))),(1,.d (.sl (.arr 64 .leaf) (ls.map kl))),(5,(.d (.int .i64 i)))],[]⟩ =
  if (ls.drop i).all (wi p) then some (.exit 0,⟨[(0,(.d (.int .i64 p))),(1,.d (.sl (.arr 64 .leaf) (ls.map kl))),(5,(.d (.int .i64 ls.length))),(12,(.d (.bool false)))],[]⟩) else some (.ret,⟨[(4,(.d (.int .i64 1)))],[]⟩)
 | 0,i,hi'=>by
  obtain rfl:i=ls.length:=by omega
  rw [lk];exact cg (by simp -implicitDefEqProofs [Z33_L0,az])
 | m+1,i,hi'=>by
  have hlt:i<ls.length:=by omega
  have h1:=h _ (c6 hlt);have e1:=hi p ls[i] h1.2 h1.1;rw [hp,Bool.and_true] at e1;have w4:IntKind.i64.wrap ((i:Int)+1)=((i+1:Nat):Int):=(w64 (x:=(i:Int)+1) (by omega)).trans (by omega)
  rw [bt hlt,List.all_cons]
  by_cases h0:wi p ls[i]=true
  ·rw [h0,Bool.true_and]
   rw [h0] at e1;refine c8 ?_ (Xv hi hp h hl m (i+1) (by omega))
   simp -implicitDefEqProofs [Z33_L0,az,hlt,e1,w4]
  ·rw [sn] at h0
   rw [h0,Bool.false_and];rw [h0] at e1;refine nj ?_;simp -implicitDefEqProofs [Z33_L0,az,hlt,e1]
def Mv (O:ap):Prop:=∀(p:Int) (ls:List (List Int)),Ve ls→ls.length<2000000→ask O F33 [(D.int .i64 p),.sl (.arr 64 .leaf) (ls.map kl)]=some (D.int .i64 (kv p ls))
theorem a7g (hT:T F33=some Z33) (hp:zy (den T A)) (hi:Xj (den T A)):Mv (den T A):=by
 intro p ls h hl;have e1:=hp p;unfold kv;refine cd hT rfl ?_
 by_cases h1:isP p=true
 ·have e:=Xv hi h1 h hl ls.length 0 (bv _)
  have e0:((0:Nat):Int)=0:=rfl;rw [e0,dx] at e
  by_cases h2:ls.all (wi p)=true
  ·rw [if_pos h2] at e
   rw [if_pos ⟨h1,h2⟩];simp -implicitDefEqProofs [Z33,Z33_B,az,e1,e,h1]
  ·rw [if_neg h2] at e
   rw [if_neg (fun h=>h2 h.2)]
   simp -implicitDefEqProofs [Z33,Z33_B,az,e1,e,h1]
 ·rw [if_neg (fun h=>h1 h.1)]
  simp -implicitDefEqProofs [Z33,Z33_B,az,e1,h1]
open Classical in
def Hz (O:ap):Prop:=∀(p:Int) [IsP p] (a:Fp p),a.len≤64→ask O F3d [(D.arr 64 .leaf (ah .u8 (pad (row a))))]=some (D.bool (decide (Monic a)))
open Classical in
theorem a3t (hT:T F3d=some Z3d) (hd:m8 (den T A)):Hz (den T A):=by
 intro p i a hl;have e1:=hd p a hl;refine cd hT rfl ?_
 by_cases h0:a=0
 ·subst h0
  have hm:¬ Monic (0:Fp p):=fun h=>h.2 rfl
  rw [decide_eq_false hm];rw [Pol.len_zero] at e1;simp -implicitDefEqProofs [Z3d,Z3d_B,e1]
 ·have hp:=Pol.len_pos h0
  have hd2:((a.len:Int)-1)=((a.len-1:Nat):Int):=by omega
  rw [hd2] at e1;have hx:(pad (row a))[a.len-1]? = some (rep a.ld):=by rw [pf _ _ (by omega),gd]; rfl
  have h64:a.len-1<64:=by omega
  have e2:decide (rep a.ld=1)=decide (Monic a):=decide_eq_decide.2 (by rw [t6,Ba])
  rw [←e2];generalize a.len-1=n at *;generalize pad (row a)=L at *;simp -implicitDefEqProofs [Z3d,Z3d_B,e1,hx,h64]
end Pe
namespace Pe
open Go Gq
variable {T:Nat→Option Fn} {A:ap}
def Gl (p:Int):Nat→Int→Int
 | 0,out=>out
 | n+1,out=>if out≤1000000000000 then Gl p n (out*p) else out
theorem Sp {p:Int} [IsP p]:∀(n:Nat) (out:Int),0<out→min (Gl p n out) 1000000000001=min (out*p^n) 1000000000001
 | 0,out,h=>by rw [eo,lc]; rfl
 | n+1,out,h=>by
  have hp:=IsP.pos (p:=p);have e:out*p^(n+1)=out*p*p^n:=by rw [dq,jl,i8 p]
  unfold Gl
  split
  ·rw [e,Sp n _ (vk h hp)]
  ·have h1:1≤p^(n+1):=je (n+1)
   have h2:out*1≤out*p^(n+1):=c7 h1 (by omega)
   omega
theorem Sw {O:ap} {p:Int} [IsP p]:∀(n:Nat) (out:Int),n<1000000→0<out→out≤7000000000000→∃n':Int,0<Gl p n out∧Gl p n out≤7000000000000 ∧
 dn O 0 (.loop Z34_L0) ⟨[(0,(.d (.int .i64 p))),(1,(.d (.int .i64 n))),(5,(.d (.int .i64 out)))],[]⟩ =
  some (.exit 0,⟨[(0,(.d (.int .i64 p))),(1,(.d (.int .i64 n'))),(5,(.d (.int .i64 (Gl p n out)))),(11,(.d (.bool false)))],[]⟩)
 | 0,out,_,h1,h2=>⟨0,h1,h2,cg (by simp -implicitDefEqProofs [Z34_L0,az,Gl])⟩
 | n+1,out,hn,h1,h2=>by
  have hp:=IsP.pos (p:=p);have hp7:=IsP.le (p:=p);have h0:(0:Int)<(n:Int)+1:=by omega
  by_cases h3:out≤1000000000000
  ·have hmul:0<out*p∧out*p≤7000000000000:=by
    refine ⟨vk h1 hp,?_⟩;have:out*p≤out*7:=c7 hp7 (by omega)
    omega
   obtain ⟨n',g1,g2,e⟩:=Sw (O:=O) (p:=p) n (out*p) (by omega) hmul.1 hmul.2
   have ec:Gl p (n+1) out=Gl p n (out*p):=if_pos h3;rw [ec];have w1:IntKind.i64.wrap (out*p)=out*p:=w64 (by omega)
   have w2:IntKind.i64.wrap (n:Int)=n:=w64 (by omega)
   refine ⟨n',g1,g2,c8 ?_ e⟩;simp -implicitDefEqProofs [Z34_L0,az,h0,h3,w1,w2]
  ·have ec:Gl p (n+1) out=out:=if_neg h3
   rw [ec];refine ⟨((n+1:Nat):Int),h1,h2,cg ?_⟩;simp -implicitDefEqProofs [Z34_L0,az,h0,h3]
def zz (O:ap):Prop:=∀(p:Int) [IsP p] (n:Nat),n<1000000→ask O F34 [(D.int .i64 p),(D.int .i64 n)]=some (D.int .i64 (min (p^n) 1000000000001))
theorem a3k (hT:T F34=some Z34):zz (den T A):=by
 intro p i n hn;obtain ⟨n',g1,g2,e⟩:=Sw (O:=den T A) (p:=p) n 1 hn (by omega) (by omega)
 have e2:=Sp (p:=p) n 1 (by omega)
 rw [fc] at e2
 have e3:(if (1000000000001:Int)<Gl p n 1 then 1000000000001 else Gl p n 1)=min (p^n) 1000000000001:=by
  rw [←e2]
  split <;> omega
 refine cd hT rfl ?_;simp -implicitDefEqProofs [Z34,Z34_B,e];exact e3
theorem Ln {O:ap} (h:zz O) (p:Int) [IsP p] (n:Nat) (hn:n≤12):ask O F34 [(D.int .i64 p),(D.int .i64 n)]=some (D.int .i64 (p^n)):=by
 have h1:=md (p:=p) hn;rw [h p n (by omega),Int.min_eq_left (by omega)]
def nm (O:ap):Prop:=∀(p:Int) [IsP p] (x:Int),0<x→x<p→ask O F39 [(D.int .i64 p),.int .u8 x]=some (.int .u8 (inv p x))
theorem ji {F:Nat} {fn:Fn} (hT:T F=some fn) {ds:List D} {d:D} {n:Nat} (h:run (fun _ _ _=>none) n fn (ds.map .d) []=some (.d d,[],[])):ask (den T A) F ds=some d:=by
 have h2:=Ns (A:=A) hT (n:=n) (vs:=ds.map .d) (bs:=[]) (ans:=(.d d,[],[])) (by
  obtain ⟨qs,h3,h4⟩:=Ay h;cases qs with
  | nil=>exact h4 _ (by intro q hq; simp at hq)
  | cons q qs=>exact absurd (h3 q (by simp)) (by simp))
 unfold ask;rw [h2];simp
theorem Vu (hT:T F39=some Z39):nm (den T A):=by
 intro p ip x h0 h1;rcases ip.h with rfl | rfl | rfl | rfl
 ·obtain rfl:x=1:=by omega
  exact ji hT (n:=10) (by kernel_rfl)
 ·have:x=1∨x=2:=by omega
  rcases this with rfl | rfl
  ·exact ji hT (n:=10) (by kernel_rfl)
  ·exact ji hT (n:=10) (by kernel_rfl)
 ·have:x=1∨x=2∨x=3∨x=4:=by omega
  rcases this with rfl | rfl | rfl | rfl
  ·exact ji hT (n:=10) (by kernel_rfl)
  ·exact ji hT (n:=10) (by kernel_rfl)
  ·exact ji hT (n:=10) (by kernel_rfl)
  ·exact ji hT (n:=10) (by kernel_rfl)
 ·have:x=1∨x=2∨x=3∨x=4∨x=5∨x=6:=by omega
  rcases this with rfl | rfl | rfl | rfl | rfl | rfl
  ·exact ji hT (n:=10) (by kernel_rfl)
  ·exact ji hT (n:=10) (by kernel_rfl)
  ·exact ji hT (n:=10) (by kernel_rfl)
  ·exact ji hT (n:=10) (by kernel_rfl)
  ·exact ji hT (n:=10) (by kernel_rfl)
  ·exact ji hT (n:=10) (by kernel_rfl)
theorem Ig {p:Int} [IsP p] {l:List Int} (h:Can p l) (hl:l.length=64):l=pad (row (gn p l)):=by
 rw [←qk h]
 symm
 apply I6 hl;intro i hi;rw [qk h,gd,jr,Mu (h.le IsP.pos i)]
theorem xw {p:Int} [IsP p] (a:Fp p):Can p (pad (row a)):=fun x hx=>by
 obtain ⟨i,_,rfl⟩:=ch.1 hx;exact (ko a).le IsP.pos i
theorem mb {p:Int} {a:Fp p} (hl:a.len≤64):gn p (pad (row a))=a:=Pol.ext fun i=>by rw [jr,yr (by rw [bf]; exact hl),gd,lm]
theorem ou {p:Int} {a:Fp p} (hl:a.len≤64) (i:Nat):cf (pad (row a)) i=rep (a.c i):=by rw [yr (by rw [bf]; exact hl),gd]
theorem a5t {O:ap} {p k:Int} [IsP p] {a b z:List Int} (ha:Can p a) (hb:Can p b) (hbl:b.length=64) (hk:-1000000≤k∧k≤1000000):∀(m i:Nat) (cur:List Int),i+m=64→cur.length=64→(∀j,i≤j→cf cur j=cf a j) →
 dn O 0 (.loop Z31_L0) ⟨[(0,(.d (.int .i64 p))),(3,(.d (.int .i64 k))),(5,.ptr 0 []),(6,.ptr 1 []),(8,.ptr 2 []),(9,(.d (.int .i64 i)))],[.box false (D.arr 64 .leaf (ah .u8 cur)),.box false (D.arr 64 .leaf (ah .u8 b)),.box false (D.arr 64 .leaf (ah .u8 z))]⟩ =
  some (.exit 0,⟨[(0,(.d (.int .i64 p))),(3,(.d (.int .i64 k))),(5,.ptr 0 []),(6,.ptr 1 []),(8,.ptr 2 []),(9,(.d (.int .i64 64))),(11,(.d (.bool false)))],[.box false (D.arr 64 .leaf (ah .u8 (upd (lin p a b k) m i cur))),.box false (D.arr 64 .leaf (ah .u8 b)),.box false (D.arr 64 .leaf (ah .u8 z))]⟩)
 | 0,i,cur,hi,hc,hs=>by
  obtain rfl:i=64:=by omega
  exact cg (by simp -implicitDefEqProofs [Z31_L0,az,upd])
 | m+1,i,cur,hi,hc,hs=>by
  have hp:=IsP.pos (p:=p);have hp7:=IsP.le (p:=p);have hp0:p≠0:=by omega
  have hlt:i<cur.length:=by omega
  have hlb:i<b.length:=by omega
  have hi64:i<64:=by omega
  have hi64':(i:Int)<64:=by omega
  have hx:cur[i]=cf a i:=by rw [←fp hlt]; exact hs i (bj i)
  have hy:b[i]=cf b i:=(fp hlb).symm;have ga:=ha.le hp i;have gb:=hb.le hp i;have gm:=lf (x:=k) (y:=cf b i) (b:=1000000) (c:=10) hk (by omega) (by omega)
  have w1:IntKind.i64.wrap (cf a i)=cf a i:=w64 (by omega)
  have w2:IntKind.i64.wrap (cf b i)=cf b i:=w64 (by omega)
  have w3:IntKind.i64.wrap (k*cf b i)=k*cf b i:=w64 (by omega)
  have w5:IntKind.i64.wrap (cf a i+k*cf b i)=cf a i+k*cf b i:=w64 (by omega)
  have hin:=Cp (n:=cf a i+k*cf b i) hp;have w6:IntKind.i64.wrap ((cf a i+k*cf b i).tmod p+p)=(cf a i+k*cf b i).tmod p+p:=w64 (by omega)
  have w7:((cf a i+k*cf b i).tmod p+p).tmod p=lin p a b k i:=Ao hp;have hlin:0≤lin p a b k i∧lin p a b k i<p:=⟨dw _ (by omega),de _ hp⟩
  have w8':IntKind.u8.wrap (lin p a b k i)=lin p a b k i:=w8 (by omega)
  have w4:IntKind.i64.wrap ((i:Int)+1)=((i+1:Nat):Int):=(w64 (x:=(i:Int)+1) (by omega)).trans (by omega)
  refine c8 ?_ (a5t ha hb hbl hk m (i+1) (cur.set i (lin p a b k i)) (by omega) (by simpa using hc) (fun j hj=>by rw [tf,if_neg (by omega)]; exact hs j (by omega)))
  simp -implicitDefEqProofs [Z31_L0,az,hlt,hlb,hi64,hi64',hx,hy,w1,w2,w3,w5,w6,w7,w8',w4,hp0]
def pq (O:ap):Prop:=∀(p:Int) [IsP p] (k:Int) (a b:Fp p),-1000000≤k→k≤1000000→a.len≤64→b.len≤64 →
 ask O F31 [(D.int .i64 p),(D.arr 64 .leaf (ah .u8 (pad (row a)))),(D.arr 64 .leaf (ah .u8 (pad (row b)))),(D.int .i64 k)]=some (D.arr 64 .leaf (ah .u8 (pad (row (a+Pol.C (zp p k)*b)))))
theorem a9g (hT:T F31=some Z31):pq (den T A):=by
 intro p i k a b hk hk' hal hbl;have e:=a5t (O:=den T A) (z:=pad []) (xw a) (xw b) (c5 _) ⟨hk,hk'⟩ 64 0 (pad (row a)) (by omega) (c5 _) (fun _ _=>rfl)
 have e0:((0:Nat):Int)=0:=rfl;rw [e0,Oz _ _ _ (c5 _)] at e
 have e2:(List.range 64).map (lin p (pad (row a)) (pad (row b)) k)=pad (row (a+Pol.C (zp p k)*b)):=by
  unfold pad
  congr 1
  funext j
  rw [gd,Pol.c_add,Pol.c_Cmul];show (cf (pad (row a)) j+k*cf (pad (row b)) j)%p=_;rw [ou hal,ou hbl,←Ir,Uc,zx,lm,lm]
 rw [e2] at e;refine cd hT rfl ?_;generalize pad (row (a+Pol.C (zp p k)*b))=R at *;simp -implicitDefEqProofs [Z31,Z31_B,e]
def Mr (O:ap):Prop:=∀(p:Int) [IsP p],ask O F3g []=some (D.arr 64 .leaf (ah .u8 (pad (row (1:Fp p)))))
theorem a9x (hT:T F3g=some Z3g):Mr (den T A):=by
 intro p i;have e:(pad []).set 0 1=pad [1]:=by decide +kernel
 have h0:(0:Nat)<(pad []).length:=by rw [c5]; omega
 rw [su];refine cd hT rfl ?_;simp -implicitDefEqProofs [Z3g,Z3g_B,e,h0]
def Nl (p q:Int) (b:List Int) (i:Nat) (m:Nat) (cur:List Int):List Int:=if q=0 then cur else o9 p q b i m 0 cur
theorem Ou {p q:Int} [IsP p] {b cur:List Int} {i m:Nat} (hc:Can p cur) (hl:i+m≤cur.length):Nl p q b i m cur=o9 p q b i m 0 cur:=by
 unfold Nl
 split
 ·rename_i h
  subst h;apply pk
  ·rw [nu]
  ·intro j h1 h2
   rw [←fp h1,←fp h2,yu _ _ _ _ _ _ _ _ (by omega)]
   have:=hc.le IsP.pos j
   split
   ·rw [Int.zero_mul,Int.sub_zero,mj this.1 this.2]
   ·rfl
 ·rfl
theorem Xn {O:ap} {p q by_:Int} [IsP p] {b quo z z':List Int} {i bl:Nat} (hq:0<q∧q<p) (hb:Can p b) (hbl:b.length=64) (hn:i+bl≤64) (h0:0<bl):∀(m k:Nat) (cur:List Int),k+m=bl→cur.length=64→Can p cur →
 dn O 0 (.loop Z36_L0) ⟨[(0,(.d (.int .i64 p))),(4,.ptr 0 []),(5,.ptr 1 []),(6,.ptr 2 []),(7,.ptr 3 []),(8,.ptr 4 []),(9,(.d (.int .i64 ((bl:Int)-1)))),(10,(.d (.int .i64 by_))),(11,(.d (.int .i64 ((i:Int)+bl-1)))),(12,(.d (.int .i64 q))),(13,(.d (.int .i64 k)))],[.box false (D.arr 64 .leaf (ah .u8 cur)),.box false (D.arr 64 .leaf (ah .u8 b)),.box false (D.arr 64 .leaf (ah .u8 z)),.box false (D.arr 64 .leaf (ah .u8 z')),.box false (D.arr 64 .leaf (ah .u8 quo))]⟩ =
  some (.exit 2,⟨[(0,(.d (.int .i64 p))),(4,.ptr 0 []),(5,.ptr 1 []),(6,.ptr 2 []),(7,.ptr 3 []),(8,.ptr 4 []),(9,(.d (.int .i64 ((bl:Int)-1)))),(10,(.d (.int .i64 by_))),(11,(.d (.int .i64 ((i:Int)+bl-1)))),(12,(.d (.int .i64 q))),(13,(.d (.int .i64 bl))),(50,(.d (.bool false)))],[.box false (D.arr 64 .leaf (ah .u8 (o9 p q b i m k cur))),.box false (D.arr 64 .leaf (ah .u8 b)),.box false (D.arr 64 .leaf (ah .u8 z)),.box false (D.arr 64 .leaf (ah .u8 z')),.box false (D.arr 64 .leaf (ah .u8 quo))]⟩)
 | 0,k,cur,hk,hc,hcan=>by
  obtain rfl:k=bl:=by omega
  have h1:¬ (k:Int)≤(k:Int)-1:=by omega
  exact cg (by simp -implicitDefEqProofs [Z36_L0,az,o9,h1])
 | m+1,k,cur,hk,hc,hcan=>by
  have hp:=IsP.pos (p:=p);have hp7:=IsP.le (p:=p);have hp0:p≠0:=by omega
  have hq0:q≠0:=by omega
  have h1:(k:Int)≤(bl:Int)-1:=by omega
  have w1:IntKind.i64.wrap ((i:Int)+bl-1-(bl-1))=i:=(w64 (x:=(i:Int)+bl-1-(bl-1)) (by omega)).trans (by omega)
  have w2:IntKind.i64.wrap ((i:Int)+k)=((i+k:Nat):Int):=(w64 (x:=(i:Int)+k) (by omega)).trans (by omega)
  have hik:i+k<64:=by omega
  have hikc:i+k<cur.length:=by omega
  have hkb:k<b.length:=by omega
  have hk64:k<64:=by omega
  have hx:cur[i+k]=cf cur (i+k):=(fp hikc).symm;have hy:b[k]=cf b k:=(fp hkb).symm;have gc:=hcan.le hp (i+k);have gb:=hb.le hp k;have gm:=lf (x:=q) (y:=cf b k) (b:=10) (c:=10) (by omega) (by omega) (by omega)
  have w3:IntKind.i64.wrap (cf cur (i+k))=cf cur (i+k):=w64 (by omega)
  have w5:IntKind.i64.wrap (cf b k)=cf b k:=w64 (by omega)
  have w6:IntKind.i64.wrap (q*cf b k)=q*cf b k:=w64 (by omega)
  have w7:IntKind.i64.wrap (cf cur (i+k)-q*cf b k)=cf cur (i+k)-q*cf b k:=w64 (by omega)
  have hin:=Cp (n:=cf cur (i+k)-q*cf b k) hp;have w9:IntKind.i64.wrap ((cf cur (i+k)-q*cf b k).tmod p+p)=(cf cur (i+k)-q*cf b k).tmod p+p:=w64 (by omega)
  have w10:((cf cur (i+k)-q*cf b k).tmod p+p).tmod p=(cf cur (i+k)-q*cf b k)%p:=Ao hp;have hlin:0≤(cf cur (i+k)-q*cf b k)%p∧(cf cur (i+k)-q*cf b k)%p<p:=⟨dw _ (by omega),de _ hp⟩
  have w11:IntKind.u8.wrap ((cf cur (i+k)-q*cf b k)%p)=(cf cur (i+k)-q*cf b k)%p:=w8 (by omega)
  have w4:IntKind.i64.wrap ((k:Int)+1)=((k+1:Nat):Int):=(w64 (x:=(k:Int)+1) (by omega)).trans (by omega)
  have t1:(0:Int)≤(i:Int)+k:=by omega
  have t2:((i:Int)+k).toNat=i+k:=by omega
  have hcan':Can p (cur.set (i+k) ((cf cur (i+k)-q*cf b k)%p)):=by
   intro x hx;rcases fl hx with h | h
   ·exact hcan x h
   ·subst h; exact hlin
  refine c8 ?_ (Xn hq hb hbl hn h0 m (k+1) (cur.set (i+k) ((cf cur (i+k)-q*cf b k)%p)) (by omega) (by simpa using hc) hcan')
  simp -implicitDefEqProofs [Z36_L0,az,h1,hq0,w1,w2,hik,hikc,hkb,hk64,hx,hy,w3,w5,w6,w7,w9,w10,w11,w4,hp0,t1,t2]
theorem Xl {O:ap} {p by_:Int} [IsP p] {b:List Int} {bl:Nat} {z z':List Int} (hby:0≤by_∧by_<p) (hb:Can p b) (hbl:b.length=64) (h0:0<bl):∀(c:Nat) (cur quo:List Int),c+bl≤65→cur.length=64→quo.length=64→Can p cur →
 dn O 0 (.loop Z36_L1) ⟨[(0,(.d (.int .i64 p))),(4,.ptr 0 []),(5,.ptr 1 []),(6,.ptr 2 []),(7,.ptr 3 []),(8,.ptr 4 []),(9,(.d (.int .i64 ((bl:Int)-1)))),(10,(.d (.int .i64 by_))),(11,(.d (.int .i64 ((c:Int)+bl-2))))],[.box false (D.arr 64 .leaf (ah .u8 cur)),.box false (D.arr 64 .leaf (ah .u8 b)),.box false (D.arr 64 .leaf (ah .u8 z)),.box false (D.arr 64 .leaf (ah .u8 z')),.box false (D.arr 64 .leaf (ah .u8 quo))]⟩ =
  some (.exit 0,⟨[(0,(.d (.int .i64 p))),(4,.ptr 0 []),(5,.ptr 1 []),(6,.ptr 2 []),(7,.ptr 3 []),(8,.ptr 4 []),(9,(.d (.int .i64 ((bl:Int)-1)))),(10,(.d (.int .i64 by_))),(11,(.d (.int .i64 ((bl:Int)-2)))),(27,(.d (.bool false)))],[.box false (D.arr 64 .leaf (ah .u8 ((dv p by_ (b.take bl) c (cur,quo)).1))),.box false (D.arr 64 .leaf (ah .u8 b)),.box false (D.arr 64 .leaf (ah .u8 z)),.box false (D.arr 64 .leaf (ah .u8 z')),.box false (D.arr 64 .leaf (ah .u8 ((dv p by_ (b.take bl) c (cur,quo)).2)))]⟩)
 | 0,cur,quo,_,hc,hqo,hcan=>by
  have h1:¬ (bl:Int)-1≤(bl:Int)-2:=by omega
  have t0:((0:Nat):Int)+bl-2=(bl:Int)-2:=by omega
  rw [t0];exact cg (by simp -implicitDefEqProofs [Z36_L1,az,h1,dv])
 | c+1,cur,quo,hcb,hc,hqo,hcan=>by
  have hp:=IsP.pos (p:=p);have hp7:=IsP.le (p:=p);have hp0:p≠0:=by omega
  have hbt:(b.take bl).length=bl:=by rw [bm]; omega
  have t0:((c+1:Nat):Int)+bl-2=(c:Int)+bl-1:=by omega
  rw [t0];have h1:(bl:Int)-1≤(c:Int)+bl-1:=by omega
  have hi64:c+bl-1<64:=by omega
  have hic:c+bl-1<cur.length:=by omega
  have t1:(0:Int)≤(c:Int)+bl-1:=by omega
  have t2:((c:Int)+bl-1).toNat=c+bl-1:=by omega
  have t3:(1:Int)≤(c:Int)+bl:=by omega
  have hx:cur[c+bl-1]=cf cur (c+bl-1):=(fp hic).symm;have gc:=hcan.le hp (c+bl-1);have gm:=lf (x:=cf cur (c+bl-1)) (y:=by_) (b:=10) (c:=10) (by omega) (by omega) (by omega)
  have w1:IntKind.i64.wrap (cf cur (c+bl-1))=cf cur (c+bl-1):=w64 (by omega)
  have w2:IntKind.i64.wrap (cf cur (c+bl-1)*by_)=cf cur (c+bl-1)*by_:=w64 (by omega)
  have w3:(cf cur (c+bl-1)*by_).tmod p=cf cur (c+bl-1)*by_%p:=di (ep gc.1 hby.1);have hq:0≤cf cur (c+bl-1)*by_%p∧cf cur (c+bl-1)*by_%p<p:=⟨dw _ hp0,de _ hp⟩;have w4:IntKind.i64.wrap ((c:Int)+bl-1-(bl-1))=c:=(w64 (x:=(c:Int)+bl-1-(bl-1)) (by omega)).trans (by omega)
  have w5:IntKind.u8.wrap (cf cur (c+bl-1)*by_%p)=cf cur (c+bl-1)*by_%p:=w8 (by omega)
  have hc64:c<64:=by omega
  have hcq:c<quo.length:=by omega
  have w6:IntKind.i64.wrap ((c:Int)+bl-1-1)=(c:Int)+bl-2:=(w64 (x:=(c:Int)+bl-1-1) (by omega)).trans (by omega)
  have ed:dv p by_ (b.take bl) (c+1) (cur,quo)=dv p by_ (b.take bl) c (Nl p (cf cur (c+bl-1)*by_%p) b c bl cur,quo.set c (cf cur (c+bl-1)*by_%p)):=by
   rw [dv,hbt,Ou hcan (by omega)]
   have es:∀(m k:Nat) (x:List Int),k+m≤bl→o9 p (cf cur (c+bl-1)*by_%p) (b.take bl) c m k x=o9 p (cf cur (c+bl-1)*by_%p) b c m k x:=by
    intro m
    induction m with
    | zero=>intro k x _; rfl
    | succ m ih=>
     intro k x hk;have e:cf (b.take bl) k=cf b k:=by rw [fp (by omega),fp (by omega),rq]
     rw [o9,o9,e,ih _ _ (by omega)]
   rw [es bl 0 cur (by omega)]
  rw [ed];have hcan':Can p (Nl p (cf cur (c+bl-1)*by_%p) b c bl cur):=by rw [Ou hcan (by omega)]; exact Em hp (by omega) hcan
  have hlen':(Nl p (cf cur (c+bl-1)*by_%p) b c bl cur).length=64:=by rw [Ou hcan (by omega),nu,hc]
  have ih:=Xl (O:=O) (z:=z) (z':=z') hby hb hbl h0 c (Nl p (cf cur (c+bl-1)*by_%p) b c bl cur) (quo.set c (cf cur (c+bl-1)*by_%p)) (by omega) hlen' (by simpa using hqo) hcan'
  refine c8 ?_ ih;generalize cf cur (c+bl-1)*by_%p=q at *
  have l0:∃k:Int,dn O 0 (.loop Z36_L0) ⟨[(0,(.d (.int .i64 p))),(4,.ptr 0 []),(5,.ptr 1 []),(6,.ptr 2 []),(7,.ptr 3 []),(8,.ptr 4 []),(9,(.d (.int .i64 ((bl:Int)-1)))),(10,(.d (.int .i64 by_))),(11,(.d (.int .i64 ((c:Int)+bl-1)))),(12,(.d (.int .i64 q))),(13,(.d (.int .i64 0)))],[.box false (D.arr 64 .leaf (ah .u8 cur)),.box false (D.arr 64 .leaf (ah .u8 b)),.box false (D.arr 64 .leaf (ah .u8 z)),.box false (D.arr 64 .leaf (ah .u8 z')),.box false (D.arr 64 .leaf (ah .u8 (quo.set c q)))]⟩ =
   some (.exit 2,⟨[(0,(.d (.int .i64 p))),(4,.ptr 0 []),(5,.ptr 1 []),(6,.ptr 2 []),(7,.ptr 3 []),(8,.ptr 4 []),(9,(.d (.int .i64 ((bl:Int)-1)))),(10,(.d (.int .i64 by_))),(11,(.d (.int .i64 ((c:Int)+bl-1)))),(12,(.d (.int .i64 q))),(13,(.d (.int .i64 k))),(50,(.d (.bool false)))],[.box false (D.arr 64 .leaf (ah .u8 (Nl p q b c bl cur))),.box false (D.arr 64 .leaf (ah .u8 b)),.box false (D.arr 64 .leaf (ah .u8 z)),.box false (D.arr 64 .leaf (ah .u8 z')),.box false (D.arr 64 .leaf (ah .u8 (quo.set c q)))]⟩):=by
   by_cases hq0:q=0
   ·subst hq0
    refine ⟨0,?_⟩;have e:Nl p 0 b c bl cur=cur:=if_pos rfl;rw [e];have h2:(1:Int)≤(bl:Int):=by omega
    exact cg (by simp -implicitDefEqProofs [Z36_L0,az,h2])
   ·refine ⟨bl,?_⟩
    have e:Nl p q b c bl cur=o9 p q b c bl 0 cur:=if_neg hq0;rw [e];have:=Xn (O:=O) (by_:=by_) (quo:=quo.set c q) (z:=z) (z':=z') (i:=c) (bl:=bl) ⟨by omega,hq.2⟩ hb hbl (by omega) h0 bl 0 cur (bv _) hc hcan
    exact this
  obtain ⟨k,l0⟩:=l0;simp -implicitDefEqProofs [Z36_L1,az,h1,hi64,hic,t2,t3,hx,w1,w2,w3,w4,w5,w6,hc64,hcq,hp0,l0]
def s9 (O:ap):Prop:=∀(p:Int) [IsP p] (a b:Fp p),b≠0→a.len≤64→b.len≤64 →
 ask O F36 [(D.int .i64 p),(D.arr 64 .leaf (ah .u8 (pad (row a)))),(D.arr 64 .leaf (ah .u8 (pad (row b))))]=some (.tup [(D.arr 64 .leaf (ah .u8 (pad (row (a/b))))),(D.arr 64 .leaf (ah .u8 (pad (row (a%b)))))])
theorem a2x {p:Int} {b:Fp p} (h:b.len≤64):(pad (row b)).take b.len=row b:=by
 apply pk
 ·rw [bm,c5,bf]; omega
 ·intro i h1 h2
  rw [rq,←fp,ou h,←gd,fp h2]
theorem a0c (hT:T F36=some Z36) (hd:m8 (den T A)) (hinv:nm (den T A)):s9 (den T A):=by
 intro p i a b hb hal hbl;have hp:=IsP.ge (p:=p);have hp7:=IsP.le (p:=p);have hb0:=Pol.len_pos hb;have e1:=hd p b hbl;have e2:=hd p a hal;have hr:=im b.ld;have hld:rep b.ld≠0:=fun h0=>Pol.ld_ne hb (ku.1 h0)
 have e3:=hinv p (rep b.ld) (by omega) hr.2
 have hin:=xl p (rep b.ld);have w1:IntKind.i64.wrap (inv p (rep b.ld))=inv p (rep b.ld):=w64 (by omega)
 have hbx:(pad (row b))[b.len-1]? = some (rep b.ld):=by rw [pf _ _ (by omega),gd]; rfl
 have hbx':((b.len:Int)-1).toNat=b.len-1:=by omega
 have hbx2:(1:Int)≤(b.len:Int):=by omega
 have hbx3:b.len-1<64:=by omega
 have hz:∀j,cf (pad []) j=0:=fun j=>by rw [yr (by simp),o7 (by simp)]
 have hcanz:Can p (pad []):=fun x hx=>by
  obtain ⟨j,_,rfl⟩:=ch.1 hx;rw [o7 (by simp)]; omega
 have sp:=Mw b hb (a.len+1-b.len) (pad (row a)) (pad []) (by rw [c5]; omega) (by rw [c5]; omega) (xw a) (fun j _=>hz j) (fun j hj=>by
  rw [ou hal,a.lt_len j (by omega),rep_zero]) hcanz
 have hl1:∀(B:List Int) (c:Nat) (x y:List Int),(dv p (inv p (rep b.ld)) B c (x,y)).1.length=x.length∧(dv p (inv p (rep b.ld)) B c (x,y)).2.length=y.length:=by
  intro B c
  induction c with
  | zero=>exact fun x y=>⟨rfl,rfl⟩
  | succ c ih=>
   intro x y;rw [dv];obtain ⟨i1,i2⟩:=ih (o9 p (cf x (c+B.length-1)*inv p (rep b.ld)%p) B c B.length 0 x) (y.set c (cf x (c+B.length-1)*inv p (rep b.ld)%p));exact ⟨by rw [i1,nu],by rw [i2,cx]⟩
 obtain ⟨g1,g2⟩:=hl1 (row b) (a.len+1-b.len) (pad (row a)) (pad []);rw [c5] at g1 g2;have l1:=Xl (O:=den T A) (b:=pad (row b)) (bl:=b.len) (z:=pad []) (z':=pad []) hin (xw b) (c5 _) hb0 (a.len+1-b.len) (pad (row a)) (pad []) (by omega) (c5 _) (c5 _) (xw a)
 rw [a2x hbl] at l1;generalize dv p (inv p (rep b.ld)) (row b) (a.len+1-b.len) (pad (row a),pad [])=r at *;obtain ⟨s1,s2,s3,s4⟩:=sp;have z0:gn p (pad [])=0:=Pol.ext fun j=>by rw [jr,hz]; rfl
 rw [z0,Gq.zero_mul,Gq.add_zero,mb hal,Gq.add_comm] at s1
 have hrl:(gn p r.1).len<b.len:=by
  have:(gn p r.1).lt (b.len-1):=fun i hi=>by rw [jr,s2 i hi]; rfl
  have:=Pol.len_le this;omega
 obtain ⟨h1,h2⟩:=Pol.div_mod_eq s1.symm hrl;rw [h1,h2,←Ig s3 g1,←Ig s4 g2]
 have lz:∃n:Int,dn (den T A) 0 (.loop Z36_L1) ⟨[(0,(.d (.int .i64 p))),(4,.ptr 0 []),(5,.ptr 1 []),(6,.ptr 2 []),(7,.ptr 3 []),(8,.ptr 4 []),(9,(.d (.int .i64 ((b.len:Int)-1)))),(10,(.d (.int .i64 (inv p (rep b.ld))))),(11,(.d (.int .i64 ((a.len:Int)-1))))],[.box false (D.arr 64 .leaf (ah .u8 (pad (row a)))),.box false (D.arr 64 .leaf (ah .u8 (pad (row b)))),.box false (D.arr 64 .leaf (ah .u8 (pad []))),.box false (D.arr 64 .leaf (ah .u8 (pad []))),.box false (D.arr 64 .leaf (ah .u8 (pad [])))]⟩ =
  some (.exit 0,⟨[(0,(.d (.int .i64 p))),(4,.ptr 0 []),(5,.ptr 1 []),(6,.ptr 2 []),(7,.ptr 3 []),(8,.ptr 4 []),(9,(.d (.int .i64 ((b.len:Int)-1)))),(10,(.d (.int .i64 (inv p (rep b.ld))))),(11,(.d (.int .i64 n))),(27,(.d (.bool false)))],[.box false (D.arr 64 .leaf (ah .u8 r.1)),.box false (D.arr 64 .leaf (ah .u8 (pad (row b)))),.box false (D.arr 64 .leaf (ah .u8 (pad []))),.box false (D.arr 64 .leaf (ah .u8 (pad []))),.box false (D.arr 64 .leaf (ah .u8 r.2))]⟩):=by
  by_cases hlt:b.len≤a.len
  ·rw [show ((a.len+1-b.len:Nat):Int)+b.len-2=(a.len:Int)-1 by omega] at l1
   exact ⟨_,l1⟩
  ·rw [show a.len+1-b.len=0 by omega] at l1
   have h3:¬ (b.len:Int)-1≤(b.len:Int)-2:=by omega
   have h4:¬ (b.len:Int)-1≤(a.len:Int)-1:=by omega
   have st:=cg (O:=den T A) (np:=0) (c:=Z36_L1) (s:=⟨[(0,(.d (.int .i64 p))),(4,.ptr 0 []),(5,.ptr 1 []),(6,.ptr 2 []),(7,.ptr 3 []),(8,.ptr 4 []),(9,(.d (.int .i64 ((b.len:Int)-1)))),(10,(.d (.int .i64 (inv p (rep b.ld))))),(11,(.d (.int .i64 (((0:Nat):Int)+b.len-2))))],[.box false (D.arr 64 .leaf (ah .u8 (pad (row a)))),.box false (D.arr 64 .leaf (ah .u8 (pad (row b)))),.box false (D.arr 64 .leaf (ah .u8 (pad []))),.box false (D.arr 64 .leaf (ah .u8 (pad []))),.box false (D.arr 64 .leaf (ah .u8 (pad [])))]⟩) (s1:=⟨[(0,(.d (.int .i64 p))),(4,.ptr 0 []),(5,.ptr 1 []),(6,.ptr 2 []),(7,.ptr 3 []),(8,.ptr 4 []),(9,(.d (.int .i64 ((b.len:Int)-1)))),(10,(.d (.int .i64 (inv p (rep b.ld))))),(11,(.d (.int .i64 (((0:Nat):Int)+b.len-2)))),(27,(.d (.bool false)))],[.box false (D.arr 64 .leaf (ah .u8 (pad (row a)))),.box false (D.arr 64 .leaf (ah .u8 (pad (row b)))),.box false (D.arr 64 .leaf (ah .u8 (pad []))),.box false (D.arr 64 .leaf (ah .u8 (pad []))),.box false (D.arr 64 .leaf (ah .u8 (pad [])))]⟩) (id:=0) (by
    have h3':¬ (b.len:Int)-1≤((0:Nat):Int)+b.len-2:=by omega
    simp -implicitDefEqProofs only [Int.natCast_zero,Int.zero_add] at h3' ⊢;simp -implicitDefEqProofs [Z36_L1,az,h3'])
   rw [st] at l1;have l2:=aw l1;injection l2 with _ l3
   injection l3 with _ l4
   injection l4 with l5 l6
   injection l6 with _ l7
   injection l7 with _ l8
   injection l8 with _ l9
   injection l9 with l10 _
   have e5:(D.arr 64 .leaf (ah .u8 (pad (row a))))=(D.arr 64 .leaf (ah .u8 r.1)):=by injection l5
   have e6:(D.arr 64 .leaf (ah .u8 (pad [])))=(D.arr 64 .leaf (ah .u8 r.2)):=by injection l10
   rw [←e5,←e6];exact ⟨(a.len:Int)-1,cg (by simp -implicitDefEqProofs [Z36_L1,az,h4])⟩
 obtain ⟨n,lz⟩:=lz;refine cd hT rfl ?_;obtain ⟨r1,r2⟩:=r;simp only at lz ⊢;generalize pad (row a)=PA at *;generalize pad (row b)=PB at *;simp -implicitDefEqProofs [Z36,Z36_B,e1,e2,e3,w1,hbx,hbx',hbx2,hbx3,lz]
end Pe
