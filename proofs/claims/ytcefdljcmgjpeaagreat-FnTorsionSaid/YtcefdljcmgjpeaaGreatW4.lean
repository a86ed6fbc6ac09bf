/-
  A part of the proof: an evaluator for a small form of the code, its soundness, and contracts of functions over it.
-/
import Derived.Shelf.Spec.SlicesInsertGrow
import Derived.Lib.AppendZeros
import Derived.KernelRfl
import Derived.Test.YtcefdljcmgjpeaaGreatW1
import Derived.Test.YtcefdljcmgjpeaaGreatW2
import Derived.Test.YtcefdljcmgjpeaaGreatW3

namespace Pe
open Go Go.Shelf Go.RowKit Go.Lib Go.Proofs
variable {P:Program} {ρ:Ren}
noncomputable def Hp (ρ : Ren) : Func := { Body2.n22 ρ with name := "slices.Insert[[]loop.example/g01245/impl.row,loop.example/g01245/impl.row]" }
theorem ti (ρ:Ren):(Hp ρ).ntmps=95:=rfl
theorem Pc (ρ : Ren) : (Hp ρ).name ≠ "runtime.NumGoroutine" := by
 show ("slices.Insert[[]loop.example/g01245/impl.row,loop.example/g01245/impl.row]" : String) ≠ "runtime.NumGoroutine"
 decide
noncomputable def a8l (ρ : Ren) : Func := { Body2.n29 ρ with name := "slices.overlaps[loop.example/g01245/impl.row]" }
structure InsL (P:Program) (ρ:Ren):Prop where
 mixed:P.follows .mixedOrders=true
 f22:P.funcs[ρ.f 22]? = some (Hp ρ)
 f29:P.funcs[ρ.f 29]? = some (a8l ρ)
 t0:P.underlying (ρ.t 0)=some (TypeDesc.tuple #[])
 t3:P.underlying (ρ.t 3)=some (TypeDesc.int IntKind.i64)
 a3:∀w,(Go.isAgg (ρ.t 3)).run P w=.ok false w
 z3:∀w,(Go.sizeOf (ρ.t 3)).run P w=.ok 1 w
 v3:∀w,(zeroValue (ρ.t 3)).run P w=.ok (Value.int IntKind.i64 0) w
 t4:P.underlying (ρ.t 4)=some (TypeDesc.bool)
 a4:∀w,(Go.isAgg (ρ.t 4)).run P w=.ok false w
 z4:∀w,(Go.sizeOf (ρ.t 4)).run P w=.ok 1 w
 v4:∀w,(zeroValue (ρ.t 4)).run P w=.ok (Value.bool false) w
 t9:∃t,P.underlying (ρ.t 9)=some (TypeDesc.slice t)
 a9:∀w,(Go.isAgg (ρ.t 9)).run P w=.ok false w
 z9:∀w,(Go.sizeOf (ρ.t 9)).run P w=.ok 1 w
 v9:∀w,(zeroValue (ρ.t 9)).run P w=.ok (Value.slice none 0 0) w
 t24:P.underlying (ρ.t 24)=some (TypeDesc.slice (ρ.t 9))
 a24:∀w,(Go.isAgg (ρ.t 24)).run P w=.ok false w
 z24:∀w,(Go.sizeOf (ρ.t 24)).run P w=.ok 1 w
 v24:∀w,(zeroValue (ρ.t 24)).run P w=.ok (Value.slice none 0 0) w
 i9:(P.info? (ρ.t 9)).map (fun i=>(i.zero,i.size,i.bytes))=some (some (Value.slice none 0 0),1,24)
theorem InsL.apart (L:InsL P ρ) {b vb off voff n m vc:Nat} (w:World) (hvb:vb≠b) {tA tB:TypeId} {kA kB:Nat} (hsa:w.shape? vb=some (tA,kA)) (hsb:w.shape? b=some (tB,kB)) (hkB:kB≠0) (hfa:w.frozen? ⟨vb,voff,none⟩=false) (hfe:w.frozen? ⟨vb,kA,none⟩=false) (lb cb:Nat) :
 (callFunc (ρ.f 29) #[.slice (some ⟨vb,voff,none⟩) m vc,.slice (some ⟨b,off+(n+m),none⟩) lb cb]).run P w=.ok (.value (.bool false)) w:=by
 rw [run_callFunc_extern L.f29 (by kernel_rfl) (by kernel_rfl) (by kernel_rfl) (e:=Extern.SlicesOverlaps.overlaps #[(ρ.t 24),(ρ.t 24)] #[(ρ.t 4)]) (by kernel_rfl),
  Lib.run_overlaps_apart w (ρ.t 24) (ρ.t 4) (ρ.t 9) L.t24 1 L.z9 ⟨vb,voff,none⟩ ⟨b,off+(n+m),none⟩ m vc lb cb hvb tA tB kA kB hsa hsb hkB hfa hfe]
 rfl
theorem InsL.one (L:InsL P ρ):(P.info? (ρ.t 9)).map (·.size)=some 1:=by
 obtain ⟨i0,hi0,h0,h1,h2⟩:=info_parts L.i9;rw [hi0]; simp [h1]
set_option maxHeartbeats 4000000 in
set_option maxRecDepth 100000 in
theorem InsL.shift (L:InsL P ρ) (b off n c i vb voff vc:Nat) (cs:List Value) (v:Value) (w:World) (hi:i<n) (hroom:n+1≤c) (hc63:n+1≤9223372036854775807) (hvb:vb≠b) (hcl:cs.length=n)
 (hcs:∀j u,cs[j]? = some u→w.cell? ⟨b,off+j,none⟩=some u) (hsp:∀j,j<n+1→(w.cell? ⟨b,off+j,none⟩).isSome=true) (hfz:∀j,j<n+1→w.frozen? ⟨b,off+j,none⟩=false)
 (hvs:w.cell? ⟨vb,voff,none⟩=some v) (h1c:∀u∈cs,u.oneCell'=true) (h1v:v.oneCell'=true)
 {tA tB:TypeId} {kA kB:Nat} (hsa:w.shape? vb=some (tA,kA)) (hsb:w.shape? b=some (tB,kB)) (hkB:kB≠0) (hfa:w.frozen? ⟨vb,voff,none⟩=false) (hfe:w.frozen? ⟨vb,kA,none⟩=false) :
 Calls P (ρ.f 22) #[.slice (some ⟨b,off,none⟩) n c,.int .i64 i,.slice (some ⟨vb,voff,none⟩) 1 vc] w fun e w'=>
  e=.returned (.slice (some ⟨b,off,none⟩) (n+1) c)∧w'=(w.drew.setCells b (off+(i+1)) (cs.drop i)).setCells b (off+i) [v]:=by
 have t0:=L.t0; have t3:=L.t3; have a3:=L.a3; have z3:=L.z3; have v3:=L.v3; have t4:=L.t4; have a4:=L.a4; have z4:=L.z4; have v4:=L.v4; have a9:=L.a9; have z9:=L.z9; have v9:=L.v9; have t24:=L.t24; have a24:=L.a24; have z24:=L.z24; have v24:=L.v24;have u0:=run_underlying L.t0; have u3:=run_underlying L.t3; have u4:=run_underlying L.t4; have u24:=run_underlying L.t24;obtain ⟨m,hm⟩:∃m:Nat,m=1:=⟨1,rfl⟩;have mixed:=L.mixed;rw [←hm] at hroom hsp hfz hc63 ⊢;have hm0:0<m:=by omega
 have hz1:¬ ((m:Int)=0):=by omega
 have hz2:¬ ((i:Int)=(n:Int)):=by omega
 have hsz:=L.one;have hov:∀lb cb,(callFunc (ρ.f 29) #[.slice (some ⟨vb,voff,none⟩) m vc,.slice (some ⟨b,off+(i+m),none⟩) lb cb]).run P w=.ok (.value (.bool false)) w:=fun lb cb=>L.apart w hvb hsa hsb hkB hfa hfe lb cb
 have hdl:(cs.drop i).length=n-i:=by rw [ej,hcl]
 have hw1:IntKind.i64.wrap ((i:Int)+(m:Int))=(i:Int)+(m:Int):=by rw [IntKind.wrap_i64]; omega
 have hb1:(0:Int)≤(i:Int)+(m:Int):=by omega
 have hin:i≤n:=by omega
 have htn:((i:Int)+(m:Int)).toNat=i+m:=by omega
 have hb2:¬ (c=i+m):=by omega
 have hb3:(i:Int)≤(n:Int)+(m:Int):=by omega
 have hb4:¬ (c=i):=by omega
 have hvl:([v]:List Value).length=m:=by rw [hm]; rfl
 have hcp1:∀ty dc sc,(Builtin.copy_ #[(ρ.t 24),(ρ.t 24)] ty #[.slice (some ⟨b,off+(i+m),none⟩) (n+m-(i+m)) dc,.slice (some ⟨b,off+i,none⟩) (n+m-i) sc]).run P w.drew=.ok (goInt (cs.drop i).length) (w.drew.setCells b (off+(i+m)) (cs.drop i)):=fun ty dc sc=>
  run_copy_cells w.drew _ _ ty (ρ.t 9) b (off+(i+m)) (n+m-(i+m)) dc ⟨b,off+i,none⟩ (n+m-i) sc (cs.drop i) L.t24 hsz (by rw [hdl]; simp only [Nat.min_def]; split <;> omega)
   (fun j u hj=>by rw [Addr.add_lit,fa]; exact hcs (i+j) u (by rwa [gz] at hj))
   (fun j hj=>by rw [fa]; exact hsp _ (by omega)) (fun j hj=>by rw [fa]; exact hfz _ (by omega)) (fun u hu=>h1c u (List.mem_of_mem_drop hu))
 obtain ⟨W1,hW1⟩:∃W1,W1=w.drew.setCells b (off+(i+m)) (cs.drop i):=⟨_,rfl⟩
 have hsp1:∀k,k<n+m→(W1.cell? ⟨b,off+k,none⟩).isSome=true:=fun k hk=>by
  rw [hW1];exact isSome_setCells b _ _ _ (fun j hj=>by rw [fa]; exact hsp _ (by omega)) _ (hsp k hk)
 have hcp2:∀(W:World),(∀x,W.cell? x=W1.cell? x)→(∀x,W.frozen? x=W1.frozen? x)→∀ty dc,(Builtin.copy_ #[(ρ.t 24),(ρ.t 24)] ty #[.slice (some ⟨b,off+i,none⟩) (n+m-i) dc,.slice (some ⟨vb,voff,none⟩) m vc]).run P W=.ok (goInt [v].length) (W.setCells b (off+i) [v]):=fun W hWc hWf ty dc=>
  run_copy_cells W _ _ ty (ρ.t 9) b (off+i) (n+m-i) dc ⟨vb,voff,none⟩ m vc [v] L.t24 hsz (by rw [hvl]; simp only [Nat.min_def]; split <;> omega)
   (fun j u hj=>by
    obtain rfl:j=0:=by
     have:=(aq.1 hj).1
     simpa using this
    rw [Addr.add_lit,hWc,hW1,World.cell?_setCells_out b _ _ _ _ (fun h _=>absurd h hvb)]
    obtain rfl:v=u:=by simpa using hj
    exact hvs)
   (fun j hj=>by rw [hWc,fa]; exact hsp1 _ (by omega)) (fun j hj=>by rw [hWf,hW1,World.frozen?_setCells,fa]; exact hfz _ (by omega)) (fun u hu=>by rw [bf.1 hu]; exact h1v)
 rw [←hW1] at hcp1;rw [←hW1];clear hm hW1
 go_enter L.f22,ti ρ
 go_wp2_with (simp only [hov])
 go_region_law_o (refine step_copy_runI rfl _ _ (ρ.t 24) (ρ.t 24) rfl _ _ (by simp [Act.eval,Act.put]) (by simp [Act.eval,Act.put]) (hcp1 _ _ _) ?_)
 go_wp2_with (at_builtin; refine wpList_copy_runI _ rfl _ _ (ρ.t 24) (ρ.t 24) rfl _ _ rfl rfl (hcp2 _ (fun _=>rfl) (fun _=>rfl) _ _) ?_)
 go_ret
 exact ⟨rfl,rfl⟩
set_option maxHeartbeats 4000000 in
set_option maxRecDepth 100000 in
theorem InsL.end_room (L:InsL P ρ) (b off n c vb voff vc:Nat) (v:Value) (w:World) (hroom:n+1≤c) (hc63:n+1≤9223372036854775807)
 (hsp:(w.cell? ⟨b,off+n,none⟩).isSome=true) (hfz:w.frozen? ⟨b,off+n,none⟩=false) (hvs:w.cell? ⟨vb,voff,none⟩=some v) (h1v:v.oneCell'=true) :
 Calls P (ρ.f 22) #[.slice (some ⟨b,off,none⟩) n c,.int .i64 n,.slice (some ⟨vb,voff,none⟩) 1 vc] w fun e w'=>
  e=.returned (.slice (some ⟨b,off,none⟩) (n+1) c)∧w'=w.setCells b (off+n) [v]:=by
 have t0:=L.t0; have t3:=L.t3; have a3:=L.a3; have z3:=L.z3; have v3:=L.v3; have t4:=L.t4; have a4:=L.a4; have z4:=L.z4; have v4:=L.v4; have a9:=L.a9; have z9:=L.z9; have v9:=L.v9; have t24:=L.t24; have a24:=L.a24; have z24:=L.z24; have v24:=L.v24;have u0:=run_underlying L.t0; have u3:=run_underlying L.t3; have u4:=run_underlying L.t4; have u24:=run_underlying L.t24;have mixed:=L.mixed;obtain ⟨m,hm⟩:∃m:Nat,m=1:=⟨1,rfl⟩;rw [←hm] at hroom hc63 ⊢;have hz1:¬ ((m:Int)=0):=by omega
 have hsrc:Src P 1 (ρ.t 24) (.slice (some ⟨vb,voff,none⟩) m vc) m [v] w:=Src.ofSlice w L.t24 ⟨vb,voff,none⟩ m vc [v] (by rw [hm]; rfl) (fun j u hj=>by
  obtain rfl:j=0:=by
   have:=(aq.1 hj).1
   simpa using this
  obtain rfl:v=u:=by simpa using hj
  rw [Addr.add_lit]; exact hvs) (fun u hu=>by rw [bf.1 hu]; exact h1v)
 have h0:∀j,j<([v]:List Value).length→j=0:=fun j hj=>by simpa using hj
 clear hm
 go_enter L.f22,ti ρ
 go_wp2_with (at_builtin; refine wpList_append_room1 _ rfl _ _ (ρ.t 24) (ρ.t 24) rfl (ρ.t 9) _ _ L.t24 L.i9 b off n c rfl _ rfl m [v] hsrc hroom (fun j hj=>by rw [h0 j hj]; exact hsp) (fun j hj=>by rw [h0 j hj]; exact hfz) ?_)
 go_ret
 exact ⟨rfl,rfl⟩
set_option maxHeartbeats 4000000 in
set_option maxRecDepth 100000 in
theorem InsL.end_grow (L:InsL P ρ) (base:Option Addr) (n c vb voff vc:Nat) (cs:List Value) (v:Value) (w:World) (hnc:n≤c) (hroom:c<n+1) (hbig:(n+1)*24≤140737488355328)
 (hcl:cs.length=n) (hnil:base=none→n=0) (hcs:∀a,base=some a→∀j u,cs[j]? = some u→w.cell? (a.add j)=some u) (hvs:w.cell? ⟨vb,voff,none⟩=some v) (h1v:v.oneCell'=true) :
 Calls P (ρ.f 22) #[.slice base n c,.int .i64 n,.slice (some ⟨vb,voff,none⟩) 1 vc] w fun e w'=>
  e=.returned (.slice (some ⟨w.heap.size,0,none⟩) (n+1) (grownCap w (n+1) c (ρ.t 9))) ∧
  w'=w.drew.alloc (.cells ((cs++[v]).toArray++Builtin.zeroCells (Value.slice none 0 0).cells (grownCap w (n+1) c (ρ.t 9)-(n+1))) (ρ.t 9)):=by
 have t0:=L.t0; have t3:=L.t3; have a3:=L.a3; have z3:=L.z3; have v3:=L.v3; have t4:=L.t4; have a4:=L.a4; have z4:=L.z4; have v4:=L.v4; have a9:=L.a9; have z9:=L.z9; have v9:=L.v9; have t24:=L.t24; have a24:=L.a24; have z24:=L.z24; have v24:=L.v24;have u0:=run_underlying L.t0; have u3:=run_underlying L.t3; have u4:=run_underlying L.t4; have u24:=run_underlying L.t24;have mixed:=L.mixed;obtain ⟨i0,hi0,hz0,hzs,hzb⟩:=info_parts L.i9;obtain ⟨m,hm⟩:∃m:Nat,m=1:=⟨1,rfl⟩;rw [←hm] at hroom hbig ⊢;have hz1:¬ ((m:Int)=0):=by omega
 have hsrc:Src P i0.size (ρ.t 24) (.slice (some ⟨vb,voff,none⟩) m vc) m [v] w:=by
  rw [hzs]
  exact Src.ofSlice w L.t24 ⟨vb,voff,none⟩ m vc [v] (by rw [hm]; rfl) (fun j u hj=>by
   obtain rfl:j=0:=by
    have:=(aq.1 hj).1
    simpa using this
   obtain rfl:v=u:=by simpa using hj
   rw [Addr.add_lit]; exact hvs) (fun u hu=>by rw [bf.1 hu]; exact h1v)
 have hold:(Builtin.firstCells i0.size n (.slice base n c)).run P w.drew=.ok cs.toArray w.drew:=by
  rw [hzs];cases base with
  | none=>
   have h0:=hnil rfl;subst h0;rw [fj.1 hcl];exact run_firstCells_none w.drew 1 0 0 c
  | some a=>exact run_firstCells_some w.drew 1 n a n c cs (by omega) (fun j u hj=>hcs a rfl j u hj)
 have hrun:∀ty,(Builtin.append_ #[(ρ.t 24),(ρ.t 24)] ty #[.slice base n c,.slice (some ⟨vb,voff,none⟩) m vc]).run P w=_:=fun ty=>
  run_append_grow_src w (ρ.t 24) (ρ.t 24) ty (ρ.t 9) i0 _ L.t24 hi0 hz0 base n c cs hold _ m [v] hsrc hroom (by omega) (by rw [hzb]; exact growslice_fits hroom hbig)
 clear hm
 go_enter L.f22,ti ρ
 cases base with
 | none=>
  have h0:=hnil rfl;subst h0
  go_wp2_with (at_builtin; refine Lib.wpList_append_run _ rfl _ _ _ _ rfl _ _ rfl rfl _ _ (hrun _) ?_)
  go_ret
  exact ⟨rfl,rfl⟩
 | some a=>
  obtain ⟨ab,ao,asp⟩:=a
  go_wp2_with (at_builtin; refine Lib.wpList_append_run _ rfl _ _ _ _ rfl _ _ rfl rfl _ _ (hrun _) ?_)
  all_goals (go_ret; exact ⟨rfl,rfl⟩)
set_option maxHeartbeats 4000000 in
set_option maxRecDepth 100000 in
theorem InsL.grow (L:InsL P ρ) (b off n c i vb voff vc:Nat) (cs:List Value) (v:Value) (w:World) (hi:i<n) (hnc:n≤c) (hroom:c<n+1) (hbig:(n+1)*24≤140737488355328) (hcl:cs.length=n)
 (hcs:∀j u,cs[j]? = some u→w.cell? ⟨b,off+j,none⟩=some u) (hvs:w.cell? ⟨vb,voff,none⟩=some v) (h1c:∀u∈cs,u.oneCell'=true) (h1v:v.oneCell'=true) :
 Calls P (ρ.f 22) #[.slice (some ⟨b,off,none⟩) n c,.int .i64 i,.slice (some ⟨vb,voff,none⟩) 1 vc] w fun e w'=>
  e=.returned (.slice (some ⟨w.heap.size,0,none⟩) (n+1) (grownCap w (n+1) c (ρ.t 9))) ∧
  w'=(((w.alloc (.cells ((cs.take i).toArray++Builtin.zeroCells (Value.slice none 0 0).cells (n+1-i)++Builtin.zeroCells (Value.slice none 0 0).cells (grownCap w (n+1) c (ρ.t 9)-(n+1))) (ρ.t 9))).drew.setCells w.heap.size i [v]).drew).setCells w.heap.size (i+1) (cs.drop i):=by
 have t0:=L.t0; have t3:=L.t3; have a3:=L.a3; have z3:=L.z3; have v3:=L.v3; have t4:=L.t4; have a4:=L.a4; have z4:=L.z4; have v4:=L.v4; have a9:=L.a9; have z9:=L.z9; have v9:=L.v9; have t24:=L.t24; have a24:=L.a24; have z24:=L.z24; have v24:=L.v24;have u0:=run_underlying L.t0; have u3:=run_underlying L.t3; have u4:=run_underlying L.t4; have u24:=run_underlying L.t24;have mixed:=L.mixed;obtain ⟨i0,hi0,hz0,hzs,hzb⟩:=info_parts L.i9;obtain ⟨m,hm⟩:∃m:Nat,m=1:=⟨1,rfl⟩;have hvl:([v]:List Value).length=m:=by rw [hm]; rfl
 rw [←hm] at hroom hbig ⊢;have hm0:0<m:=by omega
 have hz1:¬ ((m:Int)=0):=by omega
 have hz2:¬ ((i:Int)=(n:Int)):=by omega
 have hz3:(c:Int)<(n:Int)+(m:Int):=by omega
 have hsz:=L.one;have hbw:b<w.heap.size:=block_lt_of_cell (hcs 0 _ (b8 (by omega)))
 have hvw:vb<w.heap.size:=block_lt_of_cell hvs;have hkk:(n:Int)+(m:Int)-(i:Int)=((n+m-i:Nat):Int):=by omega
 have hik:i+(n+m-i)=n+m:=by omega
 have hold:(Builtin.firstCells i0.size i (.slice (some ⟨b,off,none⟩) i c)).run P w.drew=.ok (cs.take i).toArray w.drew:=by
  rw [hzs]
  exact run_firstCells_some w.drew 1 i ⟨b,off,none⟩ i c (cs.take i) (by rw [bv]; omega) (fun j u hj=>by
   rw [Addr.add_lit];rw [dx] at hj
   split at hj
   ·exact hcs j u hj
   ·cases hj)
 have hrz:∀ty,(Builtin.append_ #[(ρ.t 24),(ρ.t 3)] ty #[.slice (some ⟨b,off,none⟩) i c,.int .i64 ((n:Int)+(m:Int)-(i:Int))]).run P w =
  .ok (.slice (some ⟨w.heap.size,0,none⟩) (n+m) (grownCap w (n+m) c (ρ.t 9))) (w.drew.alloc (.cells ((cs.take i).toArray++Builtin.zeroCells (Value.slice none 0 0).cells (n+m-i)++Builtin.zeroCells (Value.slice none 0 0).cells (grownCap w (n+m) c (ρ.t 9)-(n+m))) (ρ.t 9))):=by
  intro ty;have h:=Lib.run_append_grow_zeros w (ρ.t 24) (ρ.t 3) ty (ρ.t 9) i0 _ .i64 .i64 L.t24 L.t3 hi0 hz0 (some ⟨b,off,none⟩) i c (cs.take i) hold (n+m-i) (by omega) (by omega) (by omega) (by omega) (by rw [hzb]; omega) (by rw [hzb,hik]; exact growslice_fits hroom hbig)
  rw [hik] at h;rw [hkk];exact h
 obtain ⟨G,hG⟩:∃G,G=grownCap w (n+m) c (ρ.t 9):=⟨_,rfl⟩;obtain ⟨ROW,hROW⟩:∃ROW:Array Value,ROW=(cs.take i).toArray++Builtin.zeroCells (Value.slice none 0 0).cells (n+m-i)++Builtin.zeroCells (Value.slice none 0 0).cells (G-(n+m)):=⟨_,rfl⟩;rw [←hG] at hrz ⊢;rw [←hROW] at hrz ⊢
 have hRl:n+m≤ROW.size:=by
  rw [hROW];simp [Builtin.zeroCells,Value.cells];omega
 obtain ⟨W1,hW1⟩:∃W1,W1=w.drew.alloc (.cells ROW (ρ.t 9)):=⟨_,rfl⟩;rw [←hW1] at hrz
 have hN:∀j,j<n+m→(W1.cell? ⟨w.heap.size,j,none⟩).isSome=true:=fun j hj=>by
  rw [hW1,World.cell?_alloc_at (w:=w.drew) ROW _ w.heap.size j rfl,jr (by omega)]; rfl
 have hNf:∀j,W1.frozen? ⟨w.heap.size,j,none⟩=false:=fun j=>by rw [hW1]; exact World.frozen?_alloc_at (w:=w.drew) ROW _ w.heap.size j rfl
 have hOb:∀j u,w.cell? ⟨b,j,none⟩=some u→W1.cell? ⟨b,j,none⟩=some u:=fun j u h=>by rw [hW1,World.cell?_alloc_past (w:=w.drew) _ b j hbw]; exact h
 have hOv:∀j u,w.cell? ⟨vb,j,none⟩=some u→W1.cell? ⟨vb,j,none⟩=some u:=fun j u h=>by rw [hW1,World.cell?_alloc_past (w:=w.drew) _ vb j hvw]; exact h
 have hcpA:∀(W:World),(∀x,W.cell? x=W1.cell? x)→(∀x,W.frozen? x=W1.frozen? x)→∀ty dc,(Builtin.copy_ #[(ρ.t 24),(ρ.t 24)] ty #[.slice (some ⟨w.heap.size,i,none⟩) (n+m-i) dc,.slice (some ⟨vb,voff,none⟩) m vc]).run P W=.ok (goInt [v].length) (W.setCells w.heap.size i [v]):=fun W hWc hWf ty dc=>
  run_copy_cells W _ _ ty (ρ.t 9) w.heap.size i (n+m-i) dc ⟨vb,voff,none⟩ m vc [v] L.t24 hsz (by rw [hvl]; simp only [Nat.min_def]; split <;> omega)
   (fun j u hj=>by
    obtain rfl:j=0:=by
     have:=(aq.1 hj).1
     simpa using this
    obtain rfl:v=u:=by simpa using hj
    rw [Addr.add_lit,hWc]; exact hOv _ v hvs)
   (fun j hj=>by rw [hWc]; exact hN _ (by omega)) (fun j hj=>by rw [hWf]; exact hNf _) (fun u hu=>by rw [bf.1 hu]; exact h1v)
 have hGn:n+m≤G:=by rw [hG]; exact grownCap_ge w _ _ _
 have hG63:G≤9223372036854775807:=by
  have:=grownCap_le_maxLen w (n+m) c (ρ.t 9) (by unfold maxLen; omega)
  rw [←hG] at this;unfold maxLen at this;omega
 have hGi:¬ (G=i):=by omega
 have hGim:¬ (G=i+m):=by omega
 have hci:¬ (c=i):=by omega
 have hbN:b≠w.heap.size:=by omega
 have hdl:(cs.drop i).length=n-i:=by rw [ej,hcl]
 have hcpB:∀(W:World),(∀x,W.cell? x=(W1.setCells w.heap.size i [v]).cell? x)→(∀x,W.frozen? x=(W1.setCells w.heap.size i [v]).frozen? x)→∀ty dc sc,(Builtin.copy_ #[(ρ.t 24),(ρ.t 24)] ty #[.slice (some ⟨w.heap.size,i+m,none⟩) (n+m-(i+m)) dc,.slice (some ⟨b,off+i,none⟩) (n-i) sc]).run P W=.ok (goInt (cs.drop i).length) (W.setCells w.heap.size (i+m) (cs.drop i)):=fun W hWc hWf ty dc sc=>
  run_copy_cells W _ _ ty (ρ.t 9) w.heap.size (i+m) (n+m-(i+m)) dc ⟨b,off+i,none⟩ (n-i) sc (cs.drop i) L.t24 hsz (by rw [hdl]; simp only [Nat.min_def]; split <;> omega)
   (fun j u hj=>by
    rw [Addr.add_lit,hWc,World.cell?_setCells_out _ _ _ _ _ (fun h _=>absurd h hbN),fa]
    exact hOb _ u (hcs (i+j) u (by rwa [gz] at hj)))
   (fun j hj=>by rw [hWc]; exact isSome_setCells _ _ _ _ (fun t ht=>hN _ (by omega)) _ (hN _ (by omega)))
   (fun j hj=>by rw [hWf,World.frozen?_setCells]; exact hNf _) (fun u hu=>h1c u (List.mem_of_mem_drop hu))
 subst hW1;have hE1:∀x,((w.alloc (.cells ROW (ρ.t 9))).drew).cell? x=(w.drew.alloc (.cells ROW (ρ.t 9))).cell? x:=fun x=>rfl
 have hE2:∀x,((w.alloc (.cells ROW (ρ.t 9))).drew).frozen? x=(w.drew.alloc (.cells ROW (ρ.t 9))).frozen? x:=fun x=>rfl
 have hF1:∀x,(((w.alloc (.cells ROW (ρ.t 9))).drew.setCells w.heap.size i [v]).drew).cell? x=((w.drew.alloc (.cells ROW (ρ.t 9))).setCells w.heap.size i [v]).cell? x:=fun x=>rfl
 have hF2:∀x,(((w.alloc (.cells ROW (ρ.t 9))).drew.setCells w.heap.size i [v]).drew).frozen? x=((w.drew.alloc (.cells ROW (ρ.t 9))).setCells w.heap.size i [v]).frozen? x:=fun x=>rfl
 have hw1:IntKind.i64.wrap ((i:Int)+(m:Int))=(i:Int)+(m:Int):=by rw [IntKind.wrap_i64]; omega
 have hb1:(0:Int)≤(i:Int)+(m:Int):=by omega
 have hin:i≤n:=by omega
 have htn:((i:Int)+(m:Int)).toNat=i+m:=by omega
 have hb3:(i:Int)≤(n:Int):=by omega
 clear hkk hik hold hROW hG hRl hm
 go_enter L.f22,ti ρ
 go_wp2_with (first
  | (at_builtin; refine Lib.wpList_append_run _ rfl _ _ _ _ rfl _ _ rfl rfl _ _ (hrz _) ?_)
  | (at_builtin; refine wpList_copy_runI _ rfl _ _ (ρ.t 24) (ρ.t 24) rfl _ _ rfl rfl (hcpA _ hE1 hE2 _ _) ?_)
  | (at_builtin; refine wpList_copy_runI _ rfl _ _ (ρ.t 24) (ρ.t 24) rfl _ _ rfl rfl (hcpB _ (fun _=>rfl) (fun _=>rfl) _ _ _) ?_))
 go_region_law_o (refine step_copy_runI rfl _ _ (ρ.t 24) (ρ.t 24) rfl (.slice (some ⟨w.heap.size,i+m,none⟩) (n+m-(i+m)) (G-(i+m))) (.slice (some ⟨b,off+i,none⟩) (n-i) (c-i)) (by simp [Act.eval,Act.put]) (by simp [Act.eval,Act.put]) (hcpB _ hF1 hF2 (ρ.t 3) (G-(i+m)) (c-i)) ?_)
 go_wp2
 go_ret
 exact ⟨rfl,rfl⟩
end Pe
namespace Pe
open Go
variable {P:Program} {num:Nat→Nat}
def Goes (P:Program) (num:Nat→Nat) (ops:Array Oper) (N np:Nat) (js:List Nat) (s s':St):Prop:=
 ∀(Q:Exit→Act→World→Prop) (rest:List Nat) (C:Cx) (φ:Loc) (a:Act),C.num=num→SR C φ s a.tmps→N≤a.tmps.size →
  (∀C' φ' a',C'.num=num→Runs np C C' φ φ' s.h s'.h→SR C' φ' s' a'.tmps→a'.tmps.size=a.tmps.size→a'.defers=a.defers→wpOps P ops Q rest a' C'.w)→wpOps P ops Q (js++rest) a C.w
theorem Goes.trans {ops:Array Oper} {N np:Nat} {js ks:List Nat} {s s1 s2:St} (h1:Goes P num ops N np js s s1) (h2:Goes P num ops N np ks s1 s2):Goes P num ops N np (js++ks) s s2:=by
 intro Q rest C φ a hC hs hN hK;rw [ig];refine h1 Q (ks++rest) C φ a hC hs hN fun C1 φ1 a1 k1 r1 hs1 z1 d1=>?_
 refine h2 Q rest C1 φ1 a1 k1 hs1 (by rw [z1]; exact hN) fun C2 φ2 a2 k2 r2 hs2 z2 d2=>?_
 exact hK C2 φ2 a2 k2 (r1.trans r2) hs2 (z2.trans z1) (d2.trans d1)
def orA (A B:ap):ap:=fun f vs bs=>match A f vs bs with
 | some r=>some r
 | none=>B f vs bs
theorem Yz {A B:ap} (ha:ma P num A) (hb:ma P num B):ma P num (orA A B):=by
 intro f vs bs ans h;unfold orA at h
 split at h
 ·rename_i r hr
  obtain rfl:=au h;exact ha f vs bs _ hr
 ·exact hb f vs bs ans h
theorem a3s {A B:ap} {f:Nat} {vs:List V} {bs:Heap} {r:Ans} (h:A f vs bs=some r):orA A B f vs bs=some r:=by
 simp [orA,h]
theorem a05 {A B:ap} {f:Nat} {vs:List V} {bs:Heap} {r:Ans} (h:B f vs bs=some r) (h0:A f vs bs=none):orA A B f vs bs=some r:=by
 simp [orA,h,h0]
end Pe
namespace Pe
open Go Go.Shelf
variable {P:Program} {num:Nat→Nat}
theorem P9 {C:Cx} {φ:Loc} {xs:List D} {v:D} {i n:Nat} {us:List Value} {vv:Value} (hr:HR C φ [.sl false .leaf xs,.sl false .leaf [v]]) (hb:∀b,C.I b→b<C.w.heap.size) (hn:xs.length=n) (hin:i≤n) (hus:RDs C .leaf xs us) (hvv:RDs C .leaf [v] [vv])
 {w':World} (bw:Option Nat) {b' o' c':Nat} (hl:C.w.heap.size≤b'∧bw=none∨φ 0 0=some (b',o')∧bw=some b')
 (hoth:∀b,b<C.w.heap.size→bw≠some b→w'.heap[b]? = C.w.heap[b]?) (hsize:C.w.heap.size≤w'.heap.size) (hos:w'.os=C.w.os) (hout:w'.output=C.w.output) (htape:w'.tape=C.w.tape) (hwd:∀b,Wide C.w w' b)
 {arr:Array Value} {el:TypeId} (hcell:w'.heap[b']? = some (.cells arr el (0,0))) (hins:∀j u,(us.take i++vv::us.drop i)[j]? = some u→arr[o'+j]? = some u) (hcap:o'+c'≤arr.size) (hc':n+1≤c') :
 ∃C' φ',C'.w=w'∧Step C C' φ φ' [.sl false .leaf xs,.sl false .leaf [v]] [Blk.toGone (.sl false .leaf xs),.sl false .leaf [v],.sl false .leaf (xs.take i++v::xs.drop i)] ∧
  Keeps C C' φ φ' [.sl false .leaf xs,.sl false .leaf [v]] [Blk.toGone (.sl false .leaf xs),.sl false .leaf [v],.sl false .leaf (xs.take i++v::xs.drop i)] (fun _=>False) ∧
  RX C' φ' [Blk.toGone (.sl false .leaf xs),.sl false .leaf [v],.sl false .leaf (xs.take i++v::xs.drop i)] (.sl 2 [] 0 (n+1) none) (.slice (some ⟨b',o',none⟩) (n+1) c'):=by
 have hbw:∀b,bw=some b→OwnB φ [.sl false .leaf xs,.sl false .leaf [v]] b:=fun b e=>by
  rcases hl with ⟨_,h⟩ | ⟨h1,h2⟩
  ·rw [h] at e; cases e
  ·obtain rfl:=au (h2.symm.trans e)
   exact ⟨0,0,_,_,rfl,rfl,by simp [Blk.parts],h1⟩
 have hC:C.Le { C with w:=w' }:=⟨rfl,fun _ g=>g,fun b g=>hoth b (hb b g) fun e=>OwnB.not_I hr (hbw b e) g⟩
 have hb1:∀b o,φ 1 0=some (b,o)→bw≠some b:=fun b o h1 e=>by
  rcases hl with ⟨_,h⟩ | ⟨h0,h2⟩
  ·rw [h] at e; cases e
  ·obtain rfl:=au (h2.symm.trans e)
   exact hr.inj 0 1 0 0 _ _ _ _ _ (.inl (by omega)) rfl rfl rfl rfl (by simp [Blk.parts]) (by simp [Blk.parts]) h0 h1
 have hnI:¬ C.I b':=fun g=>by
  rcases hl with ⟨h,_⟩ | ⟨_,h2⟩
  ·have:=hb b' g; omega
  ·exact OwnB.not_I hr (hbw b' h2) g
 have hul:=md _ _ _ hus;simp only [Sh.size,Nat.mul_one] at hul
 have hrd:RDs { C with w:=w' } .leaf (xs.take i++v::xs.drop i) (us.take i++vv::us.drop i):=by
  have h1:=sa i hus;have h2:=rx i hus;simp only [Sh.size,Nat.mul_one] at h1 h2;exact RDs.mono hC _ _ _ (pe h1 (pe (xs:=[v]) (us:=[vv]) hvv h2))
 have ilen:(xs.take i++v::xs.drop i).length=n+1:=by
  simp only [bu,bv,c7,ej]; omega
 let φ':Loc:=fun q m=>if q=2 then (if m=0 then some (b',o') else none) else φ q m
 have hφ2:φ' 2 0=some (b',o'):=rfl
 have hφo:∀q,q≠2→φ' q=φ q:=fun q hq=>by
  funext m
  show (if q=2 then _ else _)=_
  rw [if_neg hq]
 have st:Step C { C with w:=w' } φ φ' [.sl false .leaf xs,.sl false .leaf [v]] [Blk.toGone (.sl false .leaf xs),.sl false .leaf [v],.sl false .leaf (xs.take i++v::xs.drop i)]:=by
  refine Gk hr hb bw hbw hoth hsize hos hout htape hwd (fun q m=>if q=2 then (if bw=none then none else some (0,0)) else some (q,m)) ?_ ?_ ?_
  ·intro q m B b2 o2 hq hown hm hφq
   match q,hq with
   | 0,hq=>
    obtain rfl:=au hq;simp [Blk.toGone,Blk.own] at hown
   | 1,hq=>
    obtain rfl:=au hq;rw [hφo 1 (by omega)] at hφq
    exact ⟨_,o2,rfl,hown,hm,hφq⟩
   | 2,hq=>
    obtain rfl:=au hq;have hm0:m=0:=by simp [Blk.parts] at hm; omega
    subst hm0
    obtain ⟨rfl,rfl⟩:b'=b2∧o'=o2:=by
     have:=hφ2.symm.trans hφq
     simpa using this
    rcases hl with ⟨h,h2⟩ | ⟨h,h2⟩
    ·subst h2; simpa using h
    ·subst h2; exact ⟨_,o',rfl,rfl,by simp [Blk.parts],h⟩
   | q+3,hq=>simp at hq
  ·intro q m r k B B' hq hoq hm hr' hor hk hσ
   match q,r,hq,hr' with
   | 0,_,hq,_=>
    obtain rfl:=au hq;simp [Blk.toGone,Blk.own] at hoq
   | _,0,_,hr'=>
    obtain rfl:=au hr';simp [Blk.toGone,Blk.own] at hor
   | 1,1,_,_=>simpa using hσ
   | 1,2,_,_=>
    simp at hσ
   | 2,1,_,_=>
    simp at hσ
   | 2,2,hq,hr'=>
    obtain rfl:=au hq;obtain rfl:=au hr';simp [Blk.parts] at hm hk;exact ⟨rfl,by omega⟩
   | q+3,_,hq,_=>simp at hq
   | _,r+3,_,hr'=>simp at hr'
  ·intro q B hq
   match q,hq with
   | 0,hq=>
    obtain rfl:=au hq;simp [Blk.toGone,RB]
   | 1,hq=>
    obtain rfl:=au hq;rw [hφo 1 (by omega)]
    have h1:=hr.blk 1 _ rfl;simp only [RB] at h1 ⊢;cases e:φ 1 0 with
    | none=>rw [e] at h1; exact h1
    | some p=>
     obtain ⟨b,o⟩:=p;rw [e] at h1;obtain ⟨cs,g1,g2⟩:=h1;refine ⟨cs,RDs.mono hC _ _ _ g1,?_⟩;have hlt:=g2.lt;simp only [RAt,b9,if_false] at g2 ⊢;obtain ⟨g2,a2,e2,g3,g4⟩:=g2;exact ⟨g2,a2,e2,(hoth b hlt (hb1 b o e)).trans g3,g4⟩
   | 2,hq=>
    obtain rfl:=au hq;simp only [RB,hφ2];refine ⟨_,hrd,?_⟩;simp only [RAt,b9,if_false];exact ⟨hnI,arr,el,hcell,hins⟩
   | q+3,hq=>simp at hq
 refine ⟨{ C with w:=w' },φ',rfl,st,fun v u _ g=>?_,?_⟩
 ·refine RX.congr hC v u (fun k hk B hB=>?_) (fun k hk=>?_) hwd g
  ·match k,hB with
   | 0,hB=>
    obtain rfl:=au hB;exact ⟨_,rfl,Co _⟩
   | 1,hB=>
    obtain rfl:=au hB;exact ⟨_,rfl,.refl _⟩
   | k+2,hB=>simp at hB
  ·obtain ⟨B,hB,_⟩:=RX.refs v u g k hk
   refine hφo k ?_
   rintro rfl
   simp at hB
 ·simp only [RX]
  refine ⟨_,0,.leaf,n+1,_,c',rfl,by simp [Blk.run,ilen],by omega,rfl,hc',by simp,fun _=>⟨b',o',arr,el,(0,0),hφ2,by simp,hcell,?_⟩⟩
  simp only [Sh.size]; omega
theorem a67 {C:Cx} {v:D} {cs:List Value} (h:RDs C .leaf [v] cs):∃vv,cs=[vv]:=by
 have:=md _ _ _ h;simp only [Sh.size,gi,Nat.mul_one] at this;exact List.length_eq_one_iff.1 this
theorem aem {C:Cx} {xs:List D} {us:List Value} (h:RDs C .leaf xs us):∀u∈us,u.oneCell'=true:=fun u hu=>by rw [Eb]; exact I9 _ _ _ h u hu
theorem Dj {w:World} {b o:Nat} {a:Array Value} {el:TypeId} (h:w.heap[b]? = some (.cells a el (0,0))) {j:Nat} {u:Value} (hu:a[o+j]? = some u):w.cell? ⟨b,o+j,none⟩=some u:=by
 simp [World.cell?,h,hu]
theorem Il {w:World} {b o:Nat} {vs:List Value} {a:Array Value} {el:TypeId} (h:w.heap[b]? = some (.cells a el (0,0))) (hl:o+vs.length≤a.size) (k:Nat):Wide w (w.setCells b o vs) k:=by
 by_cases hk:k=b
 ·subst hk
  intro a2 el2 fz2 h2;obtain ⟨a',h3,h4,_⟩:=fy k vs o w a el (0,0) h hl;rw [h] at h2;simp only [a8,Obj.cells.injEq] at h2;obtain ⟨rfl,rfl,rfl⟩:=h2;exact ⟨a',el,_,h3,by omega⟩
 ·exact .of_eq (f7 b vs o w k hk)
theorem Ok {ρ:Ren} (L:InsL P ρ) {f:Nat} (hf:ρ.f 22=num f) {xs:List D} {v:D} {i:Nat} {cap:Option Nat} (hi:i≤xs.length) (hbig:xs.length<1000000)
 {C:Cx} {φ:Loc} {us:List Value} (hr:HR C φ [.sl false .leaf xs,.sl false .leaf [v]]) (hb:∀b,C.I b→b<C.w.heap.size) (hv:RXs C φ [.sl false .leaf xs,.sl false .leaf [v]] [.sl 0 [] 0 xs.length cap,.d (.int .i64 i),.sl 1 [] 0 1 (some 1)] us) :
 T7 P (num f) us C φ [.sl false .leaf xs,.sl false .leaf [v]] [Blk.toGone (.sl false .leaf xs),.sl false .leaf [v],.sl false .leaf (xs.take i++v::xs.drop i)] (.sl 2 [] 0 (xs.length+1) none):=by
 simp only [RXs] at hv;obtain ⟨u0,r0,rfl,h0,u1,r1,rfl,h1,u2,r2,rfl,h2,rfl⟩:=hv;obtain rfl:=mg (s:=⟨[],[.sl false .leaf xs,.sl false .leaf [v]]⟩) h1;simp only [RX] at h0 h2;obtain ⟨B0,base0,s0,m0,a,c,hB0,hrun0,hm0,rfl,hlc,hcap,hloc⟩:=h0;obtain rfl:=au hB0;simp only [Blk.run,a8,ah] at hrun0;obtain ⟨rfl,rfl,rfl⟩:=hrun0;obtain ⟨B1,base1,s1,m1,a1,c1,hB1,hrun1,hm1,rfl,hlc1,hcap1,hloc1⟩:=h2;obtain rfl:=au hB1;simp only [Blk.run,a8,ah] at hrun1;obtain ⟨rfl,rfl,rfl⟩:=hrun1;obtain ⟨vb,vo,varr,vel,vfz,hφ1,rfl,hvw,hvsz⟩:=hloc1 (by omega)
 simp only [Blk.part,ew,cd,Sh.size,Nat.mul_one] at hφ1 hvsz hloc;have hb1:=hr.blk 1 _ rfl;simp only [RB,hφ1] at hb1;obtain ⟨vcs,hvd,hvat⟩:=hb1;obtain ⟨vv,rfl⟩:=a67 hvd;simp only [RAt,b9,if_false] at hvat;obtain ⟨hvnI,varr2,vel2,hvw2,hvc⟩:=hvat
 obtain ⟨rfl,rfl,rfl⟩:varr=varr2∧vel=vel2∧vfz=(0,0):=by
  have:=hvw.symm.trans hvw2
  simpa using this
 have hvcell:C.w.cell? ⟨vb,vo,none⟩=some vv:=by
  have:=Dj (o:=vo) (j:=0) hvw (hvc 0 vv rfl)
  rwa [ew] at this
 have h1v:vv.oneCell'=true:=aem hvd vv (by simp)
 have hbody:O4 P (num f):=⟨Hp ρ,hf▸L.f22,Pc ρ,rfl⟩;refine ⟨hbody,?_⟩;rw [←hf];have hval:(⟨vb,vo+0+0*1,none⟩:Addr)=⟨vb,vo,none⟩:=by simp
 -- what is there
 have hold:∃us:List Value,RDs C .leaf xs us∧∀b o,φ 0 0=some (b,o)→¬ C.I b∧∃arr el,C.w.heap[b]? = some (.cells arr el (0,0))∧∀(j:Nat) u,us[j]? = some u→arr[o+j]? = some u:=by
  have g:=hr.blk 0 _ rfl;simp only [RB] at g;cases e:φ 0 0 with
  | none=>
   rw [e] at g;simp only at g;subst g;exact ⟨[],by simp [RDs],fun b o h=>by cases h⟩
  | some q=>
   obtain ⟨b,o⟩:=q;rw [e] at g;obtain ⟨us,g1,g2⟩:=g;simp only [RAt,b9,if_false] at g2;obtain ⟨g2,arr,el,g3,g4⟩:=g2;refine ⟨us,g1,fun b' o' h=>?_⟩
   simp only [a8,ah] at h;obtain ⟨rfl,rfl⟩:=h;exact ⟨g2,arr,el,g3,g4⟩
 obtain ⟨us,hus,hat⟩:=hold;have hul:=md _ _ _ hus;simp only [Sh.size,Nat.mul_one] at hul;have h1c:=aem hus
 by_cases hroom:xs.length+1≤c
 ·-- in place
  obtain ⟨b,o,arr,el,fz,hφ0,rfl,hw,hsz⟩:=hloc (by omega)
  obtain ⟨hnI,C9,el2,hw2,hcs⟩:=hat b o hφ0
  obtain ⟨rfl,rfl,rfl⟩:arr=C9∧el=el2∧fz=(0,0):=by
   have:=hw.symm.trans hw2
   simpa using this
  have hne:vb≠b:=fun e=>hr.inj 0 1 0 0 _ _ b o vo (.inl (by omega)) rfl rfl rfl rfl (by simp [Blk.parts]) (by simp [Blk.parts]) hφ0 (e▸hφ1)
  have hsp:∀j,j<xs.length+1→(C.w.cell? ⟨b,o+j,none⟩).isSome=true:=fun j hj=>by
   have hlt:o+j<arr.size:=by omega
   simp [World.cell?,hw,hlt]
  have hfz:∀j,C.w.frozen? ⟨b,j,none⟩=false:=fun j=>by simp [World.frozen?,hw]
  have hvfz:∀j,C.w.frozen? ⟨vb,j,none⟩=false:=fun j=>by simp [World.frozen?,hvw]
  by_cases he:i=xs.length
  ·subst he
   refine Calls.mono (L.end_room b o xs.length c vb vo c1 vv C.w hroom (by omega) (hsp _ (by omega)) (hfz _) hvcell h1v) ?_
   rintro e w' ⟨rfl,rfl⟩
   obtain ⟨arr',hw',hsz',hg⟩:=fy b [vv] (o+xs.length) C.w arr el (0,0) hw (by simp; omega)
   obtain ⟨r1,r2,r3,r4⟩:=ij b [vv] (o+xs.length) C.w
   obtain ⟨C',φ',k1,k2,k3,k4⟩:=P9 (i:=xs.length) hr hb rfl (bh _) hus hvd (some b) (.inr ⟨hφ0,rfl⟩) (fun q _ hq=>f7 b [vv] (o+xs.length) C.w q fun e=>hq (by rw [e])) (by omega) r2 r3 r4 (Il hw (by simp; omega)) hw'
    (c':=c) (fun j u hj=>by
     rw [hg]
     by_cases hjl:j<xs.length
     ·rw [if_neg (by omega)]
      rw [bt (by rw [bv]; omega),dx,if_pos hjl] at hj
      exact hcs j u hj
     ·rw [bq (by rw [bv]; omega),bv,show min xs.length us.length=xs.length by omega,List.drop_of_length_le (by omega)] at hj
      have:=(aq.1 hj).1;simp only [gi] at this;rw [if_pos (by simp; omega),show o+j-(o+xs.length)=j-xs.length by omega]
      exact hj) (by omega) (by omega)
   exact ⟨_,C',φ',rfl,k1,k2,k3,k4⟩
  ·have hlt:i<xs.length:=by omega
   have hsa:C.w.shape? vb=some (vel,varr.size):=by simp [World.shape?,hvw]
   have hsb:C.w.shape? b=some (el,arr.size):=by simp [World.shape?,hw]
   refine Calls.mono (L.shift b o xs.length c i vb vo c1 us vv C.w hlt hroom (by omega) hne hul (fun j u hj=>Dj hw (hcs j u hj)) hsp (fun j _=>hfz _) hvcell h1c h1v hsa hsb (by omega) (hvfz _) (hvfz _)) ?_
   rintro e w' ⟨rfl,rfl⟩
   have hwd:C.w.drew.heap[b]? = some (.cells arr el (0,0)):=hw;have hdl:(us.drop i).length=xs.length-i:=by rw [ej,hul]
   obtain ⟨arr1,hw1,hsz1,hg1⟩:=fy b (us.drop i) (o+(i+1)) C.w.drew arr el (0,0) hwd (by omega)
   obtain ⟨r1,r2,r3,r4⟩:=ij b (us.drop i) (o+(i+1)) C.w.drew;obtain ⟨C9,hw2',hsz2,hg2⟩:=fy b [vv] (o+i) _ arr1 el (0,0) hw1 (by simp; omega)
   obtain ⟨q1,q2,q3,q4⟩:=ij b [vv] (o+i) (C.w.drew.setCells b (o+(i+1)) (us.drop i))
   obtain ⟨C',φ',k1,k2,k3,k4⟩:=P9 (i:=i) hr hb rfl hi hus hvd (some b) (.inr ⟨hφ0,rfl⟩) (fun q _ hq=>(f7 b [vv] (o+i) _ q fun e=>hq (by rw [e])).trans (f7 b (us.drop i) (o+(i+1)) C.w.drew q fun e=>hq (by rw [e]))) (by rw [q1,r1]; exact bh _) (q2.trans r2) (q3.trans r3) (q4.trans r4)
    (fun k=>(Wide.of_eq (w:=C.w) (w':=C.w.drew) rfl).trans ((Il hwd (by omega) k).trans (Il hw1 (by simp; omega) k))) hw2'
    (c':=c) (fun j u hj=>by
     rw [hg2,hg1]
     by_cases hj1:j<i
     ·rw [if_neg (by simp; omega),if_neg (by omega)]
      rw [bt (by rw [bv]; omega),dx,if_pos hj1] at hj
      exact hcs j u hj
     ·rw [bq (by rw [bv]; omega),bv,show min i us.length=i by omega] at hj
      by_cases hj2:j=i
      ·subst hj2
       rw [io] at hj;rw [if_pos (by simp),io]
       exact hj
      ·obtain ⟨q,rfl⟩:∃q,j=i+1+q:=⟨j-i-1,by omega⟩
       rw [show i+1+q-i=q+1 by omega,kl] at hj
       have hql:=(aq.1 hj).1;rw [if_neg (by simp; omega),if_pos (by omega),show o+(i+1+q)-(o+(i+1))=q by omega]
       exact hj) (by omega) (by omega)
   exact ⟨_,C',φ',rfl,k1,k2,k3,k4⟩
 ·-- a new row
  have hcn:c=xs.length:=by omega
  subst hcn
  have hbase:∀q,a=some q→xs.length=0∨∃b o,q=⟨b,o,none⟩∧φ 0 0=some (b,o):=fun q e=>by
   by_cases h0:xs.length=0
   ·exact .inl h0
   ·obtain ⟨b,o,arr,el,fz,hφ0,hq,_,_⟩:=hloc (by omega)
    exact .inr ⟨b,o,au (e.symm.trans hq),hφ0⟩
  have hcsa:∀q,a=some q→∀j u,us[j]? = some u→C.w.cell? (q.add j)=some u:=fun q e j u hj=>by
   have hjl:=(aq.1 hj).1;rcases hbase q e with h0 | ⟨b,o,rfl,hφ0⟩
   ·omega
   ·obtain ⟨_,arr,el,hw,hcs⟩:=hat b o hφ0
    rw [lf];exact Dj hw (hcs j u hj)
  have hall:∀(w':World) (arr:Array Value) (el:TypeId),(∀q,q<C.w.heap.size→w'.heap[q]? = C.w.heap[q]?)→C.w.heap.size≤w'.heap.size→w'.os=C.w.os→w'.output=C.w.output→w'.tape=C.w.tape→w'.heap[C.w.heap.size]? = some (.cells arr el (0,0)) →
   (∀j u,(us.take i++vv::us.drop i)[j]? = some u→arr[j]? = some u)→∀c',xs.length+1≤c'→c'≤arr.size →
   ∃u C' φ',Ending.returned (Value.slice (some ⟨C.w.heap.size,0,none⟩) (xs.length+1) c')=.returned u∧C'.w=w'∧Step C C' φ φ' [.sl false .leaf xs,.sl false .leaf [v]] [Blk.toGone (.sl false .leaf xs),.sl false .leaf [v],.sl false .leaf (xs.take i++v::xs.drop i)] ∧
    Keeps C C' φ φ' [.sl false .leaf xs,.sl false .leaf [v]] [Blk.toGone (.sl false .leaf xs),.sl false .leaf [v],.sl false .leaf (xs.take i++v::xs.drop i)] (fun _=>False)∧RX C' φ' [Blk.toGone (.sl false .leaf xs),.sl false .leaf [v],.sl false .leaf (xs.take i++v::xs.drop i)] (.sl 2 [] 0 (xs.length+1) none) u:=fun w' arr el hoth hsize hos hout htape hcell hins c' hc1 hc2=>by
   obtain ⟨C',φ',k1,k2,k3,k4⟩:=P9 (i:=i) hr hb rfl hi hus hvd none (.inl ⟨bh _,rfl⟩) (fun q hq _=>hoth q hq) hsize hos hout htape (Wide.of_lt hoth) hcell (o':=0) (c':=c') (fun j u hj=>by rw [cd]; exact hins j u hj) (by omega) hc1
   exact ⟨_,C',φ',rfl,k1,k2,k3,k4⟩
  by_cases he:i=xs.length
  ·subst he
   refine Calls.mono (L.end_grow a xs.length xs.length vb vo c1 us vv C.w (bh _) (by omega) (by omega) hul (fun e=>by
    by_cases h0:xs.length=0
    ·exact h0
    ·obtain ⟨b,o,arr,el,fz,hφ0,hq,_,_⟩:=hloc (by omega)
     rw [e] at hq; cases hq) hcsa hvcell h1v) ?_
   rintro e w' ⟨rfl,rfl⟩
   have hge:=grownCap_ge C.w (xs.length+1) xs.length (ρ.t 9);refine hall _ _ _ (fun q hq=>dm C.w.drew _ _ hq) (by show C.w.heap.size≤(C.w.heap.push _).size; simp) rfl rfl rfl (o6 C.w.drew _) (fun j u hj=>?_) _ hge ?_
   ·rw [bg (by omega),List.drop_of_length_le (by omega)] at hj
    have hjl:=(aq.1 hj).1;rw [jh (by simpa using hjl)]
    simpa using hj
   ·simp [Builtin.zeroCells,Value.cells]
    omega
  ·have hlt:i<xs.length:=by omega
   obtain ⟨b,o,arr,el,fz,hφ0,rfl,hw,_⟩:=hloc (by omega)
   obtain ⟨_,C9,el2,hw2,hcs⟩:=hat b o hφ0;refine Calls.mono (L.grow b o xs.length xs.length i vb vo c1 us vv C.w hlt (bh _) (by omega) (by omega) hul (fun j u hj=>Dj hw2 (hcs j u hj)) hvcell h1c h1v) ?_
   rintro e w' ⟨rfl,rfl⟩
   have hge:=grownCap_ge C.w (xs.length+1) xs.length (ρ.t 9);generalize grownCap C.w (xs.length+1) xs.length (ρ.t 9)=G at *;have hdl:(us.drop i).length=xs.length-i:=by rw [ej,hul]
   obtain ⟨ROW,hROW⟩:∃ROW:Array Value,ROW=(us.take i).toArray++Builtin.zeroCells (Value.slice none 0 0).cells (xs.length+1-i)++Builtin.zeroCells (Value.slice none 0 0).cells (G-(xs.length+1)):=⟨_,rfl⟩
   have hRs:ROW.size=G:=by
    rw [hROW];simp [Builtin.zeroCells,Value.cells];omega
   have hR0:∀j u,j<i→us[j]? = some u→ROW[j]? = some u:=fun j u hj hu=>by
    rw [hROW,Array.append_assoc,jh (by simp; omega)]
    simp only [List.getElem?_toArray];rw [dx,if_pos hj];exact hu
   rw [←hROW];have hwn:((C.w.alloc (.cells ROW (ρ.t 9))).drew).heap[C.w.heap.size]? = some (.cells ROW (ρ.t 9) (0,0)):=o6 C.w _;obtain ⟨A1,hA1,hs1,hg1⟩:=fy C.w.heap.size [vv] i ((C.w.alloc (.cells ROW (ρ.t 9))).drew) ROW (ρ.t 9) (0,0) hwn (by simp; omega)
   obtain ⟨r1,r2,r3,r4⟩:=ij C.w.heap.size [vv] i ((C.w.alloc (.cells ROW (ρ.t 9))).drew);obtain ⟨A2,hA2,hs2,hg2⟩:=fy C.w.heap.size (us.drop i) (i+1) (((C.w.alloc (.cells ROW (ρ.t 9))).drew.setCells C.w.heap.size i [vv]).drew) A1 (ρ.t 9) (0,0) hA1 (by omega)
   obtain ⟨q1,q2,q3,q4⟩:=ij C.w.heap.size (us.drop i) (i+1) (((C.w.alloc (.cells ROW (ρ.t 9))).drew.setCells C.w.heap.size i [vv]).drew)
   have hsz0:C.w.heap.size≤((C.w.alloc (.cells ROW (ρ.t 9))).drew).heap.size:=by
    show C.w.heap.size≤(C.w.heap.push _).size;simp
   refine hall _ A2 _ (fun q hq=>?_) (by rw [q1]; show _≤((C.w.alloc (.cells ROW (ρ.t 9))).drew.setCells C.w.heap.size i [vv]).heap.size; rw [r1]; exact hsz0) (q2.trans r2) (q3.trans r3) (q4.trans r4) hA2 (fun j u hj=>?_) _ hge (by omega)
   ·refine (f7 C.w.heap.size (us.drop i) (i+1) _ q (by omega)).trans ?_
    show ((C.w.alloc (.cells ROW (ρ.t 9))).drew.setCells C.w.heap.size i [vv]).heap[q]? = _;exact (f7 C.w.heap.size [vv] i _ q (by omega)).trans (dm C.w _ _ hq)
   ·rw [hg2,hg1]
    by_cases hj1:j<i
    ·rw [if_neg (by omega),if_neg (by simp; omega)]
     rw [bt (by rw [bv]; omega),dx,if_pos hj1] at hj
     exact hR0 j u hj1 hj
    ·rw [bq (by rw [bv]; omega),bv,show min i us.length=i by omega] at hj
     by_cases hj2:j=i
     ·subst hj2
      rw [io] at hj;rw [if_neg (by omega),if_pos (by simp),io]
      exact hj
     ·obtain ⟨q,rfl⟩:∃q,j=i+1+q:=⟨j-i-1,by omega⟩
      rw [show i+1+q-i=q+1 by omega,kl] at hj
      have hql:=(aq.1 hj).1;rw [if_pos (by omega),show i+1+q-(i+1)=q by omega]
      exact hj
def a0q (ids:Nat→Bool):ap:=fun f vs bs=>
 if ids f=true then match vs with
  | [.sl 0 [] 0 n _,.d (.int .i64 (.ofNat i)),.sl 1 [] 0 1 (some 1)]=>match bs with
   | [.sl false .leaf xs,.sl false .leaf [v]]=>if n=xs.length∧i≤n∧n<1000000 then some (.sl 2 [] 0 (n+1) none,[Blk.toGone (.sl false .leaf xs),.sl false .leaf [v]],[.sl false .leaf (xs.take i++v::xs.drop i)]) else none
   | _=>none
  | _=>none
 else none
theorem a8i {ids:Nat→Bool} {f:Nat} (h1:ids f=true) {xs:List D} {v:D} {n i:Nat} {cap:Option Nat} (hn:xs.length=n) (hi:i≤n) (hb:n<1000000) :
 a0q ids f [.sl 0 [] 0 n cap,.d (.int .i64 i),.sl 1 [] 0 1 (some 1)] [.sl false .leaf xs,.sl false .leaf [v]]=some (.sl 2 [] 0 (n+1) none,[Blk.toGone (.sl false .leaf xs),.sl false .leaf [v]],[.sl false .leaf (xs.take i++v::xs.drop i)]):=by
 unfold a0q;rw [if_pos h1];show (if n=xs.length∧i≤n∧n<1000000 then _ else _)=_
 rw [if_pos ⟨hn.symm,hi,hb⟩]
theorem Uf {ids:Nat→Bool} (hids:∀f,ids f=true→∃ρ,InsL P ρ∧ρ.f 22=num f):ma P num (a0q ids):=by
 intro f vs bs ans h C φ us hC hr hb hv;unfold a0q at h
 split at h
 ·rename_i hf
  split at h
  ·rename_i n cap i
   split at h
   ·rename_i xs v
    split at h
    ·rename_i hc
     obtain ⟨rfl,h2,h3⟩:=hc;obtain rfl:=au h;obtain ⟨ρ,L,hρ⟩:=hids f hf;exact ⟨rfl,Ok L hρ h2 h3 hr hb hv⟩
    ·cases h
   ·cases h
  ·cases h
 ·cases h
end Pe

/-
 Functions of the laws in the small form,printed by a program.
-/
namespace Pe
open Go
def Z1y_B:Cd:=
 Irg [Ll 2 (.mv (.c (.bool false)))] [0]
 (Irg [Lw 3 0,
 Ien 4 3,
 Ibc 5 .gtr 4 4096,
 Lw 2 5] [2]
 (.ret))
def Z1y:Fn:=
 { nparams:=1,nblk:=0,results:=[.tmp 2],body:=Z1y_B }
end Pe

/-
 Functions of the program in the small form,printed by a program.
-/
namespace Pe
open Go
def Z1f_B:Cd:=
 Irg [Imc 4 0] [0,1]
 (Irg [Lw 5 1,
 Ien 6 5,
 Lw 7 0,
 Ien 8 7,
 Ibn 9 .sub 6 8,
 Lw 4 9] [4]
 (.ret))
def Z1f:Fn:=
 { nparams:=2,nblk:=0,results:=[.tmp 4],body:=Z1f_B }
def Z1e_L0:Cd:=
 Irg [Ibn 21 .lss 20 19] [0,5,7,12,13,14,18,19,20,21]
 (.seq (Icd 21
 (.skip)
 (.exit 2))
 (.seq (.block 3 (Irg [Iia 22 .leaf 18 20,
 Ilx 23 22,
 Lw 9 23] [0,5,7,9,12,13,14,18,19,20]
 (.region [Lw 24 0,
 Lw 25 7,
 Lw 26 9,
 Lw 27 7,
 Lw 28 9,
 Ien 29 28,
 Ibc 30 .sub 29 1,
 Ll 31 (Ofx F1p [(.t 27),(.t 30)]),
 Ll 32 (.un .neg (.t 31)),
 Ll 33 (Opx F12 [(.t 24),(.t 25),(.t 26),(.t 32)]),
 Lw 7 33] [0,5,7,12,13,14,18,19,20])))
 (.region [Ibc 34 .add 20 1,
 Lw 20 34] [0,5,7,12,13,14,18,19,20])))
def Z1e_L1:Cd:=
 Irg [Ibn 48 .lss 47 46] [0,5,7,12,13,14,45,46,47,48]
 (.seq (Icd 48
 (.skip)
 (.exit 4))
 (.seq (.block 5 (Irg [Lw 49 47,
 Iia 50 .leaf 45 47,
 Ilx 51 50,
 Lw 10 49,
 Lw 11 51] [0,5,7,10,11,12,13,14,45,46,47]
 (.region [Lw 52 5,
 Lw 53 10,
 Lw 54 0,
 Lw 55 11,
 Lw 56 7,
 Lw 57 11,
 Lw 58 7,
 Ien 59 58,
 Ibc 60 .sub 59 1,
 Ll 61 (Ofx F1p [(.t 57),(.t 60)]),
 Ll 62 (.un .neg (.t 61)),
 Ll 63 (Opx F12 [(.t 54),(.t 55),(.t 56),(.t 62)]),
 Iia 64 .leaf 52 53,
 Ls (.store false .leaf (.t 64) (.t 63))] [0,5,7,12,13,14,45,46,47])))
 (.region [Ibc 65 .add 47 1,
 Lw 47 65] [0,5,7,12,13,14,45,46,47])))
def Z1e_L2:Cd:=
 Irg [Ibn 15 .lss 14 13] [0,5,12,13,14,15]
 (.seq (Icd 15
 (.skip)
 (.exit 0))
 (.seq (.block 1 (Irg [Iia 16 .leaf 12 14,
 Ilx 17 16,
 Lw 7 17] [0,5,7,12,13,14]
 (.seq (Irg [Lw 18 5,
 Ien 19 18,
 Imc 20 0] [0,5,7,12,13,14,18,19,20]
 (.block 2 (.loop (Z1e_L0))))
 (.seq (Irg [Lw 35 7,
 Ien 36 35,
 Ibc 37 .eql 36 0] [0,5,7,12,13,14,37]
 (Icd 37
 (.exit 1)
 (.skip)))
 (Irg [Lw 38 0,
 Lw 39 7,
 Lw 40 0,
 Lw 41 7,
 Ll 42 (Ofx F1s [(.t 41)]),
 Ll 43 (Ofx F17 [(.t 40),(.t 42)]),
 Ll 44 (Opx F1j [(.t 38),(.t 39),(.t 43)]),
 Lw 7 44] [0,5,7,12,13,14]
 (.seq (Irg [Lw 45 5,
 Ien 46 45,
 Imc 47 0] [0,5,7,12,13,14,45,46,47]
 (.block 4 (.loop (Z1e_L1))))
 (Irg [Lw 66 5,
 Lw 67 7,
 Ll 68 (.buildSl false 1 .leaf (.sl .leaf []) 1 [(0,(.t 67))]),
 Ll 69 (.append .leaf 2 24 (.t 66) (.t 68)),
 Lw 5 69] [0,5,12,13,14]
 (.region [Lw 70 5,
 Ll 71 (.call .heap [] (.f F2b) [(.t 70),(.f F1f)])] [0,5,12,13,14]))))))))
 (.region [Ibc 72 .add 14 1,
 Lw 14 72] [0,5,12,13,14])))
def Z1e_B:Cd:=
 Irg [Ll 4 (.mv (.c (.sl .leaf [])))] [0,1]
 (Irg [Ll 5 (.nilOwn 0 .leaf)] [0,1,5]
 (.seq (Irg [Lw 12 1,
 Ien 13 12,
 Imc 14 0] [0,5,12,13,14]
 (.block 0 (.loop (Z1e_L2))))
 (Irg [Lw 73 5,
 Lw 4 73] [4]
 (.ret))))
def Z1e:Fn:=
 { nparams:=2,nblk:=3,results:=[.tmp 4],body:=Z1e_B }
end Pe

/-
 Functions of the program in the small form,printed by a program.
-/
namespace Pe
open Go
def Z19_B:Cd:=
 Irg [Ll 6 (.mv (.c (.sl .leaf [])))] [0,1,2]
 (Irg [Lw 10 0,
 Lw 11 0,
 Lw 12 1,
 Lw 13 2,
 Ll 14 (Opx F1m [(.t 11),(.t 12),(.t 13)]),
 Lw 15 0,
 Lw 16 1,
 Lw 17 2,
 Ll 18 (Opx F16 [(.t 15),(.t 16),(.t 17)]),
 Ll 19 (Opx F13 [(.t 10),(.t 14),(.t 18)]),
 Lw 9 19,
 Iex 20 9 0,
 Iex 21 9 1,
 Lw 7 20,
 Lw 8 21] [7]
 (Irg [Lw 22 7,
 Lw 6 22] [6]
 (.ret)))
def Z19:Fn:=
 { nparams:=3,nblk:=0,results:=[.tmp 6],body:=Z19_B }
def Z1h_B:Cd:=
 Irg [Ll 3 (.mv (.c (.bool false)))] [0,1]
 (Irg [Lw 4 0,
 Ien 5 4,
 Ilx 6 1,
 Ien 7 6,
 Ibn 8 .lss 5 7,
 Lw 3 8] [3]
 (.ret))
def Z1h:Fn:=
 { nparams:=2,nblk:=0,results:=[.tmp 3],body:=Z1h_B }
def Z1g_L0:Cd:=
 Irg [Ibn 27 .lss 26 25] [0,1,5,6,7,8,9,24,25,26,27]
 (.seq (Icd 27
 (.skip)
 (.exit 2))
 (.seq (.block 3 (Irg [Lw 28 26,
 Iia 29 .leaf 24 26,
 Ilx 30 29,
 Lw 10 28,
 Lw 11 30] [0,1,5,6,7,8,9,10,11,24,25,26]
 (Irg [Ilx 31 8,
 Lw 32 11,
 Ien 33 32,
 Ibc 34 .sub 33 1,
 Ll 35 (Ofx F1p [(.t 31),(.t 34)]),
 Ll 36 (.un .neg (.t 35)),
 Lw 37 0,
 Lw 38 11,
 Ll 39 (Ofx F1s [(.t 38)]),
 Ll 40 (Ofx F17 [(.t 37),(.t 39)]),
 Ibn 41 .mul 36 40,
 Lw 12 41] [0,1,5,6,7,8,9,10,11,12,24,25,26]
 (.region [Lw 42 0,
 Ilx 43 8,
 Lw 44 11,
 Lw 45 12,
 Ll 46 (Opx F12 [(.t 42),(.t 43),(.t 44),(.t 45)]),
 Lw 47 0,
 Lw 48 9,
 Lw 49 6,
 Lw 50 10,
 Iia 51 .leaf 49 50,
 Ilx 52 51,
 Lw 53 12,
 Ll 54 (.call .data [] (.f F12) [(.t 47),(.t 48),(.t 52),(.t 53)]),
 Ls (.store false .leaf (.t 8) (.t 46)),
 Lw 9 54] [0,1,5,6,7,8,9,24,25,26]))))
 (.region [Ibc 55 .add 26 1,
 Lw 26 55] [0,1,5,6,7,8,9,24,25,26])))
def Z1g_L1:Cd:=
 .seq (.block 1 (Irg [Lw 16 1,
 Ll 17 (.call .heap [] (.t 16) []),
 Ll 8 (.box false 2 (.c (.sl .leaf []))),
 Ls (.store false .leaf (.t 8) (.t 17))] [0,1,5,6,7,8]
 (Irg [Lw 18 7,
 Ibc 19 .add 18 1,
 Ll 20 (.mkSl 3 .leaf (.int .i64 0) 8 (.t 19) (.t 19)),
 Lw 9 20] [0,1,5,6,7,8,9]
 (Irg [Lw 21 9,
 Lw 22 7,
 Iia 23 .leaf 21 22,
 Ls (.store false .leaf (.t 23) (Acx 1))] [0,1,5,6,7,8,9]
 (.seq (Irg [Lw 24 5,
 Ien 25 24,
 Imc 26 0] [0,1,5,6,7,8,9,24,25,26]
 (.block 2 (.loop (Z1g_L0))))
 (.seq (Irg [Ilx 56 8,
 Ien 57 56,
 Ibc 58 .eql 57 0] [0,1,5,6,7,8,9,58]
 (Icd 58
 (Irg [Lw 59 9,
 Lw 4 59] [4]
 (.ret))
 (.skip)))
 (Irg [Lw 60 5,
 Ll 61 (.mkFn F1h [] [(.t 8)]),
 Ll 62 (Ofx F27 [(.t 60),(.t 61)]),
 Lw 13 62] [0,1,5,6,7,8,9,13]
 (.seq (Irg [Lw 63 13,
 Ibc 64 .lss 63 0] [0,1,5,6,7,8,9,13,64]
 (Icd 64
 (.region [Lw 65 5,
 Ien 66 65,
 Lw 13 66] [0,1,5,6,7,8,9,13])
 (.skip)))
 (.region [Lw 67 5,
 Lw 68 13,
 Ilx 69 8,
 Ll 70 (.buildSl false 4 .leaf (.sl .leaf []) 1 [(0,(.t 69))]),
 Ll 71 (.call .heap [5,6] (.f F28) [(.t 67),(.t 68),(.t 70)]),
 Lw 72 6,
 Lw 73 13,
 Lw 74 9,
 Ll 75 (.buildSl true 7 .leaf (.sl .leaf []) 1 [(0,(.t 74))]),
 Ll 76 (.call .heap [8,9] (.f F28) [(.t 72),(.t 73),(.t 75)]),
 Lw 5 71,
 Lw 6 76] [0,1,5,6,7])))))))))
 (.region [Lw 14 7,
 Ibc 15 .add 14 1,
 Lw 7 15] [0,1,5,6,7])
def Z1g_B:Cd:=
 Irg [Ll 4 (.mv (.c (.sl .leaf [])))] [0,1]
 (Irg [Ll 5 (.nilOwn 0 .leaf),
 Ll 6 (.nilOwn 1 .leaf)] [0,1,5,6]
 (Irg [Imc 7 0] [0,1,5,6,7]
 (.block 0 (.loop (Z1g_L1)))))
def Z1g:Fn:=
 { nparams:=2,nblk:=10,results:=[.tmp 4],body:=Z1g_B }
def Z1k_B:Cd:=
 Irg [Ll 6 (.mv (.c (.sl .leaf [])))] [0,1,2]
 (Irg [Lw 7 0,
 Lw 8 0,
 Lw 9 0,
 Ll 10 (Opx Fu []),
 Lw 11 1,
 Ll 12 (Opx F1m [(.t 9),(.t 10),(.t 11)]),
 Lw 13 0,
 Lw 14 1,
 Lw 15 0,
 Lw 16 2,
 Ll 17 (Opx F1c [(.t 13),(.t 14),(.t 15),(.t 16)]),
 Ll 18 (Opx F12 [(.t 8),(.t 12),(.t 17),(Acx 1)]),
 Lw 19 2,
 Ll 20 (Opx F1i [(.t 7),(.t 18),(.t 19)]),
 Lw 6 20] [6]
 (.ret))
def Z1k:Fn:=
 { nparams:=3,nblk:=0,results:=[.tmp 6],body:=Z1k_B }
def Z10_B:Cd:=
 Irg [Ll 3 (.mv (.c (.sl .leaf [])))] [0,1,2]
 (Irg [Ilx 5 0,
 Lw 4 5] [0,1,2,4]
 (Irg [Ilx 6 1,
 Ilx 7 0,
 Ilx 8 2,
 Ll 9 (Opx F1k [(.t 6),(.t 7),(.t 8)]),
 Ls (.store false .leaf (.t 0) (.t 9))] [4]
 (Irg [Lw 10 4,
 Lw 3 10] [3]
 (.ret))))
def Z10:Fn:=
 { nparams:=3,nblk:=0,results:=[.tmp 3],body:=Z10_B }
def Zz_B:Cd:=
 Irg [Ibx 3 0 0,
 Ibx 4 1 1,
 Ibx 5 2 2,
 Ll 6 (.mv (.c (.sl .leaf [])))] [3,4,5]
 (Irg [Ilx 7 3,
 Ilx 8 4,
 Ilx 9 5,
 Ll 10 (Opx F1i [(.t 7),(.t 8),(.t 9)]),
 Ls (.store false .leaf (.t 4) (.t 10))] [3,4,5]
 (Irg [Ilx 11 3,
 Ll 12 (.mkFn F10 [] [(.t 4),(.t 3),(.t 5)]),
 Ll 13 (.call .heap [3] (.f F1g) [(.t 11),(.t 12)]),
 Lw 6 13] [6]
 (.ret)))
def Zz:Fn:=
 { nparams:=3,nblk:=4,results:=[.tmp 6],body:=Zz_B }
def Zc_L0:Cd:=
 Irg [Ibn 25 .lss 24 23] [4,7,8,9,23,24,25]
 (.seq (Icd 25
 (.skip)
 (.exit 0))
 (.seq (.block 1 (Irg [Lw 26 24,
 Lw 10 26] [4,7,8,9,10,23,24]
 (.region [Lw 27 7,
 Lw 28 9,
 Lw 29 7,
 Lw 30 7,
 Lw 31 7,
 Lw 32 10,
 Ll 33 (Ofx F1a [(.t 31),(.t 32),(Acx 1099511627776)]),
 Ll 34 (Opx F1b [(.t 30),(.t 33)]),
 Lw 35 8,
 Ll 36 (Opx Fz [(.t 29),(.t 34),(.t 35)]),
 Ll 37 (.call .data [] (.f F19) [(.t 27),(.t 28),(.t 36)]),
 Lw 9 37] [4,7,8,9,23,24])))
 (.region [Ibc 38 .add 24 1,
 Lw 24 38] [4,7,8,9,23,24])))
def Zc_B:Cd:=
 Irg [Ibx 3 0 1,
 Ibz 4 1,
 Imc 5 0] [0,3,4]
 (.seq (Irg [Lw 11 0,
 Ipx 12 3,
 Ll 13 (.call .heap [] (.f Fv) [(.t 11),(.t 12),(.c (.nils Sx6))]),
 Lw 6 13] [0,3,4,6]
 (Irg [Lw 14 6,
 Ibc 15 .neq 14 0] [0,3,4,6,15]
 (Icd 15
 (Irg [Iz6 16,
 Lw 17 6,
 Ls (.store false Sx6 (.t 4) (.t 16)),
 Lw 5 17] [4,5]
 (.ret))
 (.skip))))
 (Irg [Lw 18 0,
 Ipx 19 3,
 Ll 20 (Opx F1o [(.t 19)]),
 Lw 7 18,
 Lw 8 20] [4,7,8]
 (Irg [Ll 21 (.buildSl false 2 .leaf (.int .i64 0) 1 [(0,(Acx 1))]),
 Lw 9 21] [4,7,8,9]
 (.seq (Irg [Lw 22 8,
 Ll 23 (Ofx F1q [(.t 22)]),
 Imc 24 0] [4,7,8,9,23,24]
 (.block 0 (.loop (Zc_L0))))
 (Irg [Lw 39 9,
 Ll 40 (Ofx F1v [(.t 39)]),
 Iex 41 40 0,
 Iex 42 40 1,
 Ls (.store false Sx6 (.t 4) (.t 41)),
 Lw 5 42] [4,5]
 (.ret))))))
def Zc:Fn:=
 { nparams:=2,nblk:=3,results:=[.cell 4 Sx6,.tmp 5],body:=Zc_B }
def Zy_L0:Cd:=
 Irg [Ibn 19 .lss 18 17] [0,2,3,9,16,17,18,19]
 (.seq (Icd 19
 (.skip)
 (.exit 0))
 (.seq (.block 1 (Irg [Iia 20 .leaf 16 18,
 Ilx 21 20,
 Lw 11 21] [0,2,3,9,11,16,17,18]
 (Irg [Lw 22 0,
 Lw 23 9,
 Lw 24 2,
 Lw 25 11,
 Ll 26 (Opx F12 [(.t 22),(.t 23),(.t 24),(.t 25)]),
 Lw 9 26] [0,2,3,9,16,17,18]
 (.region [Lw 27 0,
 Lw 28 2,
 Lw 29 3,
 Ll 30 (Opx F1k [(.t 27),(.t 28),(.t 29)]),
 Lw 2 30] [0,2,3,9,16,17,18]))))
 (.region [Ibc 31 .add 18 1,
 Lw 18 31] [0,2,3,9,16,17,18])))
def Zy_B:Cd:=
 Irg [Ll 8 (.mv (.c (.sl .leaf [])))] [0,1,2,3]
 (Irg [Lw 12 0,
 Lw 13 2,
 Lw 14 3,
 Ll 15 (Opx F1i [(.t 12),(.t 13),(.t 14)]),
 Lw 2 15] [0,1,2,3]
 (Irg [Ll 9 (.mv (.c (.sl .leaf [])))] [0,1,2,3,9]
 (.seq (Irg [Lw 16 1,
 Ien 17 16,
 Imc 18 0] [0,2,3,9,16,17,18]
 (.block 0 (.loop (Zy_L0))))
 (Irg [Lw 32 9,
 Lw 8 32] [8]
 (.ret)))))
def Zy:Fn:=
 { nparams:=4,nblk:=0,results:=[.tmp 8],body:=Zy_B }
def Z6_B:Cd:=
 Irg [Ibx 5 0 1,
 Ibx 6 1 2,
 Ibx 7 2 3,
 Ibz 8 3,
 Imc 9 0] [0,5,6,7,8]
 (.seq (Irg [Lw 11 0,
 Ipx 12 7,
 Ipx 13 5,
 Ipx 14 6,
 Ll 15 (.buildSl false 4 Sx6 (.arr 64 .leaf z64) 2 [(0,(.t 13)),(1,(.t 14))]),
 Ll 16 (.call .heap [] (.f Fv) [(.t 11),(.t 12),(.t 15)]),
 Lw 10 16] [0,5,6,7,8,10]
 (Irg [Lw 17 10,
 Ibc 18 .neq 17 0] [0,5,6,7,8,10,18]
 (Icd 18
 (Irg [Iz6 19,
 Lw 20 10,
 Ls (.store false Sx6 (.t 8) (.t 19)),
 Lw 9 20] [8,9]
 (.ret))
 (.skip))))
 (Irg [Lw 21 0,
 Ipx 22 5,
 Ll 23 (Opx F1o [(.t 22)]),
 Ipx 24 6,
 Ll 25 (Opx F1o [(.t 24)]),
 Ipx 26 7,
 Ll 27 (Opx F1o [(.t 26)]),
 Ll 28 (Opx Fy [(.t 21),(.t 23),(.t 25),(.t 27)]),
 Ll 29 (Ofx F1v [(.t 28)]),
 Iex 30 29 0,
 Iex 31 29 1,
 Ls (.store false Sx6 (.t 8) (.t 30)),
 Lw 9 31] [8,9]
 (.ret)))
def Z6:Fn:=
 { nparams:=4,nblk:=5,results:=[.cell 8 Sx6,.tmp 9],body:=Z6_B }
def Zh_L0:Cd:=
 Irg [Ibn 27 .lss 26 25] [4,9,10,11,25,26,27]
 (.seq (Icd 27
 (.skip)
 (.exit 0))
 (.seq (.block 1 (Irg [Lw 28 26,
 Lw 12 28] [4,9,10,11,12,25,26]
 (.region [Lw 29 11,
 Lw 30 9,
 Ipx 31 4,
 Ll 32 (Opx F1o [(.t 31)]),
 Lw 33 9,
 Lw 34 9,
 Lw 35 12,
 Ll 36 (Ofx F1a [(.t 34),(.t 35),(Acx 1099511627776)]),
 Ll 37 (Opx F1b [(.t 33),(.t 36)]),
 Lw 38 10,
 Ll 39 (Opx Fy [(.t 30),(.t 32),(.t 37),(.t 38)]),
 Ll 40 (.buildSl false 4 .leaf (.sl .leaf []) 1 [(0,(.t 39))]),
 Ll 41 (.append .leaf 5 24 (.t 29) (.t 40)),
 Lw 11 41] [4,9,10,11,25,26])))
 (.region [Ibc 42 .add 26 1,
 Lw 26 42] [4,9,10,11,25,26])))
def Zh_B:Cd:=
 Irg [Ibx 4 0 1,
 Ibx 5 1 2,
 Imc 6 0,
 Imc 7 0] [0,4,5]
 (.seq (Irg [Lw 13 0,
 Ipx 14 5,
 Ipx 15 4,
 Ll 16 (.buildSl false 2 Sx6 (.arr 64 .leaf z64) 1 [(0,(.t 15))]),
 Ll 17 (.call .heap [] (.f Fv) [(.t 13),(.t 14),(.t 16)]),
 Lw 8 17] [0,4,5,8]
 (Irg [Lw 18 8,
 Ibc 19 .neq 18 0] [0,4,5,8,19]
 (Icd 19
 (Irg [Lw 20 8,
 Imc 6 0,
 Lw 7 20] [6,7]
 (.ret))
 (.skip))))
 (Irg [Lw 21 0,
 Ipx 22 5,
 Ll 23 (Opx F1o [(.t 22)]),
 Lw 9 21,
 Lw 10 23] [4,9,10]
 (Irg [Ll 11 (.nilOwn 3 .leaf)] [4,9,10,11]
 (.seq (Irg [Lw 24 10,
 Ll 25 (Ofx F1q [(.t 24)]),
 Imc 26 0] [4,9,10,11,25,26]
 (.block 0 (.loop (Zh_L0))))
 (Irg [Lw 43 10,
 Ll 44 (Ofx F1q [(.t 43)]),
 Lw 45 9,
 Lw 46 11,
 Ll 47 (.call .data [] (.f F1e) [(.t 45),(.t 46)]),
 Ien 48 47,
 Ibn 49 .sub 44 48,
 Lw 6 49,
 Imc 7 0] [6,7]
 (.ret))))))
def Zh:Fn:=
 { nparams:=3,nblk:=6,results:=[.tmp 6,.tmp 7],body:=Zh_B }
def Z7_B:Cd:=
 Irg [Ibx 4 0 1,
 Ibx 5 1 2,
 Ibz 6 2,
 Imc 7 0] [0,4,5,6]
 (.seq (Irg [Lw 9 0,
 Ipx 10 5,
 Ipx 11 4,
 Ll 12 (.buildSl false 3 Sx6 (.arr 64 .leaf z64) 1 [(0,(.t 11))]),
 Ll 13 (.call .heap [] (.f Fv) [(.t 9),(.t 10),(.t 12)]),
 Lw 8 13] [0,4,5,6,8]
 (Irg [Lw 14 8,
 Ibc 15 .neq 14 0] [0,4,5,6,8,15]
 (Icd 15
 (Irg [Iz6 16,
 Lw 17 8,
 Ls (.store false Sx6 (.t 6) (.t 16)),
 Lw 7 17] [6,7]
 (.ret))
 (.skip))))
 (Irg [Lw 18 0,
 Ipx 19 4,
 Ll 20 (Opx F1o [(.t 19)]),
 Ipx 21 5,
 Ll 22 (Opx F1o [(.t 21)]),
 Ll 23 (Opx Fz [(.t 18),(.t 20),(.t 22)]),
 Ll 24 (Ofx F1v [(.t 23)]),
 Iex 25 24 0,
 Iex 26 24 1,
 Ls (.store false Sx6 (.t 6) (.t 25)),
 Lw 7 26] [6,7]
 (.ret)))
def Z7:Fn:=
 { nparams:=3,nblk:=4,results:=[.cell 6 Sx6,.tmp 7],body:=Z7_B }
def Z8_L0:Cd:=
 Irg [Ibn 41 .lss 40 39] [4,7,8,39,40,41]
 (.seq (Icd 41
 (.skip)
 (.exit 0))
 (.seq (.block 1 (Irg [Lw 42 40,
 Lw 11 42] [4,7,8,11,39,40]
 (Irg [Lw 43 7,
 Lw 44 11,
 Ll 45 (Opx F1b [(.t 43),(.t 44)]),
 Lw 12 45] [4,7,8,12,39,40]
 (Irg [Lw 46 7,
 Lw 47 12,
 Lw 48 8,
 Ll 49 (Opx Fz [(.t 46),(.t 47),(.t 48)]),
 Ll 50 (Ofx F1q [(.t 49)]),
 Lw 51 8,
 Ll 52 (Ofx F1q [(.t 51)]),
 Ibn 53 .eql 50 52] [4,7,8,12,39,40,53]
 (Icd 53
 (Irg [Lw 54 12,
 Ll 55 (Ofx F1v [(.t 54)]),
 Iex 56 55 0,
 Iex 57 55 1,
 Ls (.store false Sx6 (.t 4) (.t 56)),
 Lw 5 57] [4,5]
 (.ret))
 (.skip))))))
 (.region [Ibc 58 .add 40 1,
 Lw 40 58] [4,7,8,39,40])))
def Z8_B:Cd:=
 Irg [Ibx 3 0 1,
 Ibz 4 1,
 Imc 5 0] [0,3,4]
 (.seq (Irg [Lw 13 0,
 Ipx 14 3,
 Ll 15 (.call .heap [] (.f Fv) [(.t 13),(.t 14),(.c (.nils Sx6))]),
 Lw 6 15] [0,3,4,6]
 (Irg [Lw 16 6,
 Ibc 17 .neq 16 0] [0,3,4,6,17]
 (Icd 17
 (Irg [Iz6 18,
 Lw 19 6,
 Ls (.store false Sx6 (.t 4) (.t 18)),
 Lw 5 19] [4,5]
 (.ret))
 (.skip))))
 (Irg [Lw 20 0,
 Ipx 21 3,
 Ll 22 (Opx F1o [(.t 21)]),
 Lw 7 20,
 Lw 8 22] [0,3,4,7,8]
 (Irg [Lw 24 0,
 Ipx 25 3,
 Ll 26 (Ofx Fc [(.t 24),(.t 25)]),
 Lw 23 26,
 Iex 27 23 0,
 Iex 28 23 1,
 Ibz 9 2,
 Ls (.store false Sx6 (.t 9) (.t 27)),
 Lw 10 28] [4,7,8,9]
 (.seq (Irg [Ipx 29 9,
 Ll 30 (Opx F1o [(.t 29)]),
 Ll 31 (Ofx F1q [(.t 30)]),
 Lw 32 8,
 Ll 33 (Ofx F1q [(.t 32)]),
 Ibn 34 .lss 31 33] [4,7,8,34]
 (Icd 34
 (Irg [Iz6 35,
 Ls (.store false Sx6 (.t 4) (.t 35)),
 Imc 5 5] [4,5]
 (.ret))
 (.skip)))
 (.seq (Irg [Lw 36 7,
 Lw 37 8,
 Ll 38 (Ofx F1q [(.t 37)]),
 Ll 39 (Ofx F1a [(.t 36),(.t 38),(Acx 1099511627776)]),
 Imc 40 0] [4,7,8,39,40]
 (.block 0 (.loop (Z8_L0))))
 (Irg [Iz6 59,
 Ls (.store false Sx6 (.t 4) (.t 59)),
 Imc 5 5] [4,5]
 (.ret)))))))
def Z8:Fn:=
 { nparams:=2,nblk:=3,results:=[.cell 4 Sx6,.tmp 5],body:=Z8_B }
def Z9_B:Cd:=
 Irg [Ibx 4 0 1,
 Ibx 5 1 2,
 Ibz 6 2,
 Imc 7 0] [0,4,5,6]
 (.seq (Irg [Lw 14 0,
 Ipx 15 4,
 Ipx 16 5,
 Ll 17 (.buildSl false 3 Sx6 (.arr 64 .leaf z64) 2 [(0,(.t 15)),(1,(.t 16))]),
 Ll 18 (Ofx Fw [(.t 14),(.t 17)]),
 Lw 8 18] [0,4,5,6,8]
 (Irg [Lw 19 8,
 Ibc 20 .neq 19 0] [0,4,5,6,8,20]
 (Icd 20
 (Irg [Iz6 21,
 Lw 22 8,
 Ls (.store false Sx6 (.t 6) (.t 21)),
 Lw 7 22] [6,7]
 (.ret))
 (.skip))))
 (Irg [Lw 23 0,
 Ipx 24 5,
 Ll 25 (Opx F1o [(.t 24)]),
 Lw 9 23,
 Lw 10 25] [4,6,9,10]
 (.seq (.block 0 (Irg [Lw 27 10,
 Ll 28 (Ofx F1s [(.t 27)]),
 Ibc 29 .neq 28 1,
 Lw 30 29,
 Lx 31 10 30 false,
 Lg 32 (Ofx F1q [(.t 31)]) 30 false,
 Lg 33 (Ofx F1w [(.t 32),(Acx 1),(Acx 3)]) 30 false,
 Lg 34 (.un .not (.t 33)) 30 false,
 Ior 35 30 34,
 Lw 26 35] [4,6,9,10,26]
 (Icd 26
 (Irg [Iz6 36,
 Ls (.store false Sx6 (.t 6) (.t 36)),
 Imc 7 2] [6,7]
 (.ret))
 (Irg [Lw 38 9,
 Lw 39 10,
 Ll 40 (Ofx F18 [(.t 38),(.t 39)]),
 Ll 41 (.un .not (.t 40)),
 Lw 37 41] [4,6,9,10,37]
 (Icd 37
 (Irg [Iz6 42,
 Ls (.store false Sx6 (.t 6) (.t 42)),
 Imc 7 5] [6,7]
 (.ret))
 (.skip))))))
 (Irg [Lw 43 9,
 Lw 44 9,
 Lw 45 10,
 Ll 46 (.buildSl false 4 .leaf (.int .i64 0) 1 [(0,(Acx 1))]),
 Ll 47 (.call .data [] (.f F12) [(.t 44),(.t 45),(.t 46),(Acx (-1))]),
 Lw 48 9,
 ⟨some 49,.load Sx6 (.t 4),none,[44,45,46]⟩,
 Ll 50 (Opx F1o [(.t 49)]),
 Lw 51 10,
 Ll 52 (Opx F1i [(.t 48),(.t 50),(.t 51)]),
 Lw 53 9,
 Lw 54 10,
 Lw 55 10,
 Ll 56 (Opx F1m [(.t 53),(.t 54),(.t 55)]),
 Ll 57 (Opx Fy [(.t 43),(.t 47),(.t 52),(.t 56)]),
 Lw 11 57] [6,9,10,11]
 (Irg [Lw 59 9,
 Lw 60 11,
 Lw 61 10,
 Ll 62 (Opx F13 [(.t 59),(.t 60),(.t 61)]),
 Lw 58 62,
 Iex 63 58 0,
 Iex 64 58 1,
 Lw 12 63,
 Lw 13 64] [6,9,10,12]
 (Irg [Lw 65 9,
 Lw 66 12,
 Lw 67 10,
 Ll 68 (Opx F1i [(.t 65),(.t 66),(.t 67)]),
 Ll 69 (Ofx F1v [(.t 68)]),
 Iex 70 69 0,
 Iex 71 69 1,
 Ls (.store false Sx6 (.t 6) (.t 70)),
 Lw 7 71] [6,7]
 (.ret)))))))
def Z9:Fn:=
 { nparams:=3,nblk:=5,results:=[.cell 6 Sx6,.tmp 7],body:=Z9_B }
end Pe

/-
 Functions of the laws in the small form,printed by a program.
-/
namespace Pe
open Go
def Z1x_B:Cd:=
 Irg [Ll 2 (.mv (.c (.bool false)))] [0]
 (.seq (Irg [Lw 47 0,
 Ll 48 (Ofx F1y [(.t 47)])] [0,48]
 (Icd 48
 (Irg [Ll 2 (.mv (.c (.bool true)))] [2]
 (.ret))
 (.skip)))
 (Irg [Lw 50 0,
 Ll 51 (Ofx F3b [(.t 50)]),
 Lw 49 51,
 Iex 52 49 0,
 Iex 53 49 1,
 Iex 54 49 2,
 Ibz 4 0,
 Ibz 5 1,
 Lw 3 52,
 Ls (.store false Sx6 (.t 4) (.t 53)),
 Ls (.store false Sx6 (.t 5) (.t 54))] [0,3,4,5]
 (Irg [Lw 56 3,
 Ipx 57 4,
 Ipx 58 5,
 Ll 59 (Ofx Fh [(.t 56),(.t 57),(.t 58)]),
 Lw 55 59,
 Iex 60 55 0,
 Iex 61 55 1,
 Lw 6 60,
 Lw 7 61] [0,3,4,5,6,7]
 (.seq (Irg [Lw 63 3,
 Ipx 64 4,
 Ipx 65 5,
 Ll 66 (Ofx F3d [(.t 63),(.t 64),(.t 65)]),
 Lw 62 66,
 Iex 67 62 0,
 Iex 68 62 1,
 Lw 8 67,
 Lw 9 68] [0,6,7,8,9]
 (Irg [Lw 69 7,
 Lw 70 9,
 Ibn 71 .neq 69 70,
 Lw 72 71,
 Lx 73 6 72 false,
 Lx 74 8 72 false,
 Lg 75 (.bin .neq (.t 73) (.t 74)) 72 false,
 Ior 76 72 75] [0,76]
 (Icd 76
 (Irg [Ll 2 (.mv (.c (.bool false)))] [2]
 (.ret))
 (.skip))))
 (Irg [Lw 78 0,
 Ll 79 (Ofx F39 [(.t 78)]),
 Lw 77 79,
 Iex 80 77 0,
 Iex 81 77 1,
 Iex 82 77 2,
 Ibz 11 2,
 Ibz 12 3,
 Lw 10 80,
 Ls (.store false Sx6 (.t 11) (.t 81)),
 Ls (.store false Sx6 (.t 12) (.t 82))] [0,10,11,12]
 (Irg [Lw 84 10,
 Ipx 85 11,
 Ipx 86 12,
 Ll 87 (Ofx F7 [(.t 84),(.t 85),(.t 86)]),
 Lw 83 87,
 Iex 88 83 0,
 Iex 89 83 1,
 Ibz 13 4,
 Ls (.store false Sx6 (.t 13) (.t 88)),
 Lw 14 89] [0,10,11,12,13,14]
 (.seq (Irg [Lw 91 10,
 Ipx 92 11,
 Ipx 93 12,
 Ll 94 (Ofx F36 [(.t 91),(.t 92),(.t 93)]),
 Lw 90 94,
 Iex 95 90 0,
 Iex 96 90 1,
 Ibz 15 5,
 Ls (.store false Sx6 (.t 15) (.t 95)),
 Lw 16 96] [0,10,11,12,13,14,15,16]
 (Irg [Lw 97 14,
 Lw 98 16,
 Ibn 99 .neq 97 98,
 Lw 100 99,
 Lg 101 (.load Sx6 (.t 13)) 100 false,
 Lg 102 (.load Sx6 (.t 15)) 100 false,
 Lg 103 (.eqv true (.arr 64 .leaf .int) (.t 101) (.t 102)) 100 false,
 Ior 104 100 103] [0,10,11,12,13,14,104]
 (Icd 104
 (Irg [Ll 2 (.mv (.c (.bool false)))] [2]
 (.ret))
 (.skip))))
 (Irg [Lw 106 10,
 Ipx 107 12,
 Ll 108 (Ofx Fc [(.t 106),(.t 107)]),
 Lw 105 108,
 Iex 109 105 0,
 Iex 110 105 1,
 Ibz 17 6,
 Ls (.store false Sx6 (.t 17) (.t 109)),
 Lw 18 110] [0,10,11,12,13,14,17,18]
 (.seq (Irg [Lw 112 10,
 Ipx 113 12,
 Ll 114 (Ofx F3c [(.t 112),(.t 113)]),
 Lw 111 114,
 Iex 115 111 0,
 Iex 116 111 1,
 Ibz 19 7,
 Ls (.store false Sx6 (.t 19) (.t 115)),
 Lw 20 116] [0,10,11,12,13,14,17,18,19,20]
 (Irg [Lw 117 18,
 Lw 118 20,
 Ibn 119 .neq 117 118,
 Lw 120 119,
 Lg 121 (.load Sx6 (.t 17)) 120 false,
 Lg 122 (.load Sx6 (.t 19)) 120 false,
 Lg 123 (.eqv true (.arr 64 .leaf .int) (.t 121) (.t 122)) 120 false,
 Ior 124 120 123] [0,10,11,12,13,14,17,18,124]
 (Icd 124
 (Irg [Ll 2 (.mv (.c (.bool false)))] [2]
 (.ret))
 (.skip))))
 (Irg [Lw 126 10,
 Ipx 127 12,
 Ll 128 (Ofx F8 [(.t 126),(.t 127)]),
 Lw 125 128,
 Iex 129 125 0,
 Iex 130 125 1,
 Ibz 21 8,
 Ls (.store false Sx6 (.t 21) (.t 129)),
 Lw 22 130] [0,10,11,12,13,14,17,18,21,22]
 (.seq (Irg [Lw 132 10,
 Ipx 133 12,
 Ll 134 (Ofx F37 [(.t 132),(.t 133)]),
 Lw 131 134,
 Iex 135 131 0,
 Iex 136 131 1,
 Ibz 23 9,
 Ls (.store false Sx6 (.t 23) (.t 135)),
 Lw 24 136] [0,10,11,12,13,14,17,18,21,22,23,24]
 (Irg [Lw 137 22,
 Lw 138 24,
 Ibn 139 .neq 137 138,
 Lw 140 139,
 Lg 141 (.load Sx6 (.t 21)) 140 false,
 Lg 142 (.load Sx6 (.t 23)) 140 false,
 Lg 143 (.eqv true (.arr 64 .leaf .int) (.t 141) (.t 142)) 140 false,
 Ior 144 140 143] [0,10,11,12,13,14,17,18,21,22,144]
 (Icd 144
 (Irg [Ll 2 (.mv (.c (.bool false)))] [2]
 (.ret))
 (.skip))))
 (Irg [Lw 146 0,
 Ll 147 (Ofx F3a [(.t 146)]),
 Lw 145 147,
 Iex 148 145 0,
 Iex 149 145 1,
 Iex 150 145 2,
 Ibz 26 10,
 Ibz 27 11,
 Lw 25 148,
 Ls (.store false Sx6 (.t 26) (.t 149)),
 Ls (.store false Sx6 (.t 27) (.t 150))] [10,11,12,13,14,17,18,21,22,25,26,27]
 (Irg [Lw 152 25,
 Ipx 153 26,
 Ipx 154 27,
 Ll 155 (Ofx F9 [(.t 152),(.t 153),(.t 154)]),
 Lw 151 155,
 Iex 156 151 0,
 Iex 157 151 1,
 Ibz 28 12,
 Ls (.store false Sx6 (.t 28) (.t 156)),
 Lw 29 157] [10,11,12,13,14,17,18,21,22,25,26,27,28,29]
 (.seq (Irg [Lw 159 25,
 Ipx 160 26,
 Ipx 161 27,
 Ll 162 (Ofx F38 [(.t 159),(.t 160),(.t 161)]),
 Lw 158 162,
 Iex 163 158 0,
 Iex 164 158 1,
 Ibz 30 13,
 Ls (.store false Sx6 (.t 30) (.t 163)),
 Lw 31 164] [10,11,12,13,14,17,18,21,22,28,29,30,31]
 (Irg [Lw 165 29,
 Lw 166 31,
 Ibn 167 .neq 165 166,
 Lw 168 167,
 Lg 169 (.load Sx6 (.t 28)) 168 false,
 Lg 170 (.load Sx6 (.t 30)) 168 false,
 Lg 171 (.eqv true (.arr 64 .leaf .int) (.t 169) (.t 170)) 168 false,
 Ior 172 168 171] [10,11,12,13,14,17,18,21,22,172]
 (Icd 172
 (Irg [Ll 2 (.mv (.c (.bool false)))] [2]
 (.ret))
 (.skip))))
 (.seq (Irg [Lw 173 14,
 Ibc 174 .neq 173 0] [10,11,12,13,17,18,21,22,174]
 (Icd 174
 (Irg [Ipx 175 13,
 Iz6 176,
 Ll 177 (.eqv false (.arr 64 .leaf .int) (.t 175) (.t 176)),
 Lw 2 177] [2]
 (.ret))
 (.skip)))
 (Irg [Lw 179 10,
 Ipx 180 13,
 Ipx 181 11,
 Ipx 182 12,
 Ll 183 (Ofx F6 [(.t 179),(.t 180),(.t 181),(.t 182)]),
 Lw 178 183,
 Iex 184 178 0,
 Iex 185 178 1,
 Ibz 32 14,
 Ls (.store false Sx6 (.t 32) (.t 184)),
 Lw 33 185] [10,12,13,17,18,21,22,32,33]
 (Irg [Lw 187 10,
 Ipx 188 17,
 Ipx 189 13,
 Ll 190 (Ofx Fb [(.t 187),(.t 188),(.t 189)]),
 Lw 186 190,
 Iex 191 186 0,
 Iex 192 186 1,
 Iex 193 186 2,
 Ibz 34 15,
 Ibz 35 16,
 Ls (.store false Sx6 (.t 34) (.t 191)),
 Ls (.store false Sx6 (.t 35) (.t 192)),
 Lw 36 193] [10,12,17,18,21,22,32,33,35,36]
 (Irg [Lw 195 10,
 Ipx 196 17,
 Ipx 197 12,
 Ll 198 (Ofx Fh [(.t 195),(.t 196),(.t 197)]),
 Lw 194 198,
 Iex 199 194 0,
 Iex 200 194 1,
 Lw 37 199,
 Lw 38 200] [10,12,17,18,21,22,32,33,35,36,37,38]
 (Irg [Lw 202 10,
 Ipx 203 12,
 Ll 204 (Ofx Fa [(.t 202),(.t 203)]),
 Lw 201 204,
 Iex 205 201 0,
 Iex 206 201 1,
 Lw 39 205,
 Lw 40 206] [10,12,17,18,21,22,32,33,35,36,37,38,39,40]
 (.seq (Irg [Lw 207 18,
 Ibc 208 .neq 207 0,
 Lw 209 208,
 Lx 210 33 209 false,
 Lg 211 (.bin .neq (.t 210) (Acx 0)) 209 false,
 Ior 212 209 211,
 Lw 213 212,
 Lg 214 (.load Sx6 (.t 32)) 213 false,
 Lg 215 (.build false (.arr 64 .leaf z64) []) 213 false,
 Lg 216 (.eqv true (.arr 64 .leaf .int) (.t 214) (.t 215)) 213 false,
 Ior 217 213 216,
 Lw 218 217,
 Lx 219 36 218 false,
 Lg 220 (.bin .neq (.t 219) (Acx 0)) 218 false,
 Ior 221 218 220,
 Lw 222 221,
 Lg 223 (.load Sx6 (.t 35)) 222 false,
 Lg 224 (.build false (.arr 64 .leaf z64) []) 222 false,
 Lg 225 (.eqv true (.arr 64 .leaf .int) (.t 223) (.t 224)) 222 false,
 Ior 226 222 225,
 Lw 227 226,
 Lx 228 38 227 false,
 Lg 229 (.bin .neq (.t 228) (Acx 0)) 227 false,
 Ior 230 227 229,
 Lw 231 230,
 Lx 232 40 231 false,
 Lg 233 (.bin .neq (.t 232) (Acx 0)) 231 false,
 Ior 234 231 233,
 Lw 235 234,
 Lx 236 37 235 false,
 Lx 237 39 235 false,
 Lg 238 (.bin .neq (.t 236) (.t 237)) 235 false,
 Ior 239 235 238] [10,12,17,21,22,239]
 (Icd 239
 (Irg [Ll 2 (.mv (.c (.bool false)))] [2]
 (.ret))
 (.skip)))
 (.seq (Irg [Lw 240 22,
 Ibc 241 .eql 240 0] [10,12,17,21,22,241]
 (Icd 241
 (Irg [Lw 243 10,
 Ipx 244 21,
 Ipx 245 12,
 Ll 246 (Ofx F7 [(.t 243),(.t 244),(.t 245)]),
 Lw 242 246,
 Iex 247 242 0,
 Iex 248 242 1,
 Ibz 41 17,
 Ls (.store false Sx6 (.t 41) (.t 247)),
 Lw 42 248] [10,12,17,22,41,42]
 (Irg [Lw 249 42,
 Ibc 250 .neq 249 0,
 Lw 251 250,
 Lg 252 (.load Sx6 (.t 41)) 251 false,
 Lg 253 (.load Sx6 (.t 17)) 251 false,
 Lg 254 (.eqv true (.arr 64 .leaf .int) (.t 252) (.t 253)) 251 false,
 Ior 255 251 254] [10,12,17,22,255]
 (Icd 255
 (Irg [Ll 2 (.mv (.c (.bool false)))] [2]
 (.ret))
 (.skip))))
 (.skip)))
 (Irg [Lw 257 10,
 Ipx 258 12,
 Ll 259 (Ofx Fe [(.t 257),(.t 258)]),
 Lw 256 259,
 Iex 260 256 0,
 Iex 261 256 1,
 Lw 43 260,
 Lw 44 261] [10,12,17,22,43,44]
 (Irg [Lw 263 10,
 Ipx 264 12,
 Ll 265 (.build false (.arr 64 .leaf z64) [(0,(.c (.int .u8 1)))]),
 Ll 266 (Ofx Fg [(.t 263),(.t 264),(.t 265)]),
 Lw 262 266,
 Iex 267 262 0,
 Iex 268 262 1,
 Ibz 45 18,
 Ls (.store false Sx6 (.t 45) (.t 267)),
 Lw 46 268] [17,22,43,44,45,46]
 (Irg [Lw 269 44,
 Ibc 270 .eql 269 0,
 Lw 271 270,
 Lx 272 46 271 true,
 Lg 273 (.bin .eql (.t 272) (Acx 0)) 271 true,
 Ian 274 271 273,
 Lw 275 274,
 Lx 276 43 275 true,
 Lg 277 (.un .not (.t 276)) 275 true,
 Lx 278 277 275 true,
 Lg 279 (.load Sx6 (.t 45)) 278 false,
 Lg 280 (.load Sx6 (.t 17)) 278 false,
 Lg 281 (.eqv false (.arr 64 .leaf .int) (.t 279) (.t 280)) 278 false,
 Lx 282 281 278 false,
 Lx 283 22 282 true,
 Lg 284 (.bin .eql (.t 283) (Acx 0)) 282 true,
 Lg 285 (.pick (.t 282) (.t 284) (.c (.bool false))) 278 false,
 Lg 286 (.pick (.t 278) (.c (.bool true)) (.t 285)) 275 true,
 Ian 287 275 286,
 Lw 2 287] [2]
 (.ret)))))))))))))))))))))))))
def Z1x:Fn:=
 { nparams:=1,nblk:=19,results:=[.tmp 2],body:=Z1x_B }
end Pe

/-
 Functions of the program in the small form,printed by a program.
-/
namespace Pe
open Go
def Z3i_L0:Cd:=
 .seq (Irg [Lw 4 3,
 Ibc 5 .geq 4 0,
 Lw 6 5,
 Lx 7 3 6 true,
 Lg 8 (.idxA (some 64) .leaf (.t 1) (.t 7)) 6 true,
 Lg 9 (.load .leaf (.t 8)) 6 true,
 Lg 10 (.bin .eql (.t 9) (.c (.int .u8 0))) 6 true,
 Ian 11 6 10] [1,3,11]
 (Icd 11
 (.skip)
 (.exit 0)))
 (.block 1 (.region [Lw 12 3,
 Ibc 13 .sub 12 1,
 Lw 3 13] [1,3]))
def Z3i_B:Cd:=
 Irg [Ibx 1 0 0,
 Imc 2 0] [1]
 (Irg [Imc 3 63] [1,3]
 (.seq (.block 0 (.loop (Z3i_L0)))
 (Irg [Lw 14 3,
 Lw 2 14] [2]
 (.ret))))
def Z3i:Fn:=
 { nparams:=1,nblk:=1,results:=[.tmp 2],body:=Z3i_B }
def Z3p_B:Cd:=
 Irg [Ll 6 (.mv (.c (.bool false)))] [0,1,2]
 (Irg [Lw 7 0,
 Lw 8 1,
 Ibn 9 .geq 7 8,
 Lw 10 9,
 Lx 11 0 10 true,
 Lx 12 2 10 true,
 Lg 13 (.bin .leq (.t 11) (.t 12)) 10 true,
 Ian 14 10 13,
 Lw 6 14] [6]
 (.ret))
def Z3p:Fn:=
 { nparams:=3,nblk:=0,results:=[.tmp 6],body:=Z3p_B }
def Z41_B:Cd:=
 Irg [Ll 2 (.mv (.c (.bool false)))] [0]
 (Irg [Lw 3 0,
 Ibc 4 .eql 3 2,
 Lw 5 4,
 Lx 6 0 5 false,
 Lg 7 (.bin .eql (.t 6) (Acx 3)) 5 false,
 Ior 8 5 7,
 Lw 9 8,
 Lx 10 0 9 false,
 Lg 11 (.bin .eql (.t 10) (Acx 5)) 9 false,
 Ior 12 9 11,
 Lw 13 12,
 Lx 14 0 13 false,
 Lg 15 (.bin .eql (.t 14) (Acx 7)) 13 false,
 Ior 16 13 15,
 Lw 2 16] [2]
 (.ret))
def Z41:Fn:=
 { nparams:=1,nblk:=0,results:=[.tmp 2],body:=Z41_B }
def Z3s_L0:Cd:=
 .seq (Irg [Lw 6 5,
 Ibc 7 .lss 6 64] [0,3,5,7]
 (Icd 7
 (.skip)
 (.exit 0)))
 (.seq (.block 1 (Irg [Lw 10 5,
 Iis 11 64 .leaf 3 10,
 Ilx 12 11,
 Icv 13 .i64 12,
 Lw 14 0,
 Ibn 15 .geq 13 14] [0,3,5,15]
 (Icd 15
 (Irg [Ll 4 (.mv (.c (.bool false)))] [4]
 (.ret))
 (.skip))))
 (.region [Lw 8 5,
 Ibc 9 .add 8 1,
 Lw 5 9] [0,3,5]))
def Z3s_B:Cd:=
 Irg [Ibx 3 0 1,
 Ll 4 (.mv (.c (.bool false)))] [0,3]
 (.seq (Irg [Imc 5 0] [0,3,5]
 (.block 0 (.loop (Z3s_L0))))
 (Irg [Lw 16 0,
 Ll 17 (Ofx F41 [(.t 16)]),
 Lw 4 17] [4]
 (.ret)))
def Z3s:Fn:=
 { nparams:=2,nblk:=1,results:=[.tmp 4],body:=Z3s_B }
def Z3h_L0:Cd:=
 .seq (Irg [Lw 9 5,
 Lw 10 1,
 Ien 11 10,
 Ibn 12 .lss 9 11] [0,1,5,12]
 (Icd 12
 (.skip)
 (.exit 0)))
 (.seq (.block 1 (Irg [Lw 15 0,
 Lw 16 1,
 Lw 17 5,
 Iia 18 Sx6 16 17,
 Ipx 19 18,
 Ll 20 (Ofx F3s [(.t 15),(.t 19)]),
 Ll 21 (.un .not (.t 20))] [0,1,5,21]
 (Icd 21
 (Irg [Imc 4 1] [4]
 (.ret))
 (.skip))))
 (.region [Lw 13 5,
 Ibc 14 .add 13 1,
 Lw 5 14] [0,1,5]))
def Z3h_B:Cd:=
 Irg [Imc 4 0] [0,1]
 (.seq (Irg [Lw 6 0,
 Ll 7 (Ofx F41 [(.t 6)]),
 Ll 8 (.un .not (.t 7))] [0,1,8]
 (Icd 8
 (Irg [Imc 4 1] [4]
 (.ret))
 (.skip)))
 (.seq (Irg [Imc 5 0] [0,1,5]
 (.block 0 (.loop (Z3h_L0))))
 (Irg [Imc 4 0] [4]
 (.ret))))
def Z3h:Fn:=
 { nparams:=2,nblk:=0,results:=[.tmp 4],body:=Z3h_B }
def Z3u_B:Cd:=
 Irg [Ibx 1 0 0,
 Ll 2 (.mv (.c (.bool false)))] [1]
 (Irg [Ipx 4 1,
 Ll 5 (Ofx F3i [(.t 4)]),
 Lw 3 5] [1,3]
 (Irg [Lw 6 3,
 Ibc 7 .geq 6 0,
 Lw 8 7,
 Lx 9 3 8 true,
 Lg 10 (.idxA (some 64) .leaf (.t 1) (.t 9)) 8 true,
 Lg 11 (.load .leaf (.t 10)) 8 true,
 Lg 12 (.bin .eql (.t 11) (.c (.int .u8 1))) 8 true,
 Ian 13 8 12,
 Lw 2 13] [2]
 (.ret)))
def Z3u:Fn:=
 { nparams:=1,nblk:=1,results:=[.tmp 2],body:=Z3u_B }
def Z3q_L0:Cd:=
 .seq (Irg [Lw 6 5,
 Lw 7 0,
 Ibn 8 .lss 6 7] [0,1,5,8]
 (Icd 8
 (.skip)
 (.exit 0)))
 (.seq (.block 1 (Irg [Lw 11 5,
 Lw 12 1,
 Icv 13 .i64 12,
 Ibn 14 .mul 11 13,
 Lw 15 0,
 Ibn 16 .rem 14 15,
 Ibc 17 .eql 16 1] [0,1,5,17]
 (Icd 17
 (Irg [Lw 18 5,
 Icv 19 .u8 18,
 Lw 4 19] [4]
 (.ret))
 (.skip))))
 (.region [Lw 9 5,
 Ibc 10 .add 9 1,
 Lw 5 10] [0,1,5]))
def Z3q_B:Cd:=
 Irg [Ll 4 (.mv (.c (.int .u8 0)))] [0,1]
 (.seq (Irg [Imc 5 1] [0,1,5]
 (.block 0 (.loop (Z3q_L0))))
 (Irg [Ll 4 (.mv (.c (.int .u8 0)))] [4]
 (.ret)))
def Z3q:Fn:=
 { nparams:=2,nblk:=0,results:=[.tmp 4],body:=Z3q_B }
def Z3j_L0:Cd:=
 .seq (Irg [Lw 44 13,
 Lw 45 9,
 Ibn 46 .leq 44 45,
 Lw 47 46,
 Lx 48 12 47 true,
 Lg 49 (.bin .neq (.t 48) (Acx 0)) 47 true,
 Ian 50 47 49] [0,4,5,6,7,8,9,10,11,12,13,50]
 (Icd 50
 (.skip)
 (.exit 2)))
 (.seq (.block 3 (.region [Lw 53 11,
 Lw 54 9,
 Ibn 55 .sub 53 54,
 Lw 56 13,
 Ibn 57 .add 55 56,
 Lw 58 11,
 Lw 59 9,
 Ibn 60 .sub 58 59,
 Lw 61 13,
 Ibn 62 .add 60 61,
 Iis 63 64 .leaf 4 62,
 Ilx 64 63,
 Icv 65 .i64 64,
 Lw 66 12,
 Lw 67 13,
 Iis 68 64 .leaf 5 67,
 Ilx 69 68,
 Icv 70 .i64 69,
 Ibn 71 .mul 66 70,
 Ibn 72 .sub 65 71,
 Lw 73 0,
 Ibn 74 .rem 72 73,
 Lw 75 0,
 Ibn 76 .add 74 75,
 Lw 77 0,
 Ibn 78 .rem 76 77,
 Icv 79 .u8 78,
 Iis 80 64 .leaf 4 57,
 Ls (.store false .leaf (.t 80) (.t 79))] [0,4,5,6,7,8,9,10,11,12,13]))
 (.region [Lw 51 13,
 Ibc 52 .add 51 1,
 Lw 13 52] [0,4,5,6,7,8,9,10,11,12,13]))
def Z3j_L1:Cd:=
 .seq (Irg [Lw 25 11,
 Lw 26 9,
 Ibn 27 .geq 25 26] [0,4,5,6,7,8,9,10,11,27]
 (Icd 27
 (.skip)
 (.exit 0)))
 (.seq (.block 1 (Irg [Lw 30 11,
 Iis 31 64 .leaf 4 30,
 Ilx 32 31,
 Icv 33 .i64 32,
 Lw 34 10,
 Ibn 35 .mul 33 34,
 Lw 36 0,
 Ibn 37 .rem 35 36,
 Lw 12 37] [0,4,5,6,7,8,9,10,11,12]
 (Irg [Lw 38 11,
 Lw 39 9,
 Ibn 40 .sub 38 39,
 Lw 41 12,
 Icv 42 .u8 41,
 Iis 43 64 .leaf 8 40,
 Ls (.store false .leaf (.t 43) (.t 42))] [0,4,5,6,7,8,9,10,11,12]
 (Irg [Imc 13 0] [0,4,5,6,7,8,9,10,11,12,13]
 (.block 2 (.loop (Z3j_L0)))))))
 (.region [Lw 28 11,
 Ibc 29 .sub 28 1,
 Lw 11 29] [0,4,5,6,7,8,9,10,11]))
def Z3j_B:Cd:=
 Irg [Ibx 4 0 1,
 Ibx 5 1 2,
 Ibz 6 2,
 Ibz 7 3] [0,4,5,6,7]
 (Irg [Iz6 14,
 Ipx 15 5,
 Ll 16 (Ofx F3i [(.t 15)]),
 Ibz 8 4,
 Ls (.store false Sx6 (.t 8) (.t 14)),
 Lw 9 16] [0,4,5,6,7,8,9]
 (Irg [Lw 17 0,
 Lw 18 9,
 Iis 19 64 .leaf 5 18,
 Ilx 20 19,
 Ll 21 (Ofx F3q [(.t 17),(.t 20)]),
 Icv 22 .i64 21,
 Lw 10 22] [0,4,5,6,7,8,9,10]
 (.seq (Irg [Ipx 23 4,
 Ll 24 (Ofx F3i [(.t 23)]),
 Lw 11 24] [0,4,5,6,7,8,9,10,11]
 (.block 0 (.loop (Z3j_L1))))
 (Irg [Ipx 81 8,
 Ipx 82 4,
 ⟨none,.store false Sx6 (.t 6) (.t 81),none,[4]⟩,
 Ls (.store false Sx6 (.t 7) (.t 82))] [6,7]
 (.ret)))))
def Z3j:Fn:=
 { nparams:=3,nblk:=5,results:=[.cell 6 Sx6,.cell 7 Sx6],body:=Z3j_B }
def Z3t_B:Cd:=
 Irg [Ibx 4 0 1,
 Ibx 5 1 2,
 Ibz 6 2] [0,4,5,6]
 (Irg [Lw 10 0,
 Ipx 11 4,
 Ipx 12 5,
 Ll 13 (Ofx F3j [(.t 10),(.t 11),(.t 12)]),
 Lw 9 13,
 Iex 14 9 0,
 Iex 15 9 1,
 Ibz 7 3,
 Ibz 8 4,
 Ls (.store false Sx6 (.t 7) (.t 14)),
 Ls (.store false Sx6 (.t 8) (.t 15))] [6,8]
 (Irg [Ipx 16 8,
 Ls (.store false Sx6 (.t 6) (.t 16))] [6]
 (.ret)))
def Z3t:Fn:=
 { nparams:=3,nblk:=5,results:=[.cell 6 Sx6],body:=Z3t_B }
def Z3y_B:Cd:=
 Irg [Ibz 0 0] [0]
 (Irg [Ll 1 (.build false (.arr 64 .leaf z64) [(0,(.c (.int .u8 1)))]),
 Ls (.store false Sx6 (.t 0) (.t 1))] [0]
 (.ret))
def Z3y:Fn:=
 { nparams:=0,nblk:=1,results:=[.cell 0 Sx6],body:=Z3y_B }
def Z3e_L0:Cd:=
 .seq (Irg [Lw 10 9,
 Ibc 11 .lss 10 64] [0,3,5,6,8,9,11]
 (Icd 11
 (.skip)
 (.exit 0)))
 (.seq (.block 1 (.region [Lw 14 9,
 Lw 15 9,
 Iis 16 64 .leaf 5 15,
 Ilx 17 16,
 Icv 18 .i64 17,
 Lw 19 3,
 Lw 20 9,
 Iis 21 64 .leaf 6 20,
 Ilx 22 21,
 Icv 23 .i64 22,
 Ibn 24 .mul 19 23,
 Ibn 25 .add 18 24,
 Lw 26 0,
 Ibn 27 .rem 25 26,
 Lw 28 0,
 Ibn 29 .add 27 28,
 Lw 30 0,
 Ibn 31 .rem 29 30,
 Icv 32 .u8 31,
 Iis 33 64 .leaf 5 14,
 Ls (.store false .leaf (.t 33) (.t 32))] [0,3,5,6,8,9]))
 (.region [Lw 12 9,
 Ibc 13 .add 12 1,
 Lw 9 13] [0,3,5,6,8,9]))
def Z3e_B:Cd:=
 Irg [Ibx 5 0 1,
 Ibx 6 1 2,
 Ibz 8 2] [0,3,5,6,8]
 (.seq (Irg [Imc 9 0] [0,3,5,6,8,9]
 (.block 0 (.loop (Z3e_L0))))
 (Irg [Ipx 34 5,
 Ls (.store false Sx6 (.t 8) (.t 34))] [8]
 (.ret)))
def Z3e:Fn:=
 { nparams:=4,nblk:=3,results:=[.cell 8 Sx6],body:=Z3e_B }
def Z44_L0:Cd:=
 .seq (Irg [Lw 24 10,
 Lw 25 7,
 Ibn 26 .lss 24 25] [0,4,5,6,7,8,9,10,26]
 (Icd 26
 (.skip)
 (.exit 0)))
 (.seq (.block 1 (.region [Lw 29 10,
 Lw 30 10,
 Ibc 31 .sub 30 1,
 Iis 32 64 .leaf 4 31,
 Ilx 33 32,
 Iis 34 64 .leaf 9 29,
 Ls (.store false .leaf (.t 34) (.t 33))] [0,4,5,6,7,8,9,10]))
 (.region [Lw 27 10,
 Ibc 28 .add 27 1,
 Lw 10 28] [0,4,5,6,7,8,9,10]))
def Z44_L1:Cd:=
 .seq (Irg [Lw 45 12,
 Lw 46 7,
 Ibn 47 .lss 45 46] [0,5,6,7,9,11,12,47]
 (Icd 47
 (.skip)
 (.exit 2)))
 (.seq (.block 3 (.region [Lw 50 12,
 Lw 51 12,
 Iis 52 64 .leaf 9 51,
 Ilx 53 52,
 Icv 54 .i64 53,
 Lw 55 11,
 Lw 56 12,
 Iis 57 64 .leaf 5 56,
 Ilx 58 57,
 Icv 59 .i64 58,
 Ibn 60 .mul 55 59,
 Ibn 61 .sub 54 60,
 Lw 62 0,
 Ibn 63 .rem 61 62,
 Lw 64 0,
 Ibn 65 .add 63 64,
 Lw 66 0,
 Ibn 67 .rem 65 66,
 Icv 68 .u8 67,
 Iis 69 64 .leaf 9 50,
 Ls (.store false .leaf (.t 69) (.t 68))] [0,5,6,7,9,11,12]))
 (.region [Lw 48 12,
 Ibc 49 .add 48 1,
 Lw 12 49] [0,5,6,7,9,11,12]))
def Z44_B:Cd:=
 Irg [Ibx 4 0 1,
 Ibx 5 1 2,
 Ibz 6 2] [0,4,5,6]
 (Irg [Ipx 13 5,
 Ll 14 (Ofx F3i [(.t 13)]),
 Lw 7 14] [0,4,5,6,7]
 (.seq (Irg [Lw 15 7,
 Ibc 16 .eql 15 0] [0,4,5,6,7,16]
 (Icd 16
 (Irg [Iz6 17,
 Ls (.store false Sx6 (.t 6) (.t 17))] [6]
 (.ret))
 (.skip)))
 (Irg [Lw 18 7,
 Ibc 19 .sub 18 1,
 Iis 20 64 .leaf 4 19,
 Ilx 21 20,
 Icv 22 .i64 21,
 Iz6 23,
 Ibz 9 3,
 Lw 8 22,
 Ls (.store false Sx6 (.t 9) (.t 23))] [0,4,5,6,7,8,9]
 (.seq (Irg [Imc 10 1] [0,4,5,6,7,8,9,10]
 (.block 0 (.loop (Z44_L0))))
 (Irg [Lw 35 8,
 Lw 36 0,
 Lw 37 7,
 Iis 38 64 .leaf 5 37,
 Ilx 39 38,
 Ll 40 (Ofx F3q [(.t 36),(.t 39)]),
 Icv 41 .i64 40,
 Ibn 42 .mul 35 41,
 Lw 43 0,
 Ibn 44 .rem 42 43,
 Lw 11 44] [0,5,6,7,9,11]
 (.seq (Irg [Imc 12 0] [0,5,6,7,9,11,12]
 (.block 2 (.loop (Z44_L1))))
 (Irg [Ipx 70 9,
 Ls (.store false Sx6 (.t 6) (.t 70))] [6]
 (.ret))))))))
def Z44:Fn:=
 { nparams:=3,nblk:=4,results:=[.cell 6 Sx6],body:=Z44_B }
def Z3v_L0:Cd:=
 .seq (Irg [Lw 14 10,
 Ibc 15 .geq 14 0] [0,5,6,7,8,9,10,15]
 (Icd 15
 (.skip)
 (.exit 0)))
 (.seq (.block 1 (Irg [Lw 18 0,
 Ipx 19 9,
 Ipx 20 7,
 Ll 21 (Ofx F44 [(.t 18),(.t 19),(.t 20)]),
 Ls (.store false Sx6 (.t 9) (.t 21))] [0,5,6,7,8,9,10]
 (.region [Lw 22 0,
 Lw 23 0,
 Ipx 24 9,
 Ipx 25 5,
 Lw 26 10,
 Iis 27 64 .leaf 6 26,
 Ilx 28 27,
 Icv 29 .i64 28,
 Ll 30 (Ofx F3e [(.t 23),(.t 24),(.t 25),(.t 29)]),
 Ipx 31 7,
 Ll 32 (Ofx F3t [(.t 22),(.t 30),(.t 31)]),
 Ls (.store false Sx6 (.t 9) (.t 32))] [0,5,6,7,8,9,10])))
 (.region [Lw 16 10,
 Ibc 17 .sub 16 1,
 Lw 10 17] [0,5,6,7,8,9,10]))
def Z3v_B:Cd:=
 Irg [Ibx 5 0 1,
 Ibx 6 1 2,
 Ibx 7 2 3,
 Ibz 8 3] [0,5,6,7,8]
 (Irg [Iz6 11,
 Ibz 9 4,
 Ls (.store false Sx6 (.t 9) (.t 11))] [0,5,6,7,8,9]
 (.seq (Irg [Ipx 12 6,
 Ll 13 (Ofx F3i [(.t 12)]),
 Lw 10 13] [0,5,6,7,8,9,10]
 (.block 0 (.loop (Z3v_L0))))
 (Irg [Ipx 33 9,
 Ls (.store false Sx6 (.t 8) (.t 33))] [8]
 (.ret))))
def Z3v:Fn:=
 { nparams:=4,nblk:=5,results:=[.cell 8 Sx6],body:=Z3v_B }
def Z40_L0:Cd:=
 .seq (Irg [Lw 19 2,
 Ibc 20 .gtr 19 0] [0,2,7,8,9,10,20]
 (Icd 20
 (.skip)
 (.exit 0)))
 (.seq (.block 1 (.seq (Irg [Lw 23 2,
 Ibc 24 .rem 23 2,
 Ibc 25 .eql 24 1] [0,2,7,8,9,10,25]
 (Icd 25
 (.region [Lw 26 0,
 Ipx 27 9,
 Ipx 28 10,
 Ipx 29 7,
 Ll 30 (Ofx F3v [(.t 26),(.t 27),(.t 28),(.t 29)]),
 Ls (.store false Sx6 (.t 9) (.t 30))] [0,2,7,8,9,10])
 (.skip)))
 (.region [Lw 31 0,
 Ipx 32 10,
 Ipx 33 10,
 Ipx 34 7,
 Ll 35 (Ofx F3v [(.t 31),(.t 32),(.t 33),(.t 34)]),
 Ls (.store false Sx6 (.t 10) (.t 35))] [0,2,7,8,9,10])))
 (.region [Lw 21 2,
 Ibc 22 .quo 21 2,
 Lw 2 22] [0,2,7,8,9,10]))
def Z40_B:Cd:=
 Irg [Ibx 5 0 1,
 Ibx 7 1 3,
 Ibz 8 2] [0,2,5,7,8]
 (Irg [Lw 11 0,
 Ll 12 (Ofx F3y []),
 Ipx 13 7,
 Ll 14 (Ofx F3t [(.t 11),(.t 12),(.t 13)]),
 Lw 15 0,
 Ipx 16 5,
 Ipx 17 7,
 Ll 18 (Ofx F3t [(.t 15),(.t 16),(.t 17)]),
 Ibz 9 3,
 Ibz 10 4,
 Ls (.store false Sx6 (.t 9) (.t 14)),
 Ls (.store false Sx6 (.t 10) (.t 18))] [0,2,7,8,9,10]
 (.seq (.block 0 (.loop (Z40_L0)))
 (Irg [Ipx 36 9,
 Ls (.store false Sx6 (.t 8) (.t 36))] [8]
 (.ret))))
def Z40:Fn:=
 { nparams:=4,nblk:=5,results:=[.cell 8 Sx6],body:=Z40_B }
def Z3x_L0:Cd:=
 .seq (Irg [Lw 8 1,
 Ibc 9 .gtr 8 0] [0,1,4,5,6,9]
 (Icd 9
 (.skip)
 (.exit 0)))
 (.seq (.block 1 (Irg [Lw 12 6,
 Lw 13 1,
 Lw 14 0,
 Ibn 15 .rem 13 14,
 Icv 16 .u8 15,
 Iis 17 64 .leaf 5 12,
 Ls (.store false .leaf (.t 17) (.t 16))] [0,1,4,5,6]
 (.region [Lw 18 1,
 Lw 19 0,
 Ibn 20 .quo 18 19,
 Lw 1 20] [0,1,4,5,6])))
 (.region [Lw 10 6,
 Ibc 11 .add 10 1,
 Lw 6 11] [0,1,4,5,6]))
def Z3x_B:Cd:=
 Irg [Ibz 4 0] [0,1,4]
 (Irg [Iz6 7,
 Ibz 5 1,
 Ls (.store false Sx6 (.t 5) (.t 7))] [0,1,4,5]
 (.seq (Irg [Imc 6 0] [0,1,4,5,6]
 (.block 0 (.loop (Z3x_L0))))
 (Irg [Ipx 21 5,
 Ls (.store false Sx6 (.t 4) (.t 21))] [4]
 (.ret))))
def Z3x:Fn:=
 { nparams:=2,nblk:=2,results:=[.cell 4 Sx6],body:=Z3x_B }
def Z43_L0:Cd:=
 .seq (Irg [Lw 35 12,
 Lw 36 9,
 Ibn 37 .leq 35 36,
 Lw 38 37,
 Lx 39 11 38 true,
 Lg 40 (.idxA (some 64) .leaf (.t 4) (.t 39)) 38 true,
 Lg 41 (.load .leaf (.t 40)) 38 true,
 Lg 42 (.bin .neq (.t 41) (.c (.int .u8 0))) 38 true,
 Ian 43 38 42] [0,4,5,6,8,9,10,11,12,43]
 (Icd 43
 (.skip)
 (.exit 2)))
 (.seq (.block 3 (.region [Lw 46 11,
 Lw 47 12,
 Ibn 48 .add 46 47,
 Lw 49 11,
 Lw 50 12,
 Ibn 51 .add 49 50,
 Iis 52 64 .leaf 10 51,
 Ilx 53 52,
 Icv 54 .i64 53,
 Lw 55 11,
 Iis 56 64 .leaf 4 55,
 Ilx 57 56,
 Icv 58 .i64 57,
 Lw 59 12,
 Iis 60 64 .leaf 5 59,
 Ilx 61 60,
 Icv 62 .i64 61,
 Ibn 63 .mul 58 62,
 Ibn 64 .add 54 63,
 Lw 65 0,
 Ibn 66 .rem 64 65,
 Icv 67 .u8 66,
 Iis 68 64 .leaf 10 48,
 Ls (.store false .leaf (.t 68) (.t 67))] [0,4,5,6,8,9,10,11,12]))
 (.region [Lw 44 12,
 Ibc 45 .add 44 1,
 Lw 12 45] [0,4,5,6,8,9,10,11,12]))
def Z43_L1:Cd:=
 .seq (Irg [Lw 30 11,
 Lw 31 8,
 Ibn 32 .leq 30 31] [0,4,5,6,8,9,10,11,32]
 (Icd 32
 (.skip)
 (.exit 0)))
 (.seq (.block 1 (Irg [Imc 12 0] [0,4,5,6,8,9,10,11,12]
 (.block 2 (.loop (Z43_L0)))))
 (.region [Lw 33 11,
 Ibc 34 .add 33 1,
 Lw 11 34] [0,4,5,6,8,9,10,11]))
def Z43_B:Cd:=
 Irg [Ibx 4 0 1,
 Ibx 5 1 2,
 Ibz 6 2,
 Ll 7 (.mv (.c (.bool false)))] [0,4,5,6]
 (Irg [Ipx 13 4,
 Ll 14 (Ofx F3i [(.t 13)]),
 Ipx 15 5,
 Ll 16 (Ofx F3i [(.t 15)]),
 Iz6 17,
 Ibz 10 3,
 Lw 8 14,
 Lw 9 16,
 Ls (.store false Sx6 (.t 10) (.t 17))] [0,4,5,6,8,9,10]
 (.seq (Irg [Lw 18 8,
 Ibc 19 .lss 18 0,
 Lw 20 19,
 Lx 21 9 20 false,
 Lg 22 (.bin .lss (.t 21) (Acx 0)) 20 false,
 Ior 23 20 22] [0,4,5,6,8,9,10,23]
 (Icd 23
 (Irg [Ipx 24 10,
 Ls (.store false Sx6 (.t 6) (.t 24)),
 Ll 7 (.mv (.c (.bool true)))] [6,7]
 (.ret))
 (.skip)))
 (.seq (Irg [Lw 25 8,
 Lw 26 9,
 Ibn 27 .add 25 26,
 Ibc 28 .gtr 27 63] [0,4,5,6,8,9,10,28]
 (Icd 28
 (Irg [Ipx 29 10,
 Ls (.store false Sx6 (.t 6) (.t 29)),
 Ll 7 (.mv (.c (.bool false)))] [6,7]
 (.ret))
 (.skip)))
 (.seq (Irg [Imc 11 0] [0,4,5,6,8,9,10,11]
 (.block 0 (.loop (Z43_L1))))
 (Irg [Ipx 69 10,
 Ls (.store false Sx6 (.t 6) (.t 69)),
 Ll 7 (.mv (.c (.bool true)))] [6,7]
 (.ret))))))
def Z43:Fn:=
 { nparams:=3,nblk:=4,results:=[.cell 6 Sx6,.tmp 7],body:=Z43_B }
def Z3g_L0:Cd:=
 .seq (Irg [Ipx 26 5,
 Ll 27 (Ofx F3i [(.t 26)]),
 Ibc 28 .geq 27 0] [0,4,5,6,7,8,9,10,11,12,28]
 (Icd 28
 (.skip)
 (.exit 0)))
 (.block 1 (Irg [Lw 30 0,
 Ipx 31 4,
 Ipx 32 5,
 Ll 33 (Ofx F3j [(.t 30),(.t 31),(.t 32)]),
 Lw 29 33,
 Iex 34 29 0,
 Iex 35 29 1,
 Ibz 13 9,
 Ibz 14 10,
 Ls (.store false Sx6 (.t 13) (.t 34)),
 Ls (.store false Sx6 (.t 14) (.t 35))] [0,4,5,6,7,8,9,10,11,12,13,14]
 (Irg [Lw 37 0,
 Ipx 38 13,
 Ipx 39 10,
 Ll 40 (Ofx F43 [(.t 37),(.t 38),(.t 39)]),
 Lw 36 40,
 Iex 41 36 0,
 Iex 42 36 1,
 Ibz 15 11,
 Ls (.store false Sx6 (.t 15) (.t 41)),
 Lw 16 42] [0,4,5,6,7,8,9,10,11,12,13,14,15]
 (Irg [Lw 44 0,
 Ipx 45 13,
 Ipx 46 12,
 Ll 47 (Ofx F43 [(.t 44),(.t 45),(.t 46)]),
 Lw 43 47,
 Iex 48 43 0,
 Iex 49 43 1,
 Ibz 17 12,
 Ls (.store false Sx6 (.t 17) (.t 48)),
 Lw 18 49] [0,4,5,6,7,8,9,10,11,12,14,15,17]
 (Irg [Lw 50 0,
 Ipx 51 9,
 Ipx 52 15,
 Ll 53 (Ofx F3e [(.t 50),(.t 51),(.t 52),(Acx (-1))]),
 Lw 54 0,
 Ipx 55 11,
 Ipx 56 17,
 Ll 57 (Ofx F3e [(.t 54),(.t 55),(.t 56),(Acx (-1))]),
 Ibz 19 13,
 Ibz 20 14,
 Ls (.store false Sx6 (.t 19) (.t 53)),
 Ls (.store false Sx6 (.t 20) (.t 57))] [0,4,5,6,7,8,9,10,11,12,14,19,20]
 (Irg [Ipx 58 5,
 Ls (.store false Sx6 (.t 4) (.t 58))] [0,4,5,6,7,8,9,10,11,12,14,19,20]
 (Irg [Ipx 59 14,
 Ls (.store false Sx6 (.t 5) (.t 59))] [0,4,5,6,7,8,9,10,11,12,19,20]
 (Irg [Ipx 60 10,
 Ls (.store false Sx6 (.t 9) (.t 60))] [0,4,5,6,7,8,9,10,11,12,19,20]
 (Irg [Ipx 61 12,
 Ls (.store false Sx6 (.t 11) (.t 61))] [0,4,5,6,7,8,9,10,11,12,19,20]
 (Irg [Ipx 62 19,
 Ls (.store false Sx6 (.t 10) (.t 62))] [0,4,5,6,7,8,9,10,11,12,20]
 (.region [Ipx 63 20,
 Ls (.store false Sx6 (.t 12) (.t 63))] [0,4,5,6,7,8,9,10,11,12])))))))))))
def Z3g_B:Cd:=
 Irg [Ibx 4 0 1,
 Ibx 5 1 2,
 Ibz 6 2,
 Ibz 7 3,
 Ibz 8 4] [0,4,5,6,7,8]
 (Irg [Ll 22 (Ofx F3y []),
 Iz6 23,
 Iz6 24,
 Ll 25 (Ofx F3y []),
 Ibz 9 5,
 Ibz 10 6,
 Ibz 11 7,
 Ibz 12 8,
 Ls (.store false Sx6 (.t 9) (.t 22)),
 Ls (.store false Sx6 (.t 10) (.t 23)),
 Ls (.store false Sx6 (.t 11) (.t 24)),
 Ls (.store false Sx6 (.t 12) (.t 25))] [0,4,5,6,7,8,9,10,11,12]
 (.seq (.block 0 (.loop (Z3g_L0)))
 (Irg [Lw 64 0,
 Ipx 65 4,
 Ll 66 (Ofx F3i [(.t 65)]),
 Iis 67 64 .leaf 4 66,
 Ilx 68 67,
 Ll 69 (Ofx F3q [(.t 64),(.t 68)]),
 Icv 70 .i64 69,
 Lw 21 70] [0,4,6,7,8,9,11,21]
 (Irg [Lw 71 0,
 Iz6 72,
 Ipx 73 4,
 Lw 74 21,
 Ll 75 (Ofx F3e [(.t 71),(.t 72),(.t 73),(.t 74)]),
 Lw 76 0,
 Iz6 77,
 Ipx 78 9,
 Lw 79 21,
 Ll 80 (Ofx F3e [(.t 76),(.t 77),(.t 78),(.t 79)]),
 Lw 81 0,
 Iz6 82,
 Ipx 83 11,
 Lw 84 21,
 Ll 85 (Ofx F3e [(.t 81),(.t 82),(.t 83),(.t 84)]),
 Ls (.store false Sx6 (.t 6) (.t 75)),
 Ls (.store false Sx6 (.t 7) (.t 80)),
 Ls (.store false Sx6 (.t 8) (.t 85))] [6,7,8]
 (.ret)))))
def Z3g:Fn:=
 { nparams:=3,nblk:=15,results:=[.cell 6 Sx6,.cell 7 Sx6,.cell 8 Sx6],body:=Z3g_B }
def Z3o_B:Cd:=
 Irg [Ibx 4 0 1,
 Ibx 5 1 2,
 Ibz 6 2] [0,4,5,6]
 (.seq (Irg [Ipx 10 4,
 Ll 11 (Ofx F3i [(.t 10)]),
 Ibc 12 .lss 11 0,
 Lw 13 12,
 Lg 14 (.load Sx6 (.t 5)) 13 true,
 Lg 15 (Ofx F3i [(.t 14)]) 13 true,
 Lg 16 (.bin .lss (.t 15) (Acx 0)) 13 true,
 Ian 17 13 16] [0,4,5,6,17]
 (Icd 17
 (Irg [Iz6 18,
 Ls (.store false Sx6 (.t 6) (.t 18))] [6]
 (.ret))
 (.skip)))
 (Irg [Lw 20 0,
 Ipx 21 4,
 Ipx 22 5,
 Ll 23 (Ofx F3g [(.t 20),(.t 21),(.t 22)]),
 Lw 19 23,
 Iex 24 19 0,
 Iex 25 19 1,
 Iex 26 19 2,
 Ibz 7 3,
 Ibz 8 4,
 Ibz 9 5,
 Ls (.store false Sx6 (.t 7) (.t 24)),
 Ls (.store false Sx6 (.t 8) (.t 25)),
 Ls (.store false Sx6 (.t 9) (.t 26))] [6,7]
 (Irg [Ipx 27 7,
 Ls (.store false Sx6 (.t 6) (.t 27))] [6]
 (.ret))))
def Z3o:Fn:=
 { nparams:=3,nblk:=6,results:=[.cell 6 Sx6],body:=Z3o_B }
def Z42_B:Cd:=
 Irg [Ibz 0 0] [0]
 (Irg [Ll 1 (.build false (.arr 64 .leaf z64) [(0,(.c (.int .u8 0))),(1,(.c (.int .u8 1)))]),
 Ls (.store false Sx6 (.t 0) (.t 1))] [0]
 (.ret))
def Z42:Fn:=
 { nparams:=0,nblk:=1,results:=[.cell 0 Sx6],body:=Z42_B }
def Z3r_L0:Cd:=
 .seq (Irg [Lw 16 7,
 Ll 17 (.bin .mul (Acx 2) (.t 16)),
 Lw 18 5,
 Ibn 19 .leq 17 18] [0,3,5,6,7,19]
 (Icd 19
 (.skip)
 (.exit 0)))
 (.seq (.block 1 (Irg [Lw 22 0,
 Ipx 23 6,
 Lw 24 0,
 Ipx 25 3,
 Ll 26 (Ofx F40 [(.t 22),(.t 23),(.t 24),(.t 25)]),
 Ls (.store false Sx6 (.t 6) (.t 26))] [0,3,5,6,7]
 (Irg [Lw 27 0,
 Ipx 28 3,
 Lw 29 0,
 Ipx 30 6,
 Ll 31 (Ofx F42 []),
 Ll 32 (Ofx F3e [(.t 29),(.t 30),(.t 31),(Acx (-1))]),
 Ll 33 (Ofx F3o [(.t 27),(.t 28),(.t 32)]),
 Ll 34 (Ofx F3i [(.t 33)]),
 Ibc 35 .neq 34 0] [0,3,5,6,7,35]
 (Icd 35
 (Irg [Ll 4 (.mv (.c (.bool false)))] [4]
 (.ret))
 (.skip)))))
 (.region [Lw 20 7,
 Ibc 21 .add 20 1,
 Lw 7 21] [0,3,5,6,7]))
def Z3r_B:Cd:=
 Irg [Ibx 3 0 1,
 Ll 4 (.mv (.c (.bool false)))] [0,3]
 (Irg [Ipx 8 3,
 Ll 9 (Ofx F3i [(.t 8)]),
 Lw 10 0,
 Ll 11 (Ofx F42 []),
 Ipx 12 3,
 Ll 13 (Ofx F3t [(.t 10),(.t 11),(.t 12)]),
 Ibz 6 1,
 Lw 5 9,
 Ls (.store false Sx6 (.t 6) (.t 13))] [0,3,5,6]
 (.seq (Irg [Lw 14 5,
 Ibc 15 .lss 14 1] [0,3,5,6,15]
 (Icd 15
 (Irg [Ll 4 (.mv (.c (.bool false)))] [4]
 (.ret))
 (.skip)))
 (.seq (Irg [Imc 7 1] [0,3,5,6,7]
 (.block 0 (.loop (Z3r_L0))))
 (Irg [Ll 4 (.mv (.c (.bool true)))] [4]
 (.ret)))))
def Z3r:Fn:=
 { nparams:=2,nblk:=2,results:=[.tmp 4],body:=Z3r_B }
def Z3n_L0:Cd:=
 .seq (Irg [Lw 12 4,
 Lw 13 0,
 Ien 14 13,
 Ibn 15 .lss 12 14,
 Lw 16 15,
 Lx 17 4 16 true,
 Lg 18 (.bin .lss (.t 17) (Acx 4096)) 16 true,
 Ian 19 16 18] [0,3,4,19]
 (Icd 19
 (.skip)
 (.exit 0)))
 (.seq (.block 1 (.region [Lw 22 3,
 Lw 23 3,
 Ll 24 (.chk (.t 23)),
 Ll 25 (.fldA [.leaf,.leaf,.leaf] (.t 24) 2),
 Ilx 26 25,
 Ll 27 (.bin .mul (.t 26) (.c (.int .u64 1099511628211))),
 Lw 28 0,
 Lw 29 4,
 Iia 30 .leaf 28 29,
 Ilx 31 30,
 Icv 32 .u64 31,
 Ibn 33 .add 27 32,
 Ll 34 (.bin .add (.t 33) (.c (.int .u64 61))),
 Ll 35 (.chk (.t 22)),
 Ll 36 (.fldA [.leaf,.leaf,.leaf] (.t 35) 2),
 Ls (.store false .leaf (.t 36) (.t 34))] [0,3,4]))
 (.region [Lw 20 4,
 Ibc 21 .add 20 1,
 Lw 4 21] [0,3,4]))
def Z3n_B:Cd:=
 Irg [Ll 2 (.mv (.c .nilp))] [0]
 (Irg [Lw 5 0,
 Lw 6 0,
 Ien 7 6,
 Icv 8 .u64 7,
 Ll 9 (.bin .add (.c (.int .u64 12251)) (.t 8)),
 Ll 10 (.build true (.st [.leaf,.leaf,.leaf] [(.sl .leaf []),(.int .i64 0),(.int .u64 0)]) [(0,(.t 5)),(2,(.t 9))]),
 Ibx 11 0 10,
 Lw 3 11] [0,3]
 (.seq (Irg [Imc 4 0] [0,3,4]
 (.block 0 (.loop (Z3n_L0))))
 (Irg [Lw 37 3,
 Lw 2 37] [2]
 (.ret))))
def Z3n:Fn:=
 { nparams:=1,nblk:=1,results:=[.tmp 2],body:=Z3n_B }
def Z3w_B:Cd:=
 Irg [Imc 4 0] [0,1]
 (.seq (Irg [Lw 6 1,
 Ibc 7 .lss 6 1] [0,1,7]
 (Icd 7
 (Irg [Imc 4 0] [4]
 (.ret))
 (.skip)))
 (Irg [Lw 8 0,
 Lw 9 0,
 Ll 10 (.chk (.t 9)),
 Ll 11 (.fldA [.leaf,.leaf,.leaf] (.t 10) 2),
 Ilx 12 11,
 Ll 13 (.bin .mul (.t 12) (.c (.int .u64 6364136223846793005))),
 Ll 14 (.bin .add (.t 13) (.c (.int .u64 1442695040888963407))),
 Ll 15 (.chk (.t 8)),
 Ll 16 (.fldA [.leaf,.leaf,.leaf] (.t 15) 2),
 Ls (.store false .leaf (.t 16) (.t 14))] [0,1]
 (Irg [Lw 17 0,
 Ll 18 (.chk (.t 17)),
 Ll 19 (.fldA [.leaf,.leaf,.leaf] (.t 18) 2),
 Ilx 20 19,
 Ll 21 (.bin .shr (.t 20) (.c (.int .u64 33))),
 Ll 22 (.bin .and (.t 21) (.c (.int .u64 16777215))),
 Icv 23 .i64 22,
 Lw 5 23] [0,1,5]
 (.seq (Irg [Lw 24 0,
 Ll 25 (.chk (.t 24)),
 Ll 26 (.fldA [.leaf,.leaf,.leaf] (.t 25) 1),
 Ilx 27 26,
 Lw 28 0,
 Ll 29 (.chk (.t 28)),
 Ll 30 (.fldA [.leaf,.leaf,.leaf] (.t 29) 0),
 Ilx 31 30,
 Ien 32 31,
 Ibn 33 .lss 27 32] [0,1,5,33]
 (Icd 33
 (Irg [Lw 34 5,
 Lw 35 0,
 Ll 36 (.chk (.t 35)),
 Ll 37 (.fldA [.leaf,.leaf,.leaf] (.t 36) 0),
 Ilx 38 37,
 Lw 39 0,
 Ll 40 (.chk (.t 39)),
 Ll 41 (.fldA [.leaf,.leaf,.leaf] (.t 40) 1),
 Ilx 42 41,
 Iia 43 .leaf 38 42,
 Ilx 44 43,
 Icv 45 .i64 44,
 Ibn 46 .add 34 45,
 Lw 5 46] [0,1,5]
 (.region [Lw 47 0,
 Lw 48 0,
 Ll 49 (.chk (.t 48)),
 Ll 50 (.fldA [.leaf,.leaf,.leaf] (.t 49) 1),
 Ilx 51 50,
 Ibc 52 .add 51 1,
 Ll 53 (.chk (.t 47)),
 Ll 54 (.fldA [.leaf,.leaf,.leaf] (.t 53) 1),
 Ls (.store false .leaf (.t 54) (.t 52))] [1,5]))
 (.skip)))
 (Irg [Lw 55 5,
 Lw 56 1,
 Ibn 57 .rem 55 56,
 Lw 4 57] [4]
 (.ret))))))
def Z3w:Fn:=
 { nparams:=2,nblk:=0,results:=[.tmp 4],body:=Z3w_B }
def Z3l_L0:Cd:=
 .seq (Irg [Lw 21 10,
 Lw 22 9,
 Ibn 23 .lss 21 22] [0,1,2,6,7,8,9,10,23]
 (Icd 23
 (.skip)
 (.exit 2)))
 (.seq (.block 3 (.region [Lw 26 10,
 Lw 27 0,
 Lw 28 1,
 Ll 29 (.call .heap [] (.f F3w) [(.t 27),(.t 28)]),
 Icv 30 .u8 29,
 Iis 31 64 .leaf 7 26,
 Ls (.store false .leaf (.t 31) (.t 30))] [0,1,2,6,7,8,9,10]))
 (.region [Lw 24 10,
 Ibc 25 .add 24 1,
 Lw 10 25] [0,1,2,6,7,8,9,10]))
def Z3l_L1:Cd:=
 .seq (Irg [Lw 12 8,
 Ibc 13 .lss 12 4] [0,1,2,6,7,8,13]
 (Icd 13
 (.skip)
 (.exit 0)))
 (.seq (.block 1 (Irg [Lw 16 0,
 Lw 17 2,
 Ll 18 (.call .heap [] (.f F3w) [(.t 16),(.t 17)]),
 Ll 19 (.bin .add (Acx 1) (.t 18)),
 Lw 9 19] [0,1,2,6,7,8,9]
 (Irg [Iz6 20,
 Ls (.store false Sx6 (.t 7) (.t 20))] [0,1,2,6,7,8,9]
 (.seq (Irg [Imc 10 0] [0,1,2,6,7,8,9,10]
 (.block 2 (.loop (Z3l_L0))))
 (Irg [Lw 32 9,
 Iis 33 64 .leaf 7 32,
 Ls (.store false .leaf (.t 33) (.c (.int .u8 1)))] [0,1,2,6,7,8]
 (Irg [Lw 34 0,
 Ll 35 (.call .heap [] (.f F3w) [(.t 34),(Acx 3)]),
 Ibc 36 .eql 35 0,
 Lw 37 36,
 Lx 38 1 37 false,
 Lg 39 (.load Sx6 (.t 7)) 37 false,
 Lg 40 (Ofx F3r [(.t 38),(.t 39)]) 37 false,
 Ior 41 37 40] [0,1,2,6,7,8,41]
 (Icd 41
 (Irg [Ipx 42 7,
 Ls (.store false Sx6 (.t 6) (.t 42))] [6]
 (.ret))
 (.skip))))))))
 (.region [Lw 14 8,
 Ibc 15 .add 14 1,
 Lw 8 15] [0,1,2,6,7,8]))
def Z3l_B:Cd:=
 Irg [Ibz 6 0] [0,1,2,6]
 (Irg [Ll 11 (Ofx F42 []),
 Ibz 7 1,
 Ls (.store false Sx6 (.t 7) (.t 11))] [0,1,2,6,7]
 (.seq (Irg [Imc 8 0] [0,1,2,6,7,8]
 (.block 0 (.loop (Z3l_L1))))
 (Irg [Ipx 43 7,
 Ls (.store false Sx6 (.t 6) (.t 43))] [6]
 (.ret))))
def Z3l:Fn:=
 { nparams:=3,nblk:=2,results:=[.cell 6 Sx6],body:=Z3l_B }
def ir_spec_l01Draw_L0:Cd:=
 .seq (Irg [Lw 15 8,
 Ibc 16 .geq 15 0] [0,1,6,7,8,16]
 (Icd 16
 (.skip)
 (.exit 0)))
 (.seq (.block 1 (Irg [Lw 19 0,
 Ll 20 (.call .heap [] (.f F3w) [(.t 19),(Acx 3)]),
 Ibc 21 .gtr 20 0] [0,1,6,7,8,21]
 (Icd 21
 (.region [Lw 22 8,
 Lw 23 0,
 Lw 24 1,
 Ll 25 (.call .heap [] (.f F3w) [(.t 23),(.t 24)]),
 Icv 26 .u8 25,
 Iis 27 64 .leaf 7 22,
 Ls (.store false .leaf (.t 27) (.t 26))] [0,1,6,7,8])
 (.skip))))
 (.region [Lw 17 8,
 Ibc 18 .sub 17 1,
 Lw 8 18] [0,1,6,7,8]))
def ir_spec_l01Draw_B:Cd:=
 Irg [Ibz 6 0] [0,1,2,6]
 (Irg [Iz6 9,
 Ibz 7 1,
 Ls (.store false Sx6 (.t 7) (.t 9))] [0,1,2,6,7]
 (.seq (Irg [Lw 10 0,
 Lw 11 2,
 Ibc 12 .add 11 2,
 Ll 13 (.call .heap [] (.f F3w) [(.t 10),(.t 12)]),
 Ibc 14 .sub 13 1,
 Lw 8 14] [0,1,6,7,8]
 (.block 0 (.loop (ir_spec_l01Draw_L0))))
 (Irg [Ipx 28 7,
 Ls (.store false Sx6 (.t 6) (.t 28))] [6]
 (.ret))))
def Z3k:Fn:=
 { nparams:=3,nblk:=2,results:=[.cell 6 Sx6],body:=ir_spec_l01Draw_B }
def Z3z_B:Cd:=
 Irg [Imc 4 0] [0,1]
 (Irg [Lw 5 1,
 Lw 6 0,
 Lw 7 1,
 Ien 8 7,
 Ll 9 (.call .heap [] (.f F3w) [(.t 6),(.t 8)]),
 Iia 10 .leaf 5 9,
 Ilx 11 10,
 Lw 4 11] [4]
 (.ret))
def Z3z:Fn:=
 { nparams:=2,nblk:=0,results:=[.tmp 4],body:=Z3z_B }
def Z3m_B:Cd:=
 Irg [Imc 2 0] [0]
 (Irg [Lw 3 0,
 Ll 4 (.buildSl false 0 .leaf (.int .i64 0) 6 [(0,(Acx 2)),(1,(Acx 2)),(2,(Acx 3)),(3,(Acx 3)),(4,(Acx 5)),(5,(Acx 7))]),
 Ll 5 (.call .heap [] (.f F3z) [(.t 3),(.t 4)]),
 Lw 2 5] [2]
 (.ret))
def Z3m:Fn:=
 { nparams:=1,nblk:=1,results:=[.tmp 2],body:=Z3m_B }
def Z3f_B:Cd:=
 Irg [Ibx 5 0 2,
 Ibz 6 1] [0,1,5,6]
 (.seq (Irg [Lw 7 0,
 Ll 8 (.call .heap [] (.f F3w) [(.t 7),(Acx 40)]),
 Ibc 9 .eql 8 0] [0,1,5,6,9]
 (Icd 9
 (.region [Lw 10 0,
 Ll 11 (.call .heap [] (.f F3w) [(.t 10),(Acx 64)]),
 Lw 12 0,
 Lw 13 1,
 Ll 14 (.buildSl false 2 .leaf (.int .i64 0) 4 [(0,(.t 13)),(1,(Acx 7)),(2,(Acx 255)),(3,(Acx 1))]),
 Ll 15 (.call .heap [] (.f F3z) [(.t 12),(.t 14)]),
 Icv 16 .u8 15,
 Iis 17 64 .leaf 5 11,
 Ls (.store false .leaf (.t 17) (.t 16))] [5,6])
 (.skip)))
 (Irg [Ipx 18 5,
 Ls (.store false Sx6 (.t 6) (.t 18))] [6]
 (.ret)))
def Z3f:Fn:=
 { nparams:=3,nblk:=3,results:=[.cell 6 Sx6],body:=Z3f_B }
end Pe

/-
 Functions of the program in the small form,printed by a program.
-/
namespace Pe
open Go
def Z46_B:Cd:=
 Irg [Ibx 4 0 1,
 Imc 6 0] [0,2,4]
 (.seq (.block 0 (Irg [Lw 8 0,
 Ipx 9 4,
 Ll 10 (.buildSl false 1 Sx6 (.arr 64 .leaf z64) 1 [(0,(.t 9))]),
 Ll 11 (Ofx F3h [(.t 8),(.t 10)]),
 Ibc 12 .neq 11 0,
 Lw 13 12,
 Lx 14 0 13 false,
 Lx 15 2 13 false,
 Lg 16 (Ofx F3h [(.t 14),(.t 15)]) 13 false,
 Lg 17 (.bin .neq (.t 16) (Acx 0)) 13 false,
 Ior 18 13 17,
 Lw 7 18] [4,7]
 (Icd 7
 (Irg [Imc 6 1] [6]
 (.ret))
 (Irg [Ipx 20 4,
 Ll 21 (Ofx F3u [(.t 20)]),
 Ll 22 (.un .not (.t 21)),
 Lw 23 22,
 Lg 24 (.load Sx6 (.t 4)) 23 false,
 Lg 25 (Ofx F3i [(.t 24)]) 23 false,
 Lg 26 (Ofx F3p [(.t 25),(Acx 1),(Acx 5)]) 23 false,
 Lg 27 (.un .not (.t 26)) 23 false,
 Ior 28 23 27,
 Lw 19 28] [19]
 (Icd 19
 (Irg [Imc 6 2] [6]
 (.ret))
 (.skip))))))
 (Irg [Imc 6 0] [6]
 (.ret)))
def Z46:Fn:=
 { nparams:=3,nblk:=2,results:=[.tmp 6],body:=Z46_B }
def ir_spec_l02Draw_B:Cd:=
 Irg [Imc 2 0,
 Ibz 3 0,
 Ibz 4 1] [0,3,4]
 (Irg [Lw 8 0,
 Ll 9 (.call .heap [] (.f F3m) [(.t 8)]),
 Lw 5 9] [0,3,4,5]
 (Irg [Lw 10 0,
 Lw 11 5,
 Lw 12 0,
 Ll 13 (.buildSl false 2 .leaf (.int .i64 0) 3 [(0,(Acx 2)),(1,(Acx 4)),(2,(Acx 8))]),
 Ll 14 (.call .heap [] (.f F3z) [(.t 12),(.t 13)]),
 Ll 15 (.call .heap [] (.f F3k) [(.t 10),(.t 11),(.t 14)]),
 Lw 16 0,
 Lw 17 5,
 Lw 18 0,
 Ll 19 (.buildSl false 3 .leaf (.int .i64 0) 4 [(0,(Acx 2)),(1,(Acx 3)),(2,(Acx 4)),(3,(Acx 5))]),
 Ll 20 (.call .heap [] (.f F3z) [(.t 18),(.t 19)]),
 Ll 21 (.call .heap [] (.f F3l) [(.t 16),(.t 17),(.t 20)]),
 Ibz 6 4,
 Ibz 7 5,
 Ls (.store false Sx6 (.t 6) (.t 15)),
 Ls (.store false Sx6 (.t 7) (.t 21))] [0,3,4,5,6,7]
 (.seq (Irg [Lw 22 0,
 Ll 23 (.call .heap [] (.f F3w) [(.t 22),(Acx 40)])] [0,3,4,5,6,7,23]
 (.block 0 (Irg [Ibc 25 .eql 23 0,
 Lw 24 25] [0,3,4,5,6,7,23,24]
 (Icd 24
 (.region [Lw 26 0,
 Ll 27 (.buildSl false 6 .leaf (.int .i64 0) 4 [(0,(Acx 0)),(1,(Acx 1)),(2,(Acx 4)),(3,(Acx 11))]),
 Ll 28 (.call .heap [] (.f F3z) [(.t 26),(.t 27)]),
 Lw 5 28] [3,4,5,6,7])
 (Irg [Ibc 30 .eql 23 1,
 Lw 29 30] [0,3,4,5,6,7,23,29]
 (Icd 29
 (.region [Lw 31 0,
 Lw 32 5,
 Ll 33 (.call .heap [] (.f F3k) [(.t 31),(.t 32),(Acx 7)]),
 Ls (.store false Sx6 (.t 7) (.t 33))] [3,4,5,6,7])
 (Irg [Ibc 35 .eql 23 2,
 Lw 34 35] [0,3,4,5,6,7,34]
 (Icd 34
 (.region [Lw 36 0,
 Lw 37 5,
 Ipx 38 6,
 Ll 39 (.call .heap [] (.f F3f) [(.t 36),(.t 37),(.t 38)]),
 Ls (.store false Sx6 (.t 6) (.t 39))] [3,4,5,6,7])
 (.skip)))))))))
 (Irg [Lw 40 5,
 Ipx 41 6,
 Ipx 42 7,
 Lw 2 40,
 ⟨none,.store false Sx6 (.t 3) (.t 41),none,[7]⟩,
 Ls (.store false Sx6 (.t 4) (.t 42))] [2,3,4]
 (.ret)))))
def Z45:Fn:=
 { nparams:=1,nblk:=7,results:=[.tmp 2,.cell 3 Sx6,.cell 4 Sx6],body:=ir_spec_l02Draw_B }
end Pe

/-
 Functions of the program in the small form,printed by a program.
-/
namespace Pe
open Go
def Z4b_B:Cd:=
 Irg [Ibx 4 0 1,
 Ibx 5 1 2,
 Ibz 6 2] [0,4,5,6]
 (Irg [Lw 7 0,
 Lw 8 0,
 Lw 9 0,
 Ll 10 (Ofx F42 []),
 Ipx 11 5,
 Ll 12 (Ofx F3t [(.t 9),(.t 10),(.t 11)]),
 Ipx 13 4,
 Ipx 14 5,
 Ll 15 (Ofx F3v [(.t 8),(.t 12),(.t 13),(.t 14)]),
 Lw 16 0,
 Ipx 17 4,
 Lw 18 0,
 Ipx 19 5,
 Ll 20 (Ofx F40 [(.t 16),(.t 17),(.t 18),(.t 19)]),
 Ll 21 (Ofx F3e [(.t 7),(.t 15),(.t 20),(Acx 1)]),
 Ls (.store false Sx6 (.t 6) (.t 21))] [6]
 (.ret))
def Z4b:Fn:=
 { nparams:=3,nblk:=3,results:=[.cell 6 Sx6],body:=Z4b_B }
def Z48_L0:Cd:=
 .seq (Irg [Lw 38 15,
 Lw 39 7,
 Ibn 40 .lss 38 39] [0,5,6,7,8,9,10,11,12,13,14,15,40]
 (Icd 40
 (.skip)
 (.exit 4)))
 (.seq (.block 5 (.region [Lw 43 14,
 Lw 44 7,
 Ibn 45 .mul 43 44,
 Lw 46 15,
 Ibn 47 .add 45 46,
 Lw 48 10,
 Lw 49 14,
 Lw 50 15,
 Iia 51 Sx6 48 49,
 Iis 52 64 .leaf 51 50,
 Ilx 53 52,
 Iis 54 64 .leaf 12 47,
 Ls (.store false .leaf (.t 54) (.t 53))] [0,5,6,7,8,9,10,11,12,13,14,15]))
 (.region [Lw 41 15,
 Ibc 42 .add 41 1,
 Lw 15 42] [0,5,6,7,8,9,10,11,12,13,14,15]))
def Z48_L1:Cd:=
 .seq (Irg [Lw 32 14,
 Lw 33 10,
 Ien 34 33,
 Ibn 35 .lss 32 34] [0,5,6,7,8,9,10,11,12,13,14,35]
 (Icd 35
 (.skip)
 (.exit 2)))
 (.seq (.block 3 (.seq (Irg [Imc 15 0] [0,5,6,7,8,9,10,11,12,13,14,15]
 (.block 4 (.loop (Z48_L0))))
 (.region [Lw 55 10,
 Lw 56 14,
 Lw 57 0,
 Lw 58 10,
 Lw 59 14,
 Iia 60 Sx6 58 59,
 Ipx 61 60,
 Ipx 62 5,
 Ll 63 (Ofx F4b [(.t 57),(.t 61),(.t 62)]),
 Iia 64 Sx6 55 56,
 Ls (.store false Sx6 (.t 64) (.t 63))] [0,5,6,7,8,9,10,11,12,13,14])))
 (.region [Lw 36 14,
 Ibc 37 .add 36 1,
 Lw 14 37] [0,5,6,7,8,9,10,11,12,13,14]))
def Z48_L2:Cd:=
 .seq (Irg [Lw 67 16,
 Lw 68 8,
 Ien 69 68,
 Ibn 70 .lss 67 69] [0,5,6,7,8,9,10,11,12,13,16,70]
 (Icd 70
 (.skip)
 (.exit 6)))
 (.seq (.block 7 (Irg [Lw 73 8,
 Lw 74 16,
 Iia 75 Sx6 73 74,
 Ipx 76 75,
 Ll 77 (Ofx F3i [(.t 76)]),
 Lw 17 77] [0,5,6,7,8,9,10,11,12,13,16,17]
 (Irg [Lw 78 17,
 Iis 79 64 .leaf 12 78,
 Ilx 80 79,
 Ll 81 (.bin .neq (.t 80) (.c (.int .u8 0)))] [0,5,6,7,8,9,10,11,12,13,16,17,81]
 (Icd 81
 (Irg [Lw 82 17,
 Iis 83 64 .leaf 12 82,
 Ilx 84 83,
 Icv 85 .i64 84,
 Ll 86 (.un .neg (.t 85)),
 Lw 18 86] [0,5,6,7,8,9,10,11,12,13,16,18]
 (Irg [Lw 87 0,
 Ipx 88 12,
 Lw 89 8,
 Lw 90 16,
 Iia 91 Sx6 89 90,
 Ipx 92 91,
 Lw 93 18,
 Ll 94 (Ofx F3e [(.t 87),(.t 88),(.t 92),(.t 93)]),
 Ls (.store false Sx6 (.t 12) (.t 94))] [0,5,6,7,8,9,10,11,12,13,16,18]
 (.region [Lw 95 0,
 Ipx 96 13,
 Lw 97 9,
 Lw 98 16,
 Iia 99 Sx6 97 98,
 Ipx 100 99,
 Lw 101 18,
 Ll 102 (Ofx F3e [(.t 95),(.t 96),(.t 100),(.t 101)]),
 Ls (.store false Sx6 (.t 13) (.t 102))] [0,5,6,7,8,9,10,11,12,13,16])))
 (.skip)))))
 (.region [Lw 71 16,
 Ibc 72 .add 71 1,
 Lw 16 72] [0,5,6,7,8,9,10,11,12,13,16]))
def Z48_L3:Cd:=
 .seq (.block 1 (Irg [Iz6 30,
 Iz6 31,
 Ibz 12 6,
 Ibz 13 7,
 Ls (.store false Sx6 (.t 12) (.t 30)),
 Ls (.store false Sx6 (.t 13) (.t 31))] [0,5,6,7,8,9,10,11,12,13]
 (.seq (Irg [Imc 14 0] [0,5,6,7,8,9,10,11,12,13,14]
 (.block 2 (.loop (Z48_L1))))
 (Irg [Lw 65 11,
 Iis 66 64 .leaf 13 65,
 Ls (.store false .leaf (.t 66) (.c (.int .u8 1)))] [0,5,6,7,8,9,10,11,12,13]
 (.seq (Irg [Imc 16 0] [0,5,6,7,8,9,10,11,12,13,16]
 (.block 6 (.loop (Z48_L2))))
 (Irg [Ipx 103 12,
 Ll 104 (Ofx F3i [(.t 103)]),
 Lw 19 104] [0,5,6,7,8,9,10,11,12,13,19]
 (.seq (Irg [Lw 105 19,
 Ibc 106 .lss 105 0] [0,5,6,7,8,9,10,11,12,13,19,106]
 (Icd 106
 (Irg [Ipx 107 13,
 Ls (.store false Sx6 (.t 6) (.t 107))] [6]
 (.ret))
 (.skip)))
 (Irg [Lw 108 0,
 Lw 109 19,
 Iis 110 64 .leaf 12 109,
 Ilx 111 110,
 Ll 112 (Ofx F3q [(.t 108),(.t 111)]),
 Icv 113 .i64 112,
 Lw 20 113] [0,5,6,7,8,9,10,11,12,13,20]
 (Irg [Lw 114 8,
 Lw 115 0,
 Iz6 116,
 Ipx 117 12,
 Lw 118 20,
 Ll 119 (Ofx F3e [(.t 115),(.t 116),(.t 117),(.t 118)]),
 Ll 120 (.buildSl false 8 Sx6 (.arr 64 .leaf z64) 1 [(0,(.t 119))]),
 Ll 121 (.append Sx6 9 64 (.t 114) (.t 120)),
 Lw 8 121] [0,5,6,7,8,9,10,11,13,20]
 (.region [Lw 122 9,
 Lw 123 0,
 Iz6 124,
 Ipx 125 13,
 Lw 126 20,
 Ll 127 (Ofx F3e [(.t 123),(.t 124),(.t 125),(.t 126)]),
 Ll 128 (.buildSl false 10 Sx6 (.arr 64 .leaf z64) 1 [(0,(.t 127))]),
 Ll 129 (.append Sx6 11 64 (.t 122) (.t 128)),
 Lw 9 129] [0,5,6,7,8,9,10,11]))))))))))
 (.region [Lw 28 11,
 Ibc 29 .add 28 1,
 Lw 11 29] [0,5,6,7,8,9,10,11])
def Z48_B:Cd:=
 Irg [Ibx 5 0 2,
 Ibz 6 1] [0,1,5,6]
 (Irg [Ipx 21 5,
 Ll 22 (Ofx F3i [(.t 21)]),
 Lw 7 22] [0,1,5,6,7]
 (Irg [Ll 23 (.buildSl false 2 Sx6 (.arr 64 .leaf z64) 0 []),
 Ll 24 (.buildSl false 3 Sx6 (.arr 64 .leaf z64) 0 []),
 Lw 8 23,
 Lw 9 24] [0,1,5,6,7,8,9]
 (Irg [Ll 25 (.buildSl false 4 Sx6 (.arr 64 .leaf z64) 0 []),
 Lw 26 1,
 Ll 27 (.append Sx6 5 64 (.t 25) (.t 26)),
 Lw 10 27] [0,5,6,7,8,9,10]
 (Irg [Imc 11 0] [0,5,6,7,8,9,10,11]
 (.block 0 (.loop (Z48_L3)))))))
def Z48:Fn:=
 { nparams:=3,nblk:=12,results:=[.cell 6 Sx6],body:=Z48_B }
def Z49_L0:Cd:=
 .seq (Irg [Lw 9 6,
 Ipx 10 3,
 Ll 11 (Ofx F3i [(.t 10)]),
 Ibn 12 .lss 9 11] [0,3,4,5,6,12]
 (Icd 12
 (.skip)
 (.exit 0)))
 (.seq (.block 1 (Irg [Iz6 15,
 Ibz 7 3,
 Ls (.store false Sx6 (.t 7) (.t 15))] [0,3,4,5,6,7]
 (Irg [Lw 16 6,
 Iis 17 64 .leaf 7 16,
 Ls (.store false .leaf (.t 17) (.c (.int .u8 1)))] [0,3,4,5,6,7]
 (.region [Lw 18 5,
 Ipx 19 7,
 Ll 20 (.buildSl false 4 Sx6 (.arr 64 .leaf z64) 1 [(0,(.t 19))]),
 Ll 21 (.append Sx6 5 64 (.t 18) (.t 20)),
 Lw 5 21] [0,3,4,5,6]))))
 (.region [Lw 13 6,
 Ibc 14 .add 13 1,
 Lw 6 14] [0,3,4,5,6]))
def Z49_B:Cd:=
 Irg [Ibx 3 0 1,
 Ibz 4 1] [0,3,4]
 (Irg [Ll 8 (.buildSl false 2 Sx6 (.arr 64 .leaf z64) 0 []),
 Lw 5 8] [0,3,4,5]
 (.seq (Irg [Imc 6 0] [0,3,4,5,6]
 (.block 0 (.loop (Z49_L0))))
 (Irg [Lw 22 0,
 Lw 23 5,
 Ipx 24 3,
 Ll 25 (Ofx F48 [(.t 22),(.t 23),(.t 24)]),
 Ls (.store false Sx6 (.t 4) (.t 25))] [4]
 (.ret))))
def Z49:Fn:=
 { nparams:=2,nblk:=6,results:=[.cell 4 Sx6],body:=Z49_B }
def Z3c_B:Cd:=
 Irg [Ibx 3 0 1,
 Ibz 4 1,
 Imc 5 0] [0,3,4]
 (.seq (Irg [Lw 7 0,
 Ipx 8 3,
 Ll 9 (Ofx F46 [(.t 7),(.t 8),(.c (.sl Sx6 []))]),
 Lw 6 9] [0,3,4,6]
 (Irg [Lw 10 6,
 Ibc 11 .neq 10 0] [0,3,4,6,11]
 (Icd 11
 (Irg [Iz6 12,
 Lw 13 6,
 Ls (.store false Sx6 (.t 4) (.t 12)),
 Lw 5 13] [4,5]
 (.ret))
 (.skip))))
 (Irg [Lw 14 0,
 Ipx 15 3,
 Ll 16 (Ofx F49 [(.t 14),(.t 15)]),
 Ls (.store false Sx6 (.t 4) (.t 16)),
 Imc 5 0] [4,5]
 (.ret)))
def Z3c:Fn:=
 { nparams:=2,nblk:=2,results:=[.cell 4 Sx6,.tmp 5],body:=Z3c_B }
def Z3b_B:Cd:=
 Irg [Imc 2 0,
 Ibz 3 0,
 Ibz 4 1] [0,3,4]
 (Irg [Lw 11 0,
 Ll 12 (.call .heap [2] (.f F3n) [(.t 11)]),
 Lw 5 12] [3,4,5]
 (Irg [Lw 14 5,
 Ll 15 (.call .heap [] (.f F45) [(.t 14)]),
 Lw 13 15,
 Iex 16 13 0,
 Iex 17 13 1,
 Iex 18 13 2,
 Ibz 7 3,
 Ibz 8 4,
 Lw 6 16,
 Ls (.store false Sx6 (.t 7) (.t 17)),
 Ls (.store false Sx6 (.t 8) (.t 18))] [3,4,5,6,7,8]
 (.seq (Irg [Lw 20 6,
 Ipx 21 8,
 Ll 22 (Ofx F3c [(.t 20),(.t 21)]),
 Lw 19 22,
 Iex 23 19 0,
 Iex 24 19 1,
 Ibz 9 5,
 Ls (.store false Sx6 (.t 9) (.t 23)),
 Lw 10 24] [3,4,5,6,7,8,9,10]
 (Irg [Lw 25 10,
 Ibc 26 .eql 25 0,
 Lw 27 26,
 Lx 28 5 27 true,
 Lg 29 (.call .heap [] (.f F3w) [(.t 28),(Acx 3)]) 27 true,
 Lg 30 (.bin .eql (.t 29) (Acx 0)) 27 true,
 Ian 31 27 30] [3,4,6,7,8,9,31]
 (Icd 31
 (.region [Ipx 32 9,
 Ls (.store false Sx6 (.t 7) (.t 32))] [3,4,6,7,8])
 (.skip))))
 (Irg [Lw 33 6,
 Ipx 34 7,
 Ipx 35 8,
 Lw 2 33,
 ⟨none,.store false Sx6 (.t 3) (.t 34),none,[8]⟩,
 Ls (.store false Sx6 (.t 4) (.t 35))] [2,3,4]
 (.ret)))))
def Z3b:Fn:=
 { nparams:=1,nblk:=6,results:=[.tmp 2,.cell 3 Sx6,.cell 4 Sx6],body:=Z3b_B }
def Z4a_L0:Cd:=
 .seq (Irg [Lw 14 8,
 Lw 15 1,
 Ien 16 15,
 Ibn 17 .lss 14 16] [0,1,5,8,17]
 (Icd 17
 (.skip)
 (.exit 0)))
 (.seq (.block 1 (Irg [Lw 20 1,
 Lw 21 8,
 Iia 22 Sx6 20 21,
 Ipx 23 22,
 Ll 24 (Ofx F3i [(.t 23)]),
 Lw 9 24] [0,1,5,8,9]
 (Irg [Lw 25 9,
 Iis 26 64 .leaf 5 25,
 Ilx 27 26,
 Ll 28 (.bin .neq (.t 27) (.c (.int .u8 0)))] [0,1,5,8,9,28]
 (Icd 28
 (.region [Lw 29 0,
 Ipx 30 5,
 Lw 31 1,
 Lw 32 8,
 Iia 33 Sx6 31 32,
 Ipx 34 33,
 Lw 35 9,
 Iis 36 64 .leaf 5 35,
 Ilx 37 36,
 Icv 38 .i64 37,
 Ll 39 (.un .neg (.t 38)),
 Ll 40 (Ofx F3e [(.t 29),(.t 30),(.t 34),(.t 39)]),
 Ls (.store false Sx6 (.t 5) (.t 40))] [0,1,5,8])
 (.skip)))))
 (.region [Lw 18 8,
 Ibc 19 .add 18 1,
 Lw 8 19] [0,1,5,8]))
def Z4a_L1:Cd:=
 .seq (Irg [Lw 57 13,
 Lw 58 1,
 Ien 59 58,
 Ibn 60 .lss 57 59] [0,1,10,11,12,13,60]
 (Icd 60
 (.skip)
 (.exit 2)))
 (.seq (.block 3 (.region [Lw 63 12,
 Lw 64 0,
 Lw 65 1,
 Lw 66 13,
 Iia 67 Sx6 65 66,
 Ipx 68 67,
 Ipx 69 11,
 Lw 70 1,
 Lw 71 13,
 Lw 72 10,
 Iia 73 Sx6 70 71,
 Iis 74 64 .leaf 73 72,
 Ilx 75 74,
 Icv 76 .i64 75,
 Ll 77 (.un .neg (.t 76)),
 Ll 78 (Ofx F3e [(.t 64),(.t 68),(.t 69),(.t 77)]),
 Ll 79 (.buildSl false 3 Sx6 (.arr 64 .leaf z64) 1 [(0,(.t 78))]),
 Ll 80 (.append Sx6 4 64 (.t 63) (.t 79)),
 Lw 12 80] [0,1,10,11,12,13]))
 (.region [Lw 61 13,
 Ibc 62 .add 61 1,
 Lw 13 62] [0,1,10,11,12,13]))
def Z4a_B:Cd:=
 Irg [Ibx 5 0 2,
 Ll 6 (.mv (.c (.sl Sx6 []))),
 Ll 7 (.mv (.c (.bool false)))] [0,1,5]
 (.seq (Irg [Imc 8 0] [0,1,5,8]
 (.block 0 (.loop (Z4a_L0))))
 (Irg [Ipx 41 5,
 Ll 42 (Ofx F3i [(.t 41)]),
 Lw 10 42] [0,1,5,10]
 (.seq (Irg [Lw 43 10,
 Ibc 44 .lss 43 0] [0,1,5,10,44]
 (Icd 44
 (Irg [Lw 45 1,
 Lw 6 45,
 Ll 7 (.mv (.c (.bool true)))] [6,7]
 (.ret))
 (.skip)))
 (Irg [Lw 46 0,
 Iz6 47,
 Ipx 48 5,
 Lw 49 0,
 Lw 50 10,
 Iis 51 64 .leaf 5 50,
 Ilx 52 51,
 Ll 53 (Ofx F3q [(.t 49),(.t 52)]),
 Icv 54 .i64 53,
 Ll 55 (Ofx F3e [(.t 46),(.t 47),(.t 48),(.t 54)]),
 Ibz 11 1,
 Ls (.store false Sx6 (.t 11) (.t 55))] [0,1,10,11]
 (Irg [Ll 56 (.buildSl false 2 Sx6 (.arr 64 .leaf z64) 0 []),
 Lw 12 56] [0,1,10,11,12]
 (.seq (Irg [Imc 13 0] [0,1,10,11,12,13]
 (.block 2 (.loop (Z4a_L1))))
 (Irg [Lw 81 12,
 Ipx 82 11,
 Ll 83 (.buildSl false 5 Sx6 (.arr 64 .leaf z64) 1 [(0,(.t 82))]),
 Ll 84 (.append Sx6 6 64 (.t 81) (.t 83)),
 Lw 6 84,
 Ll 7 (.mv (.c (.bool false)))] [6,7]
 (.ret))))))))
def Z4a:Fn:=
 { nparams:=3,nblk:=7,results:=[.tmp 6,.tmp 7],body:=Z4a_B }
def Z47_L0:Cd:=
 .seq (Irg [Lw 17 11,
 Ipx 18 5,
 Ll 19 (Ofx F3i [(.t 18)]),
 Ibn 20 .leq 17 19] [0,5,7,8,9,10,11,20]
 (Icd 20
 (.skip)
 (.exit 0)))
 (.seq (.block 1 (Irg [Lw 23 0,
 Ipx 24 9,
 Ipx 25 10,
 Lw 26 11,
 Iis 27 64 .leaf 5 26,
 Ilx 28 27,
 Icv 29 .i64 28,
 Ll 30 (Ofx F3e [(.t 23),(.t 24),(.t 25),(.t 29)]),
 Ls (.store false Sx6 (.t 9) (.t 30))] [0,5,7,8,9,10,11]
 (.region [Lw 31 0,
 Ipx 32 10,
 Ipx 33 7,
 Ll 34 (Ofx F4b [(.t 31),(.t 32),(.t 33)]),
 Ls (.store false Sx6 (.t 10) (.t 34))] [0,5,7,8,9,10,11])))
 (.region [Lw 21 11,
 Ibc 22 .add 21 1,
 Lw 11 22] [0,5,7,8,9,10,11]))
def Z47_B:Cd:=
 Irg [Ibx 5 0 1,
 Ibx 6 1 2,
 Ibx 7 2 3,
 Ibz 8 3] [0,5,6,7,8]
 (Irg [Iz6 12,
 Lw 13 0,
 Ipx 14 6,
 Ipx 15 7,
 Ll 16 (Ofx F3t [(.t 13),(.t 14),(.t 15)]),
 Ibz 9 4,
 Ibz 10 5,
 Ls (.store false Sx6 (.t 9) (.t 12)),
 Ls (.store false Sx6 (.t 10) (.t 16))] [0,5,7,8,9,10]
 (.seq (Irg [Imc 11 0] [0,5,7,8,9,10,11]
 (.block 0 (.loop (Z47_L0))))
 (Irg [Ipx 35 9,
 Ls (.store false Sx6 (.t 8) (.t 35))] [8]
 (.ret))))
def Z47:Fn:=
 { nparams:=4,nblk:=6,results:=[.cell 8 Sx6],body:=Z47_B }
def Z3d_L0:Cd:=
 .seq (Irg [Lw 23 10,
 Ipx 24 5,
 Ll 25 (Ofx F3i [(.t 24)]),
 Ibn 26 .lss 23 25] [0,4,5,9,10,26]
 (Icd 26
 (.skip)
 (.exit 0)))
 (.seq (.block 1 (Irg [Iz6 29,
 Ibz 11 4,
 Ls (.store false Sx6 (.t 11) (.t 29))] [0,4,5,9,10,11]
 (Irg [Lw 30 10,
 Iis 31 64 .leaf 11 30,
 Ls (.store false .leaf (.t 31) (.c (.int .u8 1)))] [0,4,5,9,10,11]
 (Irg [Lw 33 0,
 Lw 34 9,
 Lw 35 0,
 Ipx 36 4,
 Ipx 37 11,
 Ipx 38 5,
 Ll 39 (Ofx F47 [(.t 35),(.t 36),(.t 37),(.t 38)]),
 Ll 40 (.call .data [] (.f F4a) [(.t 33),(.t 34),(.t 39)]),
 Lw 32 40,
 Iex 41 32 0,
 Iex 42 32 1,
 Lw 12 41,
 Lw 13 42] [0,4,5,10,12]
 (.region [Lw 43 12,
 Lw 9 43] [0,4,5,9,10])))))
 (.region [Lw 27 10,
 Ibc 28 .add 27 1,
 Lw 10 28] [0,4,5,9,10]))
def Z3d_B:Cd:=
 Irg [Ibx 4 0 1,
 Ibx 5 1 2,
 Imc 6 0,
 Imc 7 0] [0,4,5]
 (.seq (Irg [Lw 14 0,
 Ipx 15 5,
 Ipx 16 4,
 Ll 17 (.buildSl false 2 Sx6 (.arr 64 .leaf z64) 1 [(0,(.t 16))]),
 Ll 18 (Ofx F46 [(.t 14),(.t 15),(.t 17)]),
 Lw 8 18] [0,4,5,8]
 (Irg [Lw 19 8,
 Ibc 20 .neq 19 0] [0,4,5,8,20]
 (Icd 20
 (Irg [Lw 21 8,
 Imc 6 0,
 Lw 7 21] [6,7]
 (.ret))
 (.skip))))
 (Irg [Ll 22 (.buildSl false 3 Sx6 (.arr 64 .leaf z64) 0 []),
 Lw 9 22] [0,4,5,9]
 (.seq (Irg [Imc 10 0] [0,4,5,9,10]
 (.block 0 (.loop (Z3d_L0))))
 (Irg [Ipx 44 5,
 Ll 45 (Ofx F3i [(.t 44)]),
 Lw 46 9,
 Ien 47 46,
 Ibn 48 .sub 45 47,
 Lw 6 48,
 Imc 7 0] [6,7]
 (.ret)))))
def Z3d:Fn:=
 { nparams:=3,nblk:=5,results:=[.tmp 6,.tmp 7],body:=Z3d_B }
def Z39_B:Cd:=
 Irg [Imc 2 0,
 Ibz 3 0,
 Ibz 4 1] [0,3,4]
 (Irg [Lw 9 0,
 Ll 10 (.call .heap [2] (.f F3n) [(.t 9)]),
 Ll 11 (.call .heap [] (.f F45) [(.t 10)]),
 Lw 8 11,
 Iex 12 8 0,
 Iex 13 8 1,
 Iex 14 8 2,
 Ibz 6 3,
 Ibz 7 4,
 Lw 5 12,
 Ls (.store false Sx6 (.t 6) (.t 13)),
 Ls (.store false Sx6 (.t 7) (.t 14))] [3,4,5,6,7]
 (Irg [Lw 15 5,
 Ipx 16 6,
 Ipx 17 7,
 Lw 2 15,
 ⟨none,.store false Sx6 (.t 3) (.t 16),none,[7]⟩,
 Ls (.store false Sx6 (.t 4) (.t 17))] [2,3,4]
 (.ret)))
def Z39:Fn:=
 { nparams:=1,nblk:=5,results:=[.tmp 2,.cell 3 Sx6,.cell 4 Sx6],body:=Z39_B }
def Z36_B:Cd:=
 Irg [Ibx 4 0 1,
 Ibx 5 1 2,
 Ibz 6 2,
 Imc 7 0] [0,4,5,6]
 (.seq (Irg [Lw 9 0,
 Ipx 10 5,
 Ipx 11 4,
 Ll 12 (.buildSl false 3 Sx6 (.arr 64 .leaf z64) 1 [(0,(.t 11))]),
 Ll 13 (Ofx F46 [(.t 9),(.t 10),(.t 12)]),
 Lw 8 13] [0,4,5,6,8]
 (Irg [Lw 14 8,
 Ibc 15 .neq 14 0] [0,4,5,6,8,15]
 (Icd 15
 (Irg [Iz6 16,
 Lw 17 8,
 Ls (.store false Sx6 (.t 6) (.t 16)),
 Lw 7 17] [6,7]
 (.ret))
 (.skip))))
 (Irg [Lw 18 0,
 Lw 19 0,
 Ipx 20 4,
 Ipx 21 5,
 Ll 22 (Ofx F3t [(.t 19),(.t 20),(.t 21)]),
 Ll 23 (.buildSl false 4 Sx6 (.arr 64 .leaf z64) 1 [(0,(.t 22))]),
 Ipx 24 5,
 Ll 25 (Ofx F48 [(.t 18),(.t 23),(.t 24)]),
 Ls (.store false Sx6 (.t 6) (.t 25)),
 Imc 7 0] [6,7]
 (.ret)))
def Z36:Fn:=
 { nparams:=3,nblk:=5,results:=[.cell 6 Sx6,.tmp 7],body:=Z36_B }
def Z37_L0:Cd:=
 .seq (.block 1 (Irg [Lw 28 0,
 Lw 29 8,
 Ll 30 (Ofx F3x [(.t 28),(.t 29)]),
 Ibz 9 2,
 Ls (.store false Sx6 (.t 9) (.t 30))] [0,3,4,7,8,9]
 (Irg [Lw 31 0,
 Ipx 32 9,
 Ll 33 (.buildSl false 3 Sx6 (.arr 64 .leaf z64) 1 [(0,(.t 32))]),
 Ipx 34 3,
 Ll 35 (Ofx F48 [(.t 31),(.t 33),(.t 34)]),
 Ll 36 (Ofx F3i [(.t 35)]),
 Lw 37 7,
 Ibn 38 .eql 36 37] [0,3,4,7,8,9,38]
 (Icd 38
 (Irg [Ipx 39 9,
 Ls (.store false Sx6 (.t 4) (.t 39)),
 Imc 5 0] [4,5]
 (.ret))
 (.skip)))))
 (.region [Lw 26 8,
 Ibc 27 .add 26 1,
 Lw 8 27] [0,3,4,7,8])
def Z37_B:Cd:=
 Irg [Ibx 3 0 1,
 Ibz 4 1,
 Imc 5 0] [0,3,4]
 (.seq (Irg [Lw 10 0,
 Ipx 11 3,
 Ll 12 (Ofx F46 [(.t 10),(.t 11),(.c (.sl Sx6 []))]),
 Lw 6 12] [0,3,4,6]
 (Irg [Lw 13 6,
 Ibc 14 .neq 13 0] [0,3,4,6,14]
 (Icd 14
 (Irg [Iz6 15,
 Lw 16 6,
 Ls (.store false Sx6 (.t 4) (.t 15)),
 Lw 5 16] [4,5]
 (.ret))
 (.skip))))
 (Irg [Ipx 17 3,
 Ll 18 (Ofx F3i [(.t 17)]),
 Lw 7 18] [0,3,4,7]
 (.seq (Irg [Lw 19 0,
 Ipx 20 3,
 Ll 21 (Ofx F49 [(.t 19),(.t 20)]),
 Ll 22 (Ofx F3i [(.t 21)]),
 Lw 23 7,
 Ibn 24 .lss 22 23] [0,3,4,7,24]
 (Icd 24
 (Irg [Iz6 25,
 Ls (.store false Sx6 (.t 4) (.t 25)),
 Imc 5 5] [4,5]
 (.ret))
 (.skip)))
 (Irg [Imc 8 1] [0,3,4,7,8]
 (.block 0 (.loop (Z37_L0)))))))
def Z37:Fn:=
 { nparams:=2,nblk:=4,results:=[.cell 4 Sx6,.tmp 5],body:=Z37_B }
def Z3a_B:Cd:=
 Irg [Imc 2 0,
 Ibz 3 0,
 Ibz 4 1] [0,3,4]
 (Irg [Lw 9 0,
 Ll 10 (.call .heap [2] (.f F3n) [(.t 9)]),
 Lw 5 10] [3,4,5]
 (Irg [Lw 12 5,
 Ll 13 (.call .heap [] (.f F45) [(.t 12)]),
 Lw 11 13,
 Iex 14 11 0,
 Iex 15 11 1,
 Iex 16 11 2,
 Ibz 7 3,
 Ibz 8 4,
 Lw 6 14,
 Ls (.store false Sx6 (.t 7) (.t 15)),
 Ls (.store false Sx6 (.t 8) (.t 16))] [3,4,5,6,7,8]
 (.seq (Irg [Lw 17 6,
 Ll 18 (Ofx F41 [(.t 17)]),
 Lw 19 18,
 Lx 20 5 19 true,
 Lg 21 (.call .heap [] (.f F3w) [(.t 20),(Acx 6)]) 19 true,
 Lg 22 (.bin .gtr (.t 21) (Acx 0)) 19 true,
 Ian 23 19 22] [3,4,5,6,7,8,23]
 (Icd 23
 (.region [Lw 24 5,
 Lw 25 6,
 Ll 26 (.call .heap [] (.f F3l) [(.t 24),(.t 25),(Acx 3)]),
 Ls (.store false Sx6 (.t 8) (.t 26))] [3,4,6,7,8])
 (.skip)))
 (Irg [Lw 27 6,
 Ipx 28 7,
 Ipx 29 8,
 Lw 2 27,
 ⟨none,.store false Sx6 (.t 3) (.t 28),none,[8]⟩,
 Ls (.store false Sx6 (.t 4) (.t 29))] [2,3,4]
 (.ret)))))
def Z3a:Fn:=
 { nparams:=1,nblk:=5,results:=[.tmp 2,.cell 3 Sx6,.cell 4 Sx6],body:=Z3a_B }
def Z38_B:Cd:=
 Irg [Ibx 4 0 1,
 Ibx 5 1 2,
 Ibz 6 2,
 Imc 7 0] [0,4,5,6]
 (.seq (.block 0 (Irg [Lw 14 0,
 Ipx 15 4,
 Ipx 16 5,
 Ll 17 (.buildSl false 3 Sx6 (.arr 64 .leaf z64) 2 [(0,(.t 15)),(1,(.t 16))]),
 Ll 18 (Ofx F3h [(.t 14),(.t 17)]),
 Ibc 19 .neq 18 0,
 Lw 13 19] [0,4,5,6,13]
 (Icd 13
 (Irg [Iz6 20,
 Ls (.store false Sx6 (.t 6) (.t 20)),
 Imc 7 1] [6,7]
 (.ret))
 (Irg [Ipx 22 5,
 Ll 23 (Ofx F3u [(.t 22)]),
 Ll 24 (.un .not (.t 23)),
 Lw 25 24,
 Lg 26 (.load Sx6 (.t 5)) 25 false,
 Lg 27 (Ofx F3i [(.t 26)]) 25 false,
 Lg 28 (Ofx F3p [(.t 27),(Acx 1),(Acx 3)]) 25 false,
 Lg 29 (.un .not (.t 28)) 25 false,
 Ior 30 25 29,
 Lw 21 30] [0,4,5,6,21]
 (Icd 21
 (Irg [Iz6 31,
 Ls (.store false Sx6 (.t 6) (.t 31)),
 Imc 7 2] [6,7]
 (.ret))
 (Irg [Lw 33 0,
 Ipx 34 5,
 Ll 35 (Ofx F3r [(.t 33),(.t 34)]),
 Ll 36 (.un .not (.t 35)),
 Lw 32 36] [0,4,5,6,32]
 (Icd 32
 (Irg [Iz6 37,
 Ls (.store false Sx6 (.t 6) (.t 37)),
 Imc 7 5] [6,7]
 (.ret))
 (.skip))))))))
 (Irg [Lw 39 0,
 Ipx 40 5,
 Ipx 41 5,
 Ll 42 (Ofx F43 [(.t 39),(.t 40),(.t 41)]),
 Lw 38 42,
 Iex 43 38 0,
 Iex 44 38 1,
 Ibz 8 4,
 Ls (.store false Sx6 (.t 8) (.t 43)),
 Lw 9 44] [0,4,5,6,8]
 (Irg [Lw 45 0,
 Lw 46 0,
 Ipx 47 5,
 Ll 48 (Ofx F3y []),
 Ll 49 (Ofx F3e [(.t 46),(.t 47),(.t 48),(Acx (-1))]),
 Lw 50 0,
 Ipx 51 4,
 Ipx 52 5,
 Ll 53 (Ofx F3t [(.t 50),(.t 51),(.t 52)]),
 Ipx 54 8,
 Ll 55 (Ofx F47 [(.t 45),(.t 49),(.t 53),(.t 54)]),
 Ibz 10 5,
 Ls (.store false Sx6 (.t 10) (.t 55))] [0,5,6,10]
 (Irg [Lw 57 0,
 Ipx 58 10,
 Ipx 59 5,
 Ll 60 (Ofx F3j [(.t 57),(.t 58),(.t 59)]),
 Lw 56 60,
 Iex 61 56 0,
 Iex 62 56 1,
 Ibz 11 6,
 Ibz 12 7,
 Ls (.store false Sx6 (.t 11) (.t 61)),
 Ls (.store false Sx6 (.t 12) (.t 62))] [0,5,6,11]
 (Irg [Lw 63 0,
 Ipx 64 11,
 Ipx 65 5,
 Ll 66 (Ofx F3t [(.t 63),(.t 64),(.t 65)]),
 Ls (.store false Sx6 (.t 6) (.t 66)),
 Imc 7 0] [6,7]
 (.ret))))))
def Z38:Fn:=
 { nparams:=3,nblk:=8,results:=[.cell 6 Sx6,.tmp 7],body:=Z38_B }
end Pe

namespace Gq
section
variable {K:Type} [Fd K]
theorem Pol.mod_eq_iff {a b m:Pol K} (hm:m≠0):a%m=b%m↔Quo.mk m a=Quo.mk m b:=by
 rw [Quo.eq];constructor
 ·intro h
  refine ⟨a/m-b/m,?_⟩;have h1:=div_mod a m;have h2:=div_mod b m;rw [h] at h1;generalize a/m=q at *;generalize b/m=q' at *;rw [h1];have e:q*m+b%m=(q'*m+b%m)+m*(q-q'):=bj [q,q',m,b%m] rfl;rw [e,←h2]
 ·rintro ⟨c,rfl⟩
  have h2:=div_mod b m;refine (div_mod_eq (q:=b/m+c) ?_ (len_mod b hm)).2;have e:b+m*c=(b/m*m+b%m)+m*c:=by rw [←h2]
  rw [e];exact bj [b/m,m,b%m,c] rfl
theorem Pol.mk_mod (a m:Pol K):Quo.mk m (a%m)=Quo.mk m a:=by
 rw [Quo.eq];refine ⟨-(a/m),?_⟩;have h:=div_mod a m;have e:a%m=(a/m*m+a%m)+m * -(a/m):=bj [a/m,m,a%m] rfl;rw [e,←h]
theorem Pol.mod_small {a m:Pol K} (h:a.len<m.len):a%m=a:=(div_mod_eq (q:=0) (by rw [zero_mul,zero_add]) h).2
theorem Pol.zero_mod {m:Pol K} (hm:m≠0):(0:Pol K)%m=0:=mod_small (by rw [len_zero]; exact len_pos hm)
theorem Pol.div_small {a m:Pol K} (h:a.len<m.len):a/m=0:=(div_mod_eq (q:=0) (by rw [zero_mul,zero_add]) h).1
theorem Pol.mod_mod (a:Pol K) {m:Pol K} (hm:m≠0):a%m%m=a%m:=mod_small (len_mod a hm)
theorem Pol.mul_mod_left (a b:Pol K) {m:Pol K} (hm:m≠0):(a%m)*b%m=a*b%m:=by
 rw [mod_eq_iff hm,Quo.mk_mul,Quo.mk_mul,mk_mod]
theorem Pol.mod_self_mul (a:Pol K) {m:Pol K} (hm:m≠0):(a*m)%m=0:=
 (div_mod_eq (q:=a) (by rw [add_zero]) (by rw [len_zero]; exact len_pos hm)).2
theorem Pol.len_mod_le (a:Pol K) {m:Pol K} (hm:m≠0):(a%m).len≤a.len:=by
 rcases ek a.len m.len with h | h
 ·rw [mod_small h]; exact bh _
 ·have:=len_mod a hm; omega
theorem Pol.len_div {a m:Pol K} (hm:m≠0) (h:m.len≤a.len):(a/m).len+m.len=a.len+1:=by
 have h1:=div_mod a m;have h2:=len_mod a hm;have h3:=len_pos hm
 by_cases hq:a/m=0
 ·rw [hq,zero_mul,zero_add] at h1
  rw [←h1] at h2; omega
 ·have h4:=len_mul hq hm
  have h5:=len_pos hq
  have e:a.len=(a/m*m).len:=by
   apply Nat.le_antisymm
   ·rw [h1]
    exact len_le (lt_add (by rw [←h1]; exact lt_len _) (lt_iff.2 (by rw [←h1]; omega)))
   ·have:a/m*m=a-a%m:=by
     have e:a-a%m=(a/m*m+a%m)-a%m:=by rw [←h1]
     rw [e]; exact bj [a/m*m,a%m] rfl
    rw [this];exact len_le (lt_sub a.lt_len (lt_iff.2 (by omega)))
  omega
theorem Pol.len_div_le (a:Pol K) {m:Pol K} (hm:m≠0):(a/m).len≤a.len:=by
 rcases ek a.len m.len with h | h
 ·rw [div_small h,len_zero]; omega
 ·have:=len_div hm h
  have:=len_pos hm;omega
theorem Gp {R:Type} [CR R] (a:R) (m:Nat):∀n,pw a (m+n)=pw a m*pw a n
 | 0=>(mul_one _).symm
 | n+1=>by rw [←fa,pw,Gp a m n,pw,mul_assoc]
theorem qx {R:Type} [CR R] (a b:R):∀n,pw (a*b) n=pw a n*pw b n
 | 0=>(mul_one _).symm
 | n+1=>by rw [pw,pw,pw,qx a b n]; exact bj [a,b,pw a n,pw b n] rfl
theorem wj {R:Type} [CR R] (a:R) (m:Nat):∀n,pw (pw a m) n=pw a (m*n)
 | 0=>rfl
 | n+1=>by rw [pw,wj a m n,Nat.mul_succ,Gp]
theorem Ap {R:Type} [CR R]:∀n,pw (1:R) n=1
 | 0=>rfl
 | n+1=>by rw [pw,Ap n,mul_one]
theorem zt {R:Type} [CR R] (a:R):pw a 1=a:=one_mul a
theorem Pol.pow_mod (a:Pol K) {m:Pol K} (hm:m≠0) (n:Nat):pw (a%m) n%m=pw a n%m:=by
 rw [mod_eq_iff hm,Quo.mk_pow,Quo.mk_pow,mk_mod]
theorem Pol.bin_step {out base m:Pol K} (hm:m≠0) (k:Nat) (_hk:0<k) :
 (if k%2=1 then out*base%m else out)*pw (base*base%m) (k/2)%m=out*pw base k%m:=by
 rw [mod_eq_iff hm,Quo.mk_mul,Quo.mk_mul,Quo.mk_pow,mk_mod,Quo.mk_mul,qx,Quo.mk_pow,←Gp]
 split
 ·rename_i h
  rw [mk_mod,Quo.mk_mul];have e:k=1+(k/2+k/2):=by omega
  have e2:pw (Quo.mk m base) k=Quo.mk m base*pw (Quo.mk m base) (k/2+k/2):=by
   have:=Gp (Quo.mk m base) 1 (k/2+k/2)
   rwa [←e,zt] at this
  rw [e2,mul_assoc]
 ·rename_i h
  have e:k/2+k/2=k:=by omega
  rw [e]
open Classical in
noncomputable def Pol.bz:Nat→Pol K→Pol K→Pol K→Pol K→Pol K→Pol K→Pol K×Pol K×Pol K
 | 0,a,_,u,_,v,_=>(a,u,v)
 | n+1,a,b,u,x,v,y=>if b=0 then (a,u,v) else bz n b (a%b) x (u-a/b*x) y (v-a/b*y)
structure Pol.BzI (A B a b u x v y:Pol K):Prop where
 one:u*A+v*B=a
 two:x*A+y*B=b
 lx:x.len=0∨x.len+a.len≤B.len+1
 ly:y.len=0∨y.len+a.len≤A.len+1
 lu:u.len=0∨u.len+b.len≤B.len+1
 lv:v.len=0∨v.len+b.len≤A.len+1
 any:a≠0∨b≠0
theorem Pol.BzI.init {A B:Pol K} (h:A≠0∨B≠0):BzI A B A B 1 0 0 1:=
 ⟨bj [A,B] rfl,bj [A,B] rfl,.inl len_zero,.inr (by rw [len_one]; omega),.inr (by rw [len_one]; omega),.inl len_zero,h⟩
theorem Pol.len_sub_le {a b:Pol K} {n:Nat} (ha:a.len≤n) (hb:b.len≤n):(a-b).len≤n:=len_le (lt_sub (lt_iff.2 ha) (lt_iff.2 hb))
theorem Pol.len_add_le {a b:Pol K} {n:Nat} (ha:a.len≤n) (hb:b.len≤n):(a+b).len≤n:=len_le (lt_add (lt_iff.2 ha) (lt_iff.2 hb))
theorem Pol.BzI.qlen {A B a b u x v y:Pol K} (h:BzI A B a b u x v y) (hb:b≠0) :
 ((a/b*x).len=0∨(a/b*x).len+b.len≤B.len+1)∧((a/b*y).len=0∨(a/b*y).len+b.len≤A.len+1):=by
 have key:∀(x:Pol K) (n:Nat),(x.len=0∨x.len+a.len≤n+1)→((a/b*x).len=0∨(a/b*x).len+b.len≤n+1):=by
  intro x n hx
  by_cases hx0:x=0
  ·left; rw [hx0,mul_zero,len_zero]
  ·rcases ek a.len b.len with hl | hl
   ·left; rw [div_small hl,zero_mul,len_zero]
   ·have h1:=len_div hb hl
    have hq:a/b≠0:=fun h0=>by
     rw [h0,len_zero] at h1;omega
    have h2:=len_mul hq hx0;have h3:=len_pos hx0;right; omega
 exact ⟨key x B.len h.lx,key y A.len h.ly⟩
theorem Pol.BzI.step {A B a b u x v y:Pol K} (h:BzI A B a b u x v y) (hb:b≠0):BzI A B b (a%b) x (u-a/b*x) y (v-a/b*y):=by
 have hm:=div_mod a b;have hl:=len_mod a hb;have hle:=len_mod_le a hb;obtain ⟨q1,q2⟩:=h.qlen hb
 have sub:∀(u q:Pol K) (n:Nat),(u.len=0∨u.len+b.len≤n+1)→(q.len=0∨q.len+b.len≤n+1)→((u-q).len=0∨(u-q).len+b.len≤n+1):=by
  intro u q n h1 h2
  by_cases hn:n+1≤b.len
  ·left
   have e1:u.len=0:=by omega
   have e2:q.len=0:=by omega
   have:=len_sub_le (a:=u) (b:=q) (n:=0) (by omega) (by omega)
   omega
  ·right
   have:=len_sub_le (a:=u) (b:=q) (n:=n+1-b.len) (by omega) (by omega)
   omega
 refine ⟨h.two,?_,sub _ _ _ h.lu q1,sub _ _ _ h.lv q2,?_,?_,.inl hb⟩
 ·have e:(u-a/b*x)*A+(v-a/b*y)*B=(u*A+v*B)-a/b*(x*A+y*B):=bj [u,a/b,x,A,v,y,B] rfl
  rw [e,h.one,h.two];have e2:a-a/b*b=(a/b*b+a%b)-a/b*b:=by rw [←hm]
  rw [e2];exact bj [a/b,b,a%b] rfl
 ·exact h.lx.imp id fun h=>by omega
 ·exact h.ly.imp id fun h=>by omega
theorem Pol.bz_spec {A B:Pol K}:∀(n:Nat) (a b u x v y:Pol K),b.len≤n→BzI A B a b u x v y →
 ∃x' y',BzI A B (bz n a b u x v y).1 0 (bz n a b u x v y).2.1 x' (bz n a b u x v y).2.2 y'∧(∃s,a=s*(bz n a b u x v y).1)∧(∃s,b=s*(bz n a b u x v y).1)
 | 0,a,b,u,x,v,y,hn,h=>by
  obtain rfl:=len_zero_iff.1 (show b.len=0 by omega)
  exact ⟨x,y,h,⟨1,(one_mul a).symm⟩,⟨0,(zero_mul a).symm⟩⟩
 | n+1,a,b,u,x,v,y,hn,h=>by
  unfold bz
  split
  ·rename_i hb
   subst hb;exact ⟨x,y,h,⟨1,(one_mul a).symm⟩,⟨0,(zero_mul a).symm⟩⟩
  ·rename_i hb
   have hl:=len_mod a hb;obtain ⟨x',y',h1,⟨s,h2⟩,⟨t,h3⟩⟩:=bz_spec n b (a%b) x (u-a/b*x) y (v-a/b*y) (by omega) (h.step hb)
   refine ⟨x',y',h1,⟨a/b*s+t,?_⟩,⟨s,h2⟩⟩;generalize (bz n b (a%b) x (u-a/b*x) y (v-a/b*y)).1=d at *;have e:(a/b*s+t)*d=a/b*(s*d)+t*d:=bj [a/b,s,t,d] rfl;rw [e,←h2,←h3];exact div_mod a b
noncomputable def Pol.eu (a b:Pol K):Pol K×Pol K×Pol K:=bz b.len a b 1 0 0 1
noncomputable def Pol.bezout (a b:Pol K):Pol K×Pol K×Pol K:=
 let r:=eu a b
 (C (Fd.inv r.1.ld)*r.1,C (Fd.inv r.1.ld)*r.2.1,C (Fd.inv r.1.ld)*r.2.2)
noncomputable def Pol.gcd (a b:Pol K):Pol K:=(bezout a b).1
end
end Gq

namespace Pe
open Go Gq
variable {T:Nat→Option Fn} {A:ap}
theorem a5q {p:Int} (a:Fp p) (h:a.len≤64):trim (pad (row a))=row a:=Ar fun i=>by rw [Am (by rw [bi]; exact h),ft]
theorem Cb {l:List Int} {i:Nat} (h:i<l.length):l.take i++[l[i]]=l.take (i+1):=by
 rw [List.take_add_one,b8 h]; rfl
theorem Yh {O:ap} {l:List Int} (hb:gw l) (hl:l.length=64):∀(m i:Nat) (cp:Option Nat),i+m=64 →
 dn O 0 (.loop Z1o_L0) ⟨[(3,.sl 1 [] 0 i cp),(6,(.d (.arr 64 .leaf (af .u8 l)))),(7,(.d (.int .i64 i)))],[.hole,.sl false .leaf (af .i64 (l.take i)),.hole,.hole]⟩ =
  some (.exit 0,⟨[(3,.sl 1 [] 0 64 (if m=0 then cp else none)),(6,(.d (.arr 64 .leaf (af .u8 l)))),(7,(.d (.int .i64 64))),(8,(.d (.bool false)))],[.hole,.sl false .leaf (af .i64 (l.take 64)),.hole,.hole]⟩)
 | 0,i,cp,hi=>by
  have:i=64:=by omega
  subst this;exact cm (by simp -implicitDefEqProofs [Z1o_L0,aw])
 | m+1,i,cp,hi=>by
  have h1:(i:Int)<64:=by omega
  have hlt:i<l.length:=by omega
  have hx:l[i]? = some l[i]:=b8 hlt;have hb':=hb _ (ci hlt);have w1:IntKind.i64.wrap l[i]=l[i]:=w64 (by omega)
  have w4:IntKind.i64.wrap ((i:Int)+1)=((i+1:Nat):Int):=(w64 (x:=(i:Int)+1) (by omega)).trans (by omega)
  have h8:(i+1)*8≤1099511627776:=by omega
  have hlen:i≤l.length:=by omega
  have ht:(l.take i).take i=l.take i:=by rw [List.take_take,Nat.min_self]
  have e1:af .i64 (l.take i)++[D.int .i64 l[i]]=af .i64 (l.take (i+1)):=by rw [←Cb hlt,←Hd]; rfl
  have ih:=Yh (O:=O) hb hl m (i+1) none (by omega)
  have e2:(if m=0 then (none:Option Nat) else none)=none:=by split <;> rfl
  rw [e2] at ih;rw [if_neg (Nat.succ_ne_zero m)];refine cg ?_ ih;simp -implicitDefEqProofs [Z1o_L0,aw,h1,hlt,w1,w4,h8,hlen,ht,e1,List.replicate]
def Nq (O:ap):Prop:=∀l:List Int,gw l→l.length=64→ask O F1o [(D.arr 64 .leaf (af .u8 l))]=some (D.sl .leaf (af .i64 (trim l)))
theorem a77 (hT:T F1o=some Z1o) (ht:ut (den T A)):Nq (den T A):=by
 intro l hb hl;have e:=Yh (O:=den T A) hb hl 64 0 (some 0) (cd _);have e0:((0:Nat):Int)=0:=rfl;rw [e0,il,jf,bg (by omega)] at e
 have e1:=ht l (by omega)
 have ht:l.take 64=l:=bg (by omega)
 refine c9 hT rfl ?_;simp -implicitDefEqProofs [Z1o,Z1o_B,e,e1,hl,ht]
def od (O:ap):Prop:=∀(p:Int) [IsP p] (a:Fp p),a.len≤64→ask O F1o [(D.arr 64 .leaf (af .u8 (pad (row a))))]=some (D.sl .leaf (af .i64 (row a)))
theorem mi {p:Int} [IsP p] (a:Fp p):gw (pad (row a)):=fun x hx=>by
 obtain ⟨i,_,rfl⟩:=ch.1 hx;have:=(ll a).le IsP.pos i;have:=IsP.le (p:=p);omega
theorem a7u {O:ap} (h:Nq O):od O:=fun p i a hl=>by
 rw [h _ (mi a) (c8 _),a5q a hl]
theorem a3h {O:ap} {l z:List Int} (hb:gw l) (hl:l.length≤64):∀(m i:Nat) (cur:List Int),i+m=l.length→cur.length=64 →
 dn O 0 (.loop Z1t_L0) ⟨[(2,.ptr 0 []),(3,.ptr 1 []),(6,(.d (.sl .leaf (af .i64 l)))),(7,(.d (.int .i64 l.length))),(8,(.d (.int .i64 i)))],[.box false (D.arr 64 .leaf (af .u8 z)),.box false (D.arr 64 .leaf (af .u8 cur))]⟩ =
  some (.exit 0,⟨[(2,.ptr 0 []),(3,.ptr 1 []),(6,(.d (.sl .leaf (af .i64 l)))),(7,(.d (.int .i64 l.length))),(8,(.d (.int .i64 l.length))),(9,(.d (.bool false)))],[.box false (D.arr 64 .leaf (af .u8 z)),.box false (D.arr 64 .leaf (af .u8 (upd (cf l) m i cur)))]⟩)
 | 0,i,cur,hi,hc=>by
  have:i=l.length:=by omega
  subst this;exact cm (by simp -implicitDefEqProofs [Z1t_L0,aw,upd])
 | m+1,i,cur,hi,hc=>by
  have hlt:i<l.length:=by omega
  have hx:l[i]? = some (cf l i):=by rw [b8 hlt,gu hlt]
  have hb':=hb _ (ci hlt);rw [←gu hlt] at hb';have w1:IntKind.u8.wrap l[i]=cf l i:=by rw [←gu hlt]; exact w8 hb'
  have w4:IntKind.i64.wrap ((i:Int)+1)=((i+1:Nat):Int):=(w64 (x:=(i:Int)+1) (by omega)).trans (by omega)
  have hi64:i<64:=by omega
  have hcur:cur[i]? = some (cf cur i):=by rw [b8 (by omega),gu]
  have ih:=a3h (O:=O) (z:=z) hb hl m (i+1) (cur.set i (cf l i)) (by omega) (by simpa using hc)
  refine cg ?_ ih;simp -implicitDefEqProofs [Z1t_L0,aw,hlt,w1,w4,hi64,hcur]
def Ol (O:ap):Prop:=∀l:List Int,gw l→l.length≤64→ask O F1t [(D.sl .leaf (af .i64 l))]=some (D.arr 64 .leaf (af .u8 (pad l)))
theorem a98 {l:List Int} (_hl:l.length≤64):upd (cf l) l.length 0 (pad [])=pad l:=by
 symm
 apply Jh
 ·rw [yj,c8]
 ·intro i hi
  unfold cf;rw [df,df,Ic]
  by_cases h:i<l.length
  ·rw [if_pos (by rw [c8]; omega)]
   simp [h]
  ·rw [if_neg (by omega),cl (by omega),ml _ _ hi]; rfl
theorem abp (hT:T F1t=some Z1t):Ol (den T A):=by
 intro l hb hl;have e:=a3h (O:=den T A) (z:=pad []) hb hl l.length 0 (pad []) (cd _) (c8 []);have e0:((0:Nat):Int)=0:=rfl;rw [e0,a98 hl] at e;refine c9 hT rfl ?_;simp -implicitDefEqProofs [Z1t,Z1t_B,e]
theorem sq {p:Int} [IsP p] (a:Fp p):gw (row a):=fun x hx=>by
 have:=ll a x hx;have:=IsP.le (p:=p);omega
def Wj (O:ap):Prop:=∀(p:Int) [IsP p] (a:Fp p),a.len≤64→ask O F1t [(D.sl .leaf (af .i64 (row a)))]=some (D.arr 64 .leaf (af .u8 (pad (row a))))
theorem ab5 {O:ap} (h:Ol O):Wj O:=fun p i a hl=>h _ (sq a) (by simpa using hl)
def V4 (O:ap):Prop:=∀l:List Int,l.length<1000000→ask O F1r [(D.sl .leaf (af .i64 l))]=some (D.bool (decide (l.length≤64)))
theorem ac8 (hT:T F1r=some Z1r) (hd:lg (den T A)):V4 (den T A):=by
 intro l hl;have e:=hd l hl;have e2:decide ((l.length:Int)-1≤63)=decide (l.length≤64):=decide_eq_decide.2 (by omega)
 refine c9 hT rfl ?_;simp -implicitDefEqProofs [Z1r,Z1r_B,e,e2]
def H5 (l:List Int):D:=if l.length≤64 then .tup [(D.arr 64 .leaf (af .u8 (pad l))),(D.int .i64 0)] else .tup [(D.arr 64 .leaf (af .u8 (pad []))),(D.int .i64 3)]
def zj (O:ap):Prop:=∀l:List Int,gw l→l.length<1000000→ask O F1v [(D.sl .leaf (af .i64 l))]=some (H5 l)
theorem aa9 (hT:T F1v=some Z1v) (hf:V4 (den T A)) (hp:Ol (den T A)):zj (den T A):=by
 intro l hb hl;have e:=hf l hl;unfold H5;refine c9 hT rfl ?_
 by_cases h:l.length≤64
 ·have e2:=hp l hb h
  simp -implicitDefEqProofs [Z1v,Z1v_B,e,e2,h,aw]
 ·simp -implicitDefEqProofs [Z1v,Z1v_B,e,h,aw]
def xd (O:ap):Prop:=∀(p:Int) [IsP p] (a b:Fp p),b≠0→a.len<5000→b.len<5000 →
 ask O F1i [(D.int .i64 p),(D.sl .leaf (af .i64 (row a))),(D.sl .leaf (af .i64 (row b)))]=some (D.sl .leaf (af .i64 (row (a%b))))
theorem ac6 (hT:T F1i=some Z1i) (hd:qq (den T A)):xd (den T A):=by
 intro p i a b hb h1 h2;have e:=hd p a b hb h1 h2;refine c9 hT rfl ?_;simp -implicitDefEqProofs [Z1i,Z1i_B,e]
end Pe
namespace Pe
open Go Gq
variable {T:Nat→Option Fn} {A:ap}
section
variable {p:Int} [IsP p]
theorem tf:row (1:Fp p)=[1]:=by
 unfold row;rw [Pol.len_one];show [rep ((1:Fp p).c 0)]=[1];have:(1:Fp p).c 0=1:=rfl;rw [this,pt]
end
section
variable {p:Int}
theorem Au (u z:Fp p):u+Pol.C (zp p (-1))*z=u-z:=by
 rw [A8,Ci,Pol.C_neg,Pol.C_one];exact bj [u,z] rfl
end
section
variable {p:Int} [IsP p]
end
def qz (O:ap):Prop:=∀(p:Int) [IsP p] (a b:Fp p),a.len<1000000→b.len<1000000 →
 ask O F12 [(D.int .i64 p),(D.sl .leaf (af .i64 (row a))),(D.sl .leaf (af .i64 (row b))),(D.int .i64 (-1))]=some (D.sl .leaf (af .i64 (row (a-b))))
theorem Vs {O:ap} (h:fl O):qz O:=fun p i a b h1 h2=>by
 rw [h p (-1) a b (by omega) (by omega) h1 h2,Au]
def Ck (O:ap):Prop:=∀(p:Int) [IsP p] (a b:Fp p),a.len<1000000→b.len<1000000 →
 ask O F12 [(D.int .i64 p),(D.sl .leaf (af .i64 (row a))),(D.sl .leaf (af .i64 (row b))),(D.int .i64 1)]=some (D.sl .leaf (af .i64 (row (a+b))))
theorem Tm {O:ap} (h:fl O):Ck O:=fun p i a b h1 h2=>by
 rw [h p 1 a b (by omega) (by omega) h1 h2,Ci,Pol.C_one,Gq.one_mul]
section
variable {p:Int} [IsP p]
theorem Ij {A B a b u x v y:Fp p} (h:Pol.BzI A B a b u x v y) (hA:A.len≤2000) (hB:B.len≤2000) (ha:a.len≤2000) (hb:b.len≤2000) (hb0:b≠0) :
 u.len<3000∧v.len<3000∧x.len<3000∧y.len<3000∧(a/b).len<3000∧(a%b).len≤2000∧(a/b*x).len<3000∧(a/b*y).len<3000:=by
 have h1:=h.lu;have h2:=h.lv;have h3:=h.lx;have h4:=h.ly;have h5:=Pol.len_div_le a hb0;have h6:=Pol.len_mod_le a hb0;obtain ⟨h7,h8⟩:=h.qlen hb0;omega
theorem a61 {O:ap} (hd:qq O) (ht:um O) (hc:qz O) {A B:Fp p} (hA:A.len≤2000) (hB:B.len≤2000):∀(n:Nat) (a b u x v y:Fp p),b.len≤n→a.len≤2000→b.len≤2000→Pol.BzI A B a b u x v y→∃x' y',
 dn O 0 (.loop Z11_L0) ⟨[(0,(.d (.int .i64 p))),(1,(.d (.sl .leaf (af .i64 (row a))))),(2,(.d (.sl .leaf (af .i64 (row b))))),(9,(.d (.sl .leaf (af .i64 (row u))))),(10,(.d (.sl .leaf (af .i64 (row v))))),(11,(.d (.sl .leaf (af .i64 (row x))))),(12,(.d (.sl .leaf (af .i64 (row y)))))],[.hole,.hole]⟩ =
  some (.exit 0,⟨[(0,(.d (.int .i64 p))),(1,(.d (.sl .leaf (af .i64 (row (Pol.bz n a b u x v y).1))))),(2,(.d (.sl .leaf (af .i64 ([]))))),(9,(.d (.sl .leaf (af .i64 (row (Pol.bz n a b u x v y).2.1))))),(10,(.d (.sl .leaf (af .i64 (row (Pol.bz n a b u x v y).2.2))))),(11,(.d (.sl .leaf (af .i64 x')))),(12,(.d (.sl .leaf (af .i64 y')))),(20,(.d (.bool false)))],[.hole,.hole]⟩):=by
 intro n
 induction n with
 | zero=>
  intro a b u x v y hn ha hb hi;obtain rfl:=Pol.len_zero_iff.1 (show b.len=0 by omega)
  exact ⟨row x,row y,cm (by simp -implicitDefEqProofs [Z11_L0,aw,dt,Pol.bz,jf])⟩
 | succ n ih=>
  intro a b u x v y hn ha hb hi;unfold Pol.bz
  by_cases h0:b=0
  ·subst h0
   rw [if_pos rfl];exact ⟨row x,row y,cm (by simp -implicitDefEqProofs [Z11_L0,aw,dt,jf])⟩
  ·rw [if_neg h0]
   obtain ⟨s1,s2,s3,s4,s5,s6,s7,s8⟩:=Ij hi hA hB ha hb h0;have hl:=Pol.len_mod a h0;have hp:=Pol.len_pos h0;obtain ⟨x',y',e⟩:=ih b (a%b) x (u-a/b*x) y (v-a/b*y) (by omega) hb s6 (hi.step h0)
   refine ⟨x',y',cg ?_ e⟩;have e1:=hd p a b h0 (by omega) (by omega)
   have e2:=ht p (a/b) x (by omega) (by omega)
   have e3:=hc p u (a/b*x) (by omega) (by omega)
   have e4:=ht p (a/b) y (by omega) (by omega)
   have e5:=hc p v (a/b*y) (by omega) (by omega)
   simp -implicitDefEqProofs [Z11_L0,aw,hp,e1,e2,e3,e4,e5]
end
def Ip (O:ap):Prop:=∀(p:Int) [IsP p] (a b:Fp p),(a≠0∨b≠0)→a.len≤2000→b.len≤2000 →
 ask O F11 [(D.int .i64 p),(D.sl .leaf (af .i64 (row a))),(D.sl .leaf (af .i64 (row b)))]=some (.tup [(D.sl .leaf (af .i64 (row (Pol.bezout a b).1))),(D.sl .leaf (af .i64 (row (Pol.bezout a b).2.1))),(D.sl .leaf (af .i64 (row (Pol.bezout a b).2.2)))])
theorem ry {p:Int} [IsP p] (x:Zp p) (hx:x≠0):zp p (inv p (rep x))=Fd.inv x:=by
 have h0:=gr x;have h1:rep x≠0:=fun h=>hx (k9.1 h)
 have h2:x*zp p (inv p (rep x))=1:=by
  have:zp p (rep x*inv p (rep x))=1:=by rw [←zg,a2w p _ (by omega) h0.2]; rfl
  rwa [B5,jq] at this
 have h3:=Fd.mul_inv x hx;have:Fd.inv x*(x*zp p (inv p (rep x)))=Fd.inv x*1:=by rw [h2]
 rw [←Gq.mul_assoc,Gq.mul_comm (Fd.inv x),h3,Gq.one_mul,Gq.mul_one] at this;exact this
theorem a38 (hT:T F11=some Z11) (hd:qq (den T A)) (ht:um (den T A)) (hc:qz (den T A)) (hld:lk (den T A)) (hinv:g8 (den T A)) (hs:wi (den T A)):Ip (den T A):=by
 intro p i a b hab ha hb;have hp:=IsP.ge (p:=p);have hp7:=IsP.le (p:=p)
 -- the end
 have last:∀{x y:Fp p} {a' u v:Fp p},Pol.BzI a b a' 0 u x v y→ask (den T A) F1s [(D.sl .leaf (af .i64 (row a')))]=some (D.int .i64 (rep a'.ld))∧ask (den T A) F17 [(D.int .i64 p),(D.int .i64 (rep a'.ld))]=some (D.int .i64 (inv p (rep a'.ld))) ∧
  ask (den T A) F1j [(D.int .i64 p),(D.sl .leaf (af .i64 (row a'))),(D.int .i64 (inv p (rep a'.ld)))]=some (D.sl .leaf (af .i64 (row (Pol.C (Fd.inv a'.ld)*a'))))∧ask (den T A) F1j [(D.int .i64 p),(D.sl .leaf (af .i64 (row u))),(D.int .i64 (inv p (rep a'.ld)))]=some (D.sl .leaf (af .i64 (row (Pol.C (Fd.inv a'.ld)*u))))∧ask (den T A) F1j [(D.int .i64 p),(D.sl .leaf (af .i64 (row v))),(D.int .i64 (inv p (rep a'.ld)))]=some (D.sl .leaf (af .i64 (row (Pol.C (Fd.inv a'.ld)*v)))):=by
  intro x y a' u v hi;have ha0:a'≠0:=hi.any.resolve_right (fun h=>h rfl)
  have hr:=gr a'.ld;have hin:=vd p (rep a'.ld);have h1:=hi.lu;have h2:=hi.lv;rw [Pol.len_zero] at h1 h2
  have hal:a'.len<5000:=by
   have:=Pol.len_add_le (a:=u*a) (b:=v*b) (n:=4500) (by
    by_cases hu:u=0
    ·rw [hu,Gq.zero_mul,Pol.len_zero]; omega
    ·by_cases ha0:a=0
     ·rw [ha0,Gq.mul_zero,Pol.len_zero]; omega
     ·have:=Pol.len_mul hu ha0; omega) (by
    by_cases hu:v=0
    ·rw [hu,Gq.zero_mul,Pol.len_zero]; omega
    ·by_cases ha0:b=0
     ·rw [ha0,Gq.mul_zero,Pol.len_zero]; omega
     ·have:=Pol.len_mul hu ha0; omega)
   rw [hi.one] at this;omega
  have e1:=hld (row a') (by rw [bi]; omega)
  rw [ua] at e1;have e2:=hinv p (rep a'.ld) (by omega) (by omega) hr.1 hr.2
  have e3:=hs p (inv p (rep a'.ld)) a' (by omega) (by omega) (by omega)
  have e4:=hs p (inv p (rep a'.ld)) u (by omega) (by omega) (by omega)
  have e5:=hs p (inv p (rep a'.ld)) v (by omega) (by omega) (by omega)
  rw [ry _ (Pol.ld_ne ha0)] at e3 e4 e5;exact ⟨e1,e2,e3,e4,e5⟩
 have I0:=Pol.BzI.init (A:=a) (B:=b) hab;refine c9 hT rfl ?_;unfold Pol.bezout Pol.eu
 by_cases h0:b=0
 ·subst h0
  have l0:=cm (O:=den T A) (np:=0) (c:=Z11_L0) (s:=⟨[(0,(.d (.int .i64 p))),(1,(.d (.sl .leaf (af .i64 (row a))))),(2,(.d (.sl .leaf (af .i64 ([]))))),(9,.sl 0 [] 0 1 (some 1)),(10,(.d (.sl .leaf (af .i64 ([]))))),(11,(.d (.sl .leaf (af .i64 ([]))))),(12,.sl 1 [] 0 1 (some 1))],[.sl false .leaf (af .i64 [1]),.sl false .leaf (af .i64 [1])]⟩) (s1:=⟨[(0,(.d (.int .i64 p))),(1,(.d (.sl .leaf (af .i64 (row a))))),(2,(.d (.sl .leaf (af .i64 ([]))))),(9,.sl 0 [] 0 1 (some 1)),(10,(.d (.sl .leaf (af .i64 ([]))))),(11,(.d (.sl .leaf (af .i64 ([]))))),(12,.sl 1 [] 0 1 (some 1)),(20,(.d (.bool false)))],[.sl false .leaf (af .i64 [1]),.sl false .leaf (af .i64 [1])]⟩) (id:=0) (by simp -implicitDefEqProofs [Z11_L0,aw,jf])
  obtain ⟨e1,e2,e3,e4,e5⟩:=last I0;rw [tf] at e4;rw [dt] at e5;rw [jf] at l0 e5;rw [Pol.len_zero];have o1:D.int IntKind.i64 1::[]=af .i64 [1]:=rfl;simp -implicitDefEqProofs [Z11,Z11_B,dt,jf,Pol.bz,e1,e2,e3,e4,e5,l0,o1,List.replicate]
 ·have hp0:=Pol.len_pos h0
  have I1:=I0.step h0;obtain ⟨_,_,_,_,q5,q6,q7,q8⟩:=Ij I0 ha hb ha hb h0;have l0:=hd p a b h0 (by omega) (by omega)
  have l1:=ht p (a/b) 0 (by omega) (by rw [Pol.len_zero]; omega)
  have l2:=ht p (a/b) 1 (by omega) (by rw [Pol.len_one]; omega)
  have l3:=hc p 1 (a/b*0) (by rw [Pol.len_one]; omega) (by omega)
  have l4:=hc p 0 (a/b*1) (by rw [Pol.len_zero]; omega) (by omega)
  rw [tf] at l2 l3;rw [dt,jf] at l1 l4
  have st1:dn (den T A) 0 Z11_L0 ⟨[(0,(.d (.int .i64 p))),(1,(.d (.sl .leaf (af .i64 (row a))))),(2,(.d (.sl .leaf (af .i64 (row b))))),(9,.sl 0 [] 0 1 (some 1)),(10,.d (.sl .leaf [])),(11,.d (.sl .leaf [])),(12,.sl 1 [] 0 1 (some 1))],[.sl false .leaf (af .i64 [1]),.sl false .leaf (af .i64 [1])]⟩ =
   some (.normal,⟨[(0,(.d (.int .i64 p))),(1,(.d (.sl .leaf (af .i64 (row b))))),(2,(.d (.sl .leaf (af .i64 (row (a%b)))))),(9,.d (.sl .leaf [])),(10,.sl 1 [] 0 1 (some 1)),(11,(.d (.sl .leaf (af .i64 (row (1-a/b*0)))))),(12,(.d (.sl .leaf (af .i64 (row (0-a/b*1))))))],[.hole,.sl true .leaf (af .i64 [1])]⟩):=by
   simp -implicitDefEqProofs [Z11_L0,aw,hp0,l0,l1,l2,l3,l4]
  by_cases h1:a%b=0
  ·have st2:dn (den T A) 0 Z11_L0 ⟨[(0,(.d (.int .i64 p))),(1,(.d (.sl .leaf (af .i64 (row b))))),(2,(.d (.sl .leaf (af .i64 (row (a%b)))))),(9,.d (.sl .leaf [])),(10,.sl 1 [] 0 1 (some 1)),(11,(.d (.sl .leaf (af .i64 (row (1-a/b*0)))))),(12,(.d (.sl .leaf (af .i64 (row (0-a/b*1))))))],[.hole,.sl true .leaf (af .i64 [1])]⟩ =
    some (.exit 0,⟨[(0,(.d (.int .i64 p))),(1,(.d (.sl .leaf (af .i64 (row b))))),(2,(.d (.sl .leaf (af .i64 (row (a%b)))))),(9,.d (.sl .leaf [])),(10,.sl 1 [] 0 1 (some 1)),(11,(.d (.sl .leaf (af .i64 (row (1-a/b*0)))))),(12,(.d (.sl .leaf (af .i64 (row (0-a/b*1)))))),(20,(.d (.bool false)))],[.hole,.sl true .leaf (af .i64 [1])]⟩):=by
    simp -implicitDefEqProofs [Z11_L0,aw,h1,dt]
   have lp:=cg st1 (cm st2)
   have hb1:Pol.bz b.len a b 1 0 0 1=(b,0,1):=by
    rw [show b.len=(b.len-1)+1 by omega,Pol.bz,if_neg h0]
    cases hn:b.len-1 with
    | zero=>rfl
    | succ n=>rw [Pol.bz,if_pos h1]
   rw [hb1];have I1':Pol.BzI a b b 0 0 (1-a/b*0) 1 (0-a/b*1):=h1▸I1;obtain ⟨e1,e2,e3,e4,e5⟩:=last I1';rw [tf] at e5;rw [dt,jf] at e4;have o1:D.int IntKind.i64 1::[]=af .i64 [1]:=rfl;simp -implicitDefEqProofs [Z11,Z11_B,e1,e2,e3,e4,e5,lp,o1,List.replicate]
  ·have hp1:=Pol.len_pos h1
   have hl1:=Pol.len_mod a h0;obtain ⟨s1,s2,s3,s4,s5,s6,s7,s8⟩:=Ij I1 ha hb hb (by omega) h1
   have m0:=hd p b (a%b) h1 (by omega) (by omega)
   have m1:=ht p (b/(a%b)) (1-a/b*0) (by omega) (by omega)
   have m2:=ht p (b/(a%b)) (0-a/b*1) (by omega) (by omega)
   have m3:=hc p 0 (b/(a%b)*(1-a/b*0)) (by omega) (by omega)
   have m4:=hc p 1 (b/(a%b)*(0-a/b*1)) (by omega) (by omega)
   rw [tf] at m4;rw [dt,jf] at m3
   have st2:dn (den T A) 0 Z11_L0 ⟨[(0,(.d (.int .i64 p))),(1,(.d (.sl .leaf (af .i64 (row b))))),(2,(.d (.sl .leaf (af .i64 (row (a%b)))))),(9,.d (.sl .leaf [])),(10,.sl 1 [] 0 1 (some 1)),(11,(.d (.sl .leaf (af .i64 (row (1-a/b*0)))))),(12,(.d (.sl .leaf (af .i64 (row (0-a/b*1))))))],[.hole,.sl true .leaf (af .i64 [1])]⟩ =
    some (.normal,⟨[(0,(.d (.int .i64 p))),(1,(.d (.sl .leaf (af .i64 (row (a%b)))))),(2,(.d (.sl .leaf (af .i64 (row (b%(a%b))))))),(9,(.d (.sl .leaf (af .i64 (row (1-a/b*0)))))),(10,(.d (.sl .leaf (af .i64 (row (0-a/b*1)))))),(11,(.d (.sl .leaf (af .i64 (row (0-b/(a%b)*(1-a/b*0))))))),(12,(.d (.sl .leaf (af .i64 (row (1-b/(a%b)*(0-a/b*1)))))))],[.hole,.hole]⟩):=by
    simp -implicitDefEqProofs [Z11_L0,aw,hp1,m0,m1,m2,m3,m4]
   have I2:=I1.step h1;have hl2:=Pol.len_mod b h1;obtain ⟨x',y',e⟩:=a61 hd ht hc ha hb (b.len-2) _ _ _ _ _ _ (by omega) (by omega) (by omega) I2
   have lp:=cg st1 (cg st2 e)
   have hb1:Pol.bz b.len a b 1 0 0 1=Pol.bz (b.len-2) (a%b) (b%(a%b)) (1-a/b*0) (0-b/(a%b)*(1-a/b*0)) (0-a/b*1) (1-b/(a%b)*(0-a/b*1)):=by
    rw [show b.len=(b.len-2+1)+1 by omega,Pol.bz,if_neg h0,Pol.bz,if_neg h1]
    rfl
   rw [hb1];obtain ⟨x2,y2,I3,_,_⟩:=Pol.bz_spec (b.len-2) _ _ _ _ _ _ (by omega) I2
   obtain ⟨e1,e2,e3,e4,e5⟩:=last I3;have o1:D.int IntKind.i64 1::[]=af .i64 [1]:=rfl;simp -implicitDefEqProofs [Z11,Z11_B,jf,e1,e2,e3,e4,e5,lp,o1,List.replicate]
def Qu (O:ap):Prop:=∀(p:Int) [IsP p] (a b:Fp p),(a≠0∨b≠0)→a.len≤2000→b.len≤2000 →
 ask O F16 [(D.int .i64 p),(D.sl .leaf (af .i64 (row a))),(D.sl .leaf (af .i64 (row b)))]=some (D.sl .leaf (af .i64 (row (Pol.gcd a b))))
theorem ads (hT:T F16=some Z16) (hb:Ip (den T A)):Qu (den T A):=by
 intro p i a b hab h1 h2;have e:=hb p a b hab h1 h2;refine c9 hT rfl ?_;simp -implicitDefEqProofs [Z16,Z16_B,e,Pol.gcd]
theorem ajo (x:Int) (_h:0≤x):((BitVec.ofInt 64 x &&& 1#64).toNat:Int)=x%2:=by
 rw [BitVec.toNat_and];have e:(1#64).toNat=2^1-1:=rfl;rw [e,Nat.and_two_pow_sub_one_eq_mod,BitVec.toNat_ofInt];omega
theorem a99 (x:Int) (h:0≤x):a15 .i64 x 1=x%2:=by
 show IntKind.i64.wrap ((BitVec.ofInt 64 x &&& 1#64).toNat:Int)=_;rw [ajo x h,w64 (by omega)]
theorem a6y (x:Int):yd .shr .i64 x 1=some (.int .i64 (x/2)):=by
 show (if (1:Int)<0 then none else some (D.int .i64 (x.fdiv (2^min (1:Int).toNat 64))))=_
 rw [if_neg (by omega)]
 congr 2
 show x.fdiv 2=x/2;rw [Int.fdiv_eq_ediv_of_nonneg _ (by omega)]
theorem a8x {O:ap} (hr:xd O) (ht:um O) {p:Int} [IsP p] {m:Fp p} (hm:m≠0) (hml:m.len<2000):∀(n:Nat) (k:Int) (out base:Fp p),0≤k→k.toNat<2^n→k<4611686018427387904→out.len<m.len→base.len<m.len→∃base':List Int,
 dn O 0 (.loop Z1c_L0) ⟨[(0,(.d (.int .i64 p))),(2,(.d (.int .i64 k))),(3,(.d (.sl .leaf (af .i64 (row m))))),(9,(.d (.sl .leaf (af .i64 (row out))))),(10,(.d (.sl .leaf (af .i64 (row base)))))],[.hole]⟩ =
  some (.exit 0,⟨[(0,(.d (.int .i64 p))),(2,(.d (.int .i64 0))),(3,(.d (.sl .leaf (af .i64 (row m))))),(9,(.d (.sl .leaf (af .i64 (row (out*pw base k.toNat%m)))))),(10,(.d (.sl .leaf (af .i64 base')))),(20,(.d (.bool false)))],[.hole]⟩):=by
 intro n
 induction n with
 | zero=>
  intro k out base hk hn _ ho hb;obtain rfl:k=0:=by simp at hn; omega
  refine ⟨row base,?_⟩
  have e:out*pw base (0:Int).toNat%m=out:=by
   show out*1%m=out;rw [Gq.mul_one,Pol.mod_small ho]
  rw [e];exact cm (by simp -implicitDefEqProofs [Z1c_L0,aw])
 | succ n ih=>
  intro k out base hk hn hkm ho hb
  by_cases h0:k=0
  ·subst h0
   refine ⟨row base,?_⟩
   have e:out*pw base (0:Int).toNat%m=out:=by
    show out*1%m=out;rw [Gq.mul_one,Pol.mod_small ho]
   rw [e];exact cm (by simp -implicitDefEqProofs [Z1c_L0,aw])
  ·have hkp:0<k:=by omega
   have hlen:∀x y:Fp p,x.len<m.len→y.len<m.len→(x*y).len<5000:=fun x y hx hy=>by
    have:=Pol.len_le (Pol.lt_mul x.lt_len y.lt_len);omega
   have t1:=ht p out base (by omega) (by omega)
   have t2:=ht p base base (by omega) (by omega)
   have r1:=hr p (out*base) m hm (hlen _ _ ho hb) (by omega)
   have r2:=hr p (base*base) m hm (hlen _ _ hb hb) (by omega)
   have s:=Pol.bin_step (out:=out) (base:=base) hm k.toNat (by omega)
   have hdiv:(k/2).toNat=k.toNat/2:=by omega
   obtain ⟨b',e⟩:=ih (k/2) (if k.toNat%2=1 then out*base%m else out) (base*base%m) (by omega) (by rw [mz] at hn; omega) (by omega) (by split; exact Pol.len_mod _ hm; exact ho) (Pol.len_mod _ hm)
   rw [hdiv,s] at e;refine ⟨b',cg ?_ e⟩;have ea:=a99 k (by omega)
   have es:=a6y k
   by_cases hodd:k%2=1
   ·rw [if_pos (show k.toNat%2=1 by omega)]
    simp -implicitDefEqProofs [Z1c_L0,aw,hkp,t1,t2,r1,r2,ea,es,hodd]
   ·rw [if_neg (show ¬ k.toNat%2=1 by omega)]
    simp -implicitDefEqProofs [Z1c_L0,aw,hkp,t2,r2,ea,es,hodd]
def Bz (O:ap):Prop:=∀(p:Int) [IsP p] (a:Fp p) (k:Int) (m:Fp p),m≠0→a.len<5000→m.len<2000→0≤k→k<4611686018427387904 →
 ask O F1c [(D.int .i64 p),(D.sl .leaf (af .i64 (row a))),(D.int .i64 k),(D.sl .leaf (af .i64 (row m)))]=some (D.sl .leaf (af .i64 (row (pw a k.toNat%m))))
theorem a70 (hT:T F1c=some Z1c) (hr:xd (den T A)) (ht:um (den T A)):Bz (den T A):=by
 intro p i a k m hm ha hml hk hkm;have r1:=hr p 1 m hm (by rw [Pol.len_one]; omega) (by omega)
 rw [tf] at r1;have r2:=hr p a m hm (by omega) (by omega)
 obtain ⟨b',e⟩:=a8x hr ht hm hml 62 k (1%m) (a%m) hk (by omega) hkm (Pol.len_mod _ hm) (Pol.len_mod _ hm)
 have e2:1%m*pw (a%m) k.toNat%m=pw a k.toNat%m:=by
  rw [Pol.mul_mod_left _ _ hm,Gq.one_mul,Pol.pow_mod _ hm]
 rw [e2] at e;have o1:D.int IntKind.i64 1::[]=af .i64 [1]:=rfl;refine c9 hT rfl ?_;simp -implicitDefEqProofs [Z1c,Z1c_B,r1,r2,e,o1,List.replicate]
def Gs (p most:Int):Nat→Int→Int
 | 0,out=>out
 | n+1,out=>if out > most then out else Gs p most n (out*p)
theorem a5p {O:ap} {p:Int} [IsP p] {most nn:Int} (hmost:most≤1152921504606846976):∀(n:Nat) (i:Int) (out:Int),i+n=nn→-1000000<i→nn<1000000→0≤out→out≤8070450532247928832→∃(i':Int) (b:List (Nat×V)),
 dn O 0 (.loop Z1a_L0) ⟨[(0,(.d (.int .i64 p))),(2,(.d (.int .i64 most))),(7,(.d (.int .i64 out))),(8,(.d (.int .i64 nn))),(9,(.d (.int .i64 i)))],[]⟩ =
  some (.exit 0,⟨[(0,(.d (.int .i64 p))),(2,(.d (.int .i64 most))),(7,(.d (.int .i64 (Gs p most n out)))),(8,(.d (.int .i64 nn))),(9,(.d (.int .i64 i')))]++b,[]⟩)
 | 0,i,out,hi,h1,h2,ho,ho2=>by
  have:i=nn:=by omega
  subst this;exact ⟨i,[(10,(.d (.bool false)))],cm (by simp -implicitDefEqProofs [Z1a_L0,aw,Gs])⟩
 | n+1,i,out,hi,h1,h2,ho,ho2=>by
  have hlt:i<nn:=by omega
  have hp:=IsP.le (p:=p);have hp2:=IsP.pos (p:=p)
  by_cases hm:most<out
  ·exact ⟨i,[(13,(.d (.bool true)))],cm (by simp -implicitDefEqProofs [Z1a_L0,aw,Gs,hlt,hm])⟩
  ·have hmul:0≤out*p∧out*p≤8070450532247928832:=by
    refine ⟨fw ho (by omega),?_⟩
    have:out*p≤out*7:=cw hp ho;omega
   obtain ⟨i',b,e⟩:=a5p (O:=O) (p:=p) (nn:=nn) hmost n (i+1) (out*p) (by omega) (by omega) h2 hmul.1 hmul.2
   have w1:IntKind.i64.wrap (out*p)=out*p:=w64 (by omega)
   have w2:IntKind.i64.wrap (i+1)=i+1:=w64 (by omega)
   refine ⟨i',b,cg (s1:=⟨[(0,(.d (.int .i64 p))),(2,(.d (.int .i64 most))),(7,(.d (.int .i64 (out*p)))),(8,(.d (.int .i64 nn))),(9,(.d (.int .i64 (i+1))))],[]⟩) (by simp -implicitDefEqProofs [Z1a_L0,aw,hlt,hm,w1,w2]) ?_⟩
   rw [e,Gs,if_neg (by omega)]
def xe (O:ap):Prop:=∀(p:Int) [IsP p] (n:Nat) (most:Int),n<1000000→most≤1152921504606846976→ask O F1a [(D.int .i64 p),(D.int .i64 n),(D.int .i64 most)]=some (D.int .i64 (Gs p most n 1))
theorem aby (hT:T F1a=some Z1a):xe (den T A):=by
 intro p i n most hn hm;obtain ⟨i',b,e⟩:=a5p (O:=den T A) (p:=p) (nn:=(n:Int)) hm n 0 1 (by omega) (by omega) (by omega) (by omega) (by omega)
 refine c9 hT rfl ?_;simp -implicitDefEqProofs [Z1a,Z1a_B,e]
def dgs (p:Int):Nat→Int→List Int
 | 0,_=>[]
 | f+1,n=>if n≤0 then [] else n%p::dgs p f (n/p)
def fu (p n:Int):Fp p:=fe p (dgs p 64 n)
theorem Wn {p:Int} [IsP p]:∀f n,Can p (dgs p f n)
 | 0,n=>fun x hx=>by simp [dgs] at hx
 | f+1,n=>fun x hx=>by
  unfold dgs at hx
  split at hx
  ·simp at hx
  ·have hp:=IsP.pos (p:=p)
   rcases cn.1 hx with rfl | hx
   ·exact ⟨ep _ (by omega),dl _ hp⟩
   ·exact Wn f _ x hx
theorem Lr {p n:Int} [IsP p] (h:0<n) (h2:n/p=0):n%p≠0:=by
 have h3:=Int.mul_ediv_add_emod n p;rw [h2] at h3;simp at h3;omega
theorem Qp {p:Int} [IsP p]:∀(f:Nat) (n:Int),n<2^f→dgs p f n=[]∨cf (dgs p f n) ((dgs p f n).length-1)≠0
 | 0,n,h=>.inl rfl
 | f+1,n,h=>by
  by_cases h0:n≤0
  ·left; simp [dgs,h0]
  ·right
   have hp:=IsP.ge (p:=p)
   have hd:n/p<2^f:=by
    apply ju (by omega)
    have:(2:Int)^(f+1)=2^f*2:=gn _ _;have h2:(2:Int)^f*2≤2^f*p:=cw hp (pj (by omega))
    omega
   have e:dgs p (f+1) n=n%p::dgs p f (n/p):=by simp [dgs,h0]
   rw [e];have hdn:0≤n/p:=ow (by omega) (by omega)
   rcases Qp (p:=p) f (n/p) hd with h1 | h1
   ·rw [h1]
    show n%p≠0
    by_cases hz:n/p=0
    ·exact Lr (p:=p) (show 0<n by omega) hz
    ·exfalso
     cases f with
     | zero=>simp at hd; omega
     | succ f=>
      rw [dgs,if_neg (by omega)] at h1
      cases h1
   ·cases hq:dgs p f (n/p) with
    | nil=>rw [hq] at h1; simp [cf] at h1
    | cons a l=>
     rw [hq] at h1
     simpa [cf] using h1
theorem T4 {p:Int} [IsP p] {l:List Int} (h:Can p l) (hl:l=[]∨cf l (l.length-1)≠0):row (fe p l)=l:=by
 rw [←re h];unfold trim
 have:rp l l.length=l.length:=by
  cases hn:l.length with
  | zero=>rfl
  | succ n=>
   rcases hl with h0 | h0
   ·rw [h0] at hn; simp at hn
   ·rw [hn,Nat.add_sub_cancel] at h0
    rw [rp,if_neg h0]
 rw [this,ta]
theorem Jv {p:Int} [IsP p] {n:Int} (h:n<18446744073709551616):row (fu p n)=dgs p 64 n:=T4 (Wn 64 n) (Qp 64 n (by simpa using h))
theorem a54 (p:Int):∀f n,(dgs p f n).length≤f
 | 0,n=>by simp [dgs]
 | f+1,n=>by
  unfold dgs
  split
  ·simp
  ·have:=a54 p f (n/p); simp; omega
theorem Jx {O:ap} {p:Int} [IsP p]:∀(f:Nat) (n:Int) (cur:List Int) (cp:Option Nat),0≤n→n<2^f→n<9223372036854775807→cur.length+f<1000→∃cp',
 dn O 0 (.loop Z1b_L0) ⟨[(0,(.d (.int .i64 p))),(1,(.d (.int .i64 n))),(5,.sl 0 [] 0 cur.length cp)],[.sl false .leaf (af .i64 cur),.hole,.hole]⟩ =
  some (.exit 0,⟨[(0,(.d (.int .i64 p))),(1,(.d (.int .i64 0))),(5,.sl 0 [] 0 (cur++dgs p f n).length cp'),(7,(.d (.bool false)))],[.sl false .leaf (af .i64 (cur++dgs p f n)),.hole,.hole]⟩)
 | 0,n,cur,cp,h0,hn,hm,hl=>by
  obtain rfl:n=0:=by simp at hn; omega
  refine ⟨cp,?_⟩;rw [dgs,kw];exact cm (by simp -implicitDefEqProofs [Z1b_L0,aw])
 | f+1,n,cur,cp,h0,hn,hm,hl=>by
  have hp:=IsP.ge (p:=p);have hp7:=IsP.le (p:=p)
  by_cases hz:n=0
  ·subst hz
   refine ⟨cp,?_⟩;rw [dgs,if_pos (u6 0),kw];exact cm (by simp -implicitDefEqProofs [Z1b_L0,aw])
  ·have hd:n/p<2^f:=by
    apply ju (by omega)
    have:(2:Int)^(f+1)=2^f*2:=gn _ _;have h2:(2:Int)^f*2≤2^f*p:=cw hp (pj (by omega))
    omega
   have hdn:0≤n/p:=ow (by omega) (by omega)
   have hdl:n/p≤n:=Int.ediv_le_self _ h0;obtain ⟨cp',e⟩:=Jx (O:=O) (p:=p) f (n/p) (cur++[n%p]) none hdn hd (by omega) (by simp; omega)
   have hpos:0<n:=by omega
   have w1:IntKind.i64.wrap (n.tdiv p)=n/p:=by rw [pk h0,w64 (by omega)]
   have w2:n.tmod p=n%p:=ee h0;have hp0:p≠0:=by omega
   have h8:(cur.length+1)*8≤1099511627776:=by omega
   have o1:af .i64 cur++[D.int .i64 (n%p)]=af .i64 (cur++[n%p]):=by rw [←Hd]; rfl
   refine ⟨cp',?_⟩;rw [dgs,if_neg (by omega),show cur++n%p::dgs p f (n/p)=(cur++[n%p])++dgs p f (n/p) by simp]
   refine cg ?_ e;simp -implicitDefEqProofs [Z1b_L0,aw,hpos,w1,w2,hp0,h8,o1,List.replicate]
def kq (O:ap):Prop:=∀(p:Int) [IsP p] (n:Int),0≤n→n<4611686018427387904→ask O F1b [(D.int .i64 p),(D.int .i64 n)]=some (D.sl .leaf (af .i64 (row (fu p n))))
theorem U8 (hT:T F1b=some Z1b):kq (den T A):=by
 intro p i n h0 hn;obtain ⟨cp,e⟩:=Jx (O:=den T A) (p:=p) 64 n [] (some 0) h0 (by omega) (by omega) (by simp)
 rw [Jv (by omega)]
 rw [jf,fb] at e;have e0:(([]:List Int).length:Nat)=0:=rfl;rw [e0] at e;refine c9 hT rfl ?_;simp -implicitDefEqProofs [Z1b,Z1b_B,e]
end Pe

namespace Gq
section
variable {K:Type} [Fd K]
def Dv (a b:Pol K):Prop:=∃c,b=a*c
theorem Dv.refl (a:Pol K):Dv a a:=⟨1,(mul_one a).symm⟩
theorem Dv.trans {a b c:Pol K} (h:Dv a b) (h':Dv b c):Dv a c:=by
 obtain ⟨x,rfl⟩:=h;obtain ⟨y,rfl⟩:=h';exact ⟨x*y,mul_assoc _ _ _⟩
theorem Dv.zero (a:Pol K):Dv a 0:=⟨0,(mul_zero a).symm⟩
theorem Dv.mul_right {a b:Pol K} (h:Dv a b) (c:Pol K):Dv a (b*c):=h.trans ⟨c,rfl⟩
theorem Dv.mul_left {a b:Pol K} (h:Dv a b) (c:Pol K):Dv a (c*b):=h.trans ⟨c,mul_comm _ _⟩
theorem Dv.add {a b c:Pol K} (h:Dv a b) (h':Dv a c):Dv a (b+c):=by
 obtain ⟨x,rfl⟩:=h;obtain ⟨y,rfl⟩:=h';exact ⟨x+y,(mul_add _ _ _).symm⟩
theorem Dv.neg {a b:Pol K} (h:Dv a b):Dv a (-b):=by
 obtain ⟨x,rfl⟩:=h;exact ⟨-x,(a7w _ _).symm⟩
theorem Dv.sub {a b c:Pol K} (h:Dv a b) (h':Dv a c):Dv a (b-c):=by
 rw [sub_eq]; exact h.add h'.neg
theorem Dv.len {a b:Pol K} (h:Dv a b) (hb:b≠0):a.len≤b.len:=by
 obtain ⟨x,rfl⟩:=h;have ha:a≠0:=fun h=>hb (by rw [h,zero_mul])
 have hx:x≠0:=fun h=>hb (by rw [h,mul_zero])
 have:=Pol.len_mul ha hx;have:=Pol.len_pos hx;omega
theorem qw {a m:Pol K} (hm:m≠0):Dv m a↔a%m=0:=by
 constructor
 ·rintro ⟨c,rfl⟩
  rw [mul_comm];exact Pol.mod_self_mul c hm
 ·intro h
  have:=Pol.div_mod a m;rw [h,add_zero,mul_comm] at this;exact ⟨_,this⟩
theorem nv {a m:Pol K}:Dv m a↔Quo.mk m a=0:=by
 rw [←Quo.mk_zero,Quo.eq];constructor
 ·rintro ⟨c,h⟩; exact ⟨c,by rw [zero_add,h]⟩
 ·rintro ⟨c,h⟩; exact ⟨c,by rw [h,zero_add]⟩
theorem ph {a:Pol K} (h:a.len=1):∃k:K,k≠0∧a=Pol.C k:=by
 have e:=Pol.eq_C (Pol.lt_iff.2 (show a.len≤1 by omega))
 refine ⟨a.c 0,fun h0=>?_,e⟩
 rw [h0,Pol.C_zero] at e;rw [e,Pol.len_zero] at h;omega
theorem a5b {k:K} (h:k≠0):Pol.C k*Pol.C (Fd.inv k)=1:=by rw [←Pol.C_mul,Fd.mul_inv k h,Pol.C_one]
theorem Dv.Cmul {a b:Pol K} {k:K} (hk:k≠0):Dv (Pol.C k*a) b↔Dv a b:=by
 constructor
 ·rintro ⟨c,h⟩
  exact ⟨Pol.C k*c,by rw [h]; exact bj [Pol.C k,a,c] rfl⟩
 ·rintro ⟨c,h⟩
  refine ⟨Pol.C (Fd.inv k)*c,?_⟩;have:Pol.C k*a*(Pol.C (Fd.inv k)*c)=(Pol.C k*Pol.C (Fd.inv k))*(a*c):=bj [Pol.C k,a,Pol.C (Fd.inv k),c] rfl;rw [this,a5b hk,one_mul,h]
def Monic (a:Pol K):Prop:=a.ld=1∧a≠0
theorem Monic.mul {a b:Pol K} (ha:Monic a) (hb:Monic b):Monic (a*b):=⟨by rw [Pol.ld_mul ha.2 hb.2,ha.1,hb.1,mul_one],Pol.mul_ne ha.2 hb.2⟩
theorem Monic.one:Monic (1:Pol K):=⟨Pol.ld_one,Pol.one_ne⟩
theorem Pol.ld_C {k:K} (h:k≠0):(C k).ld=k:=by unfold ld; rw [len_C h]; rfl
theorem Monic.eq_one {a:Pol K} (h:Monic a) (hl:a.len=1):a=1:=by
 obtain ⟨k,hk,rfl⟩:=ph hl;have:=h.1;rw [Pol.ld_C hk] at this;rw [this,Pol.C_one]
theorem Monic.antisymm {a b:Pol K} (ha:Monic a) (hb:Monic b) (h:Dv a b) (h':Dv b a):a=b:=by
 obtain ⟨x,rfl⟩:=h;have h1:=h'.len ha.2;have hx:x≠0:=fun h=>hb.2 (by rw [h,mul_zero])
 have h2:=Pol.len_mul ha.2 hx;have h3:=Pol.len_pos hx;obtain ⟨k,hk,rfl⟩:=ph (show x.len=1 by omega)
 have h4:=hb.1;rw [Pol.ld_mul ha.2 hx,ha.1,one_mul,Pol.ld_C hk] at h4;rw [h4,Pol.C_one,mul_one]
noncomputable def mon (a:Pol K):Pol K:=Pol.C (Fd.inv a.ld)*a
theorem rh {a:Pol K} (h:a≠0):Monic (mon a):=by
 have h1:=Fd.inv_ne (Pol.ld_ne h);refine ⟨?_,Pol.mul_ne (Pol.C_ne h1) h⟩;unfold mon;rw [Pol.ld_mul (Pol.C_ne h1) h,Pol.ld_C h1,mul_comm,Fd.mul_inv _ (Pol.ld_ne h)]
theorem D5 {a b:Pol K} (h:a≠0):Dv (mon a) b↔Dv a b:=Dv.Cmul (Fd.inv_ne (Pol.ld_ne h))
theorem wo {a:Pol K} (h:a≠0):(mon a).len=a.len:=Pol.len_Cmul (Fd.inv_ne (Pol.ld_ne h)) a
theorem Vw {a:Pol K} (h:a≠0):a=Pol.C a.ld*mon a:=by
 unfold mon;rw [←mul_assoc,a5b (Pol.ld_ne h),one_mul]
theorem Pol.eu_spec {a b:Pol K} (h:a≠0∨b≠0):(eu a b).1≠0∧Dv (eu a b).1 a∧Dv (eu a b).1 b∧(eu a b).2.1*a+(eu a b).2.2*b=(eu a b).1:=by
 obtain ⟨x,y,h1,⟨s,h2⟩,⟨t,h3⟩⟩:=bz_spec b.len a b 1 0 0 1 (bh _) (BzI.init h);exact ⟨h1.any.resolve_right fun h=>h rfl,⟨s,by rw [mul_comm]; exact h2⟩,⟨t,by rw [mul_comm]; exact h3⟩,h1.one⟩
theorem Pol.gcd_monic {a b:Pol K} (h:a≠0∨b≠0):Monic (gcd a b):=rh (eu_spec h).1
theorem Pol.gcd_dv_left {a b:Pol K} (h:a≠0∨b≠0):Dv (gcd a b) a:=(D5 (eu_spec h).1).2 (eu_spec h).2.1
theorem Pol.gcd_dv_right {a b:Pol K} (h:a≠0∨b≠0):Dv (gcd a b) b:=(D5 (eu_spec h).1).2 (eu_spec h).2.2.1
theorem Pol.bezout_eq {a b:Pol K} (h:a≠0∨b≠0):(bezout a b).2.1*a+(bezout a b).2.2*b=gcd a b:=by
 have e:=(eu_spec h).2.2.2;show C (Fd.inv (eu a b).1.ld)*(eu a b).2.1*a+C (Fd.inv (eu a b).1.ld)*(eu a b).2.2*b=C (Fd.inv (eu a b).1.ld)*(eu a b).1;generalize C (Fd.inv (eu a b).1.ld)=k;generalize (eu a b).2.1=u at *;generalize (eu a b).2.2=v at *;rw [←e];exact bj [k,u,a,v,b] rfl
theorem Pol.dv_gcd {a b c:Pol K} (h:a≠0∨b≠0) (ha:Dv c a) (hb:Dv c b):Dv c (gcd a b):=by
 rw [←bezout_eq h];exact (ha.mul_left _).add (hb.mul_left _)
structure Irr (q:Pol K):Prop where
 len:2≤q.len
 no:∀u v,q=u*v→u.len=1∨v.len=1
theorem Irr.ne {q:Pol K} (h:Irr q):q≠0:=fun h0=>by have:=h.len; rw [h0,Pol.len_zero] at this; omega
theorem Irr.dv {q u:Pol K} (h:Irr q) (hd:Dv u q):u.len=1∨u.len=q.len:=by
 obtain ⟨v,hv⟩:=hd;have hu:u≠0:=fun h0=>h.ne (by rw [hv,h0,zero_mul])
 have hv0:v≠0:=fun h0=>h.ne (by rw [hv,h0,mul_zero])
 have l:=Pol.len_mul hu hv0;rw [←hv] at l;rcases h.no u v hv with h1 | h1
 ·exact .inl h1
 ·right; omega
theorem Irr.coprime {q a:Pol K} (h:Irr q) (hn:¬ Dv q a):∃u v,u*q+v*a=1:=by
 have h0:q≠0∨a≠0:=.inl h.ne;have e:=Pol.bezout_eq h0;have d1:=Pol.gcd_dv_left h0;have d2:=Pol.gcd_dv_right h0;have m:=Pol.gcd_monic h0;rcases h.dv d1 with h1 | h1
 ·rw [m.eq_one h1] at e
  exact ⟨_,_,e⟩
 ·exfalso
  obtain ⟨c,hc⟩:=d1;have hc0:c≠0:=fun h0=>h.ne (by rw [hc,h0,mul_zero])
  have l:=Pol.len_mul m.2 hc0;rw [←hc] at l;obtain ⟨k,hk,rfl⟩:=ph (show c.len=1 by omega)
  apply hn;rw [hc,mul_comm];exact (Dv.Cmul hk).2 d2
theorem Irr.prime {q a b:Pol K} (h:Irr q) (hd:Dv q (a*b)):Dv q a∨Dv q b:=by
 by_cases ha:Dv q a
 ·exact .inl ha
 ·obtain ⟨u,v,e⟩:=h.coprime ha
  right
  have:b=u*b*q+v*(a*b):=by
   have e2:u*b*q+v*(a*b)=(u*q+v*a)*b:=bj [u,b,q,v,a] rfl;rw [e2,e,one_mul]
  rw [this];exact ((Dv.refl q).mul_left _).add (hd.mul_left _)
theorem Irr.of_dv {q:Pol K} (hl:2≤q.len) (h:∀u,Dv u q→u.len=1∨u.len=q.len):Irr q:=⟨hl,fun u v e=>by
 have hq:q≠0:=fun h0=>by rw [h0,Pol.len_zero] at hl; omega
 have hu:u≠0:=fun h0=>hq (by rw [e,h0,zero_mul])
 have hv0:v≠0:=fun h0=>hq (by rw [e,h0,mul_zero])
 have l:=Pol.len_mul hu hv0;rw [←e] at l;rcases h u ⟨v,e⟩ with h1 | h1
 ·exact .inl h1
 ·right; omega⟩
theorem Irr.mon {q:Pol K} (h:Irr q):Irr (mon q):=Irr.of_dv (by rw [wo h.ne]; exact h.len) fun u hu=>by
 rw [wo h.ne];apply h.dv;refine hu.trans ?_;rw [D5 h.ne];exact .refl q
theorem Da:∀(n:Nat) (a:Pol K),a.len≤n→2≤a.len→∃q,Irr q∧Monic q∧Dv q a
 | 0,a,h,h2=>by omega
 | n+1,a,h,h2=>by
  have ha:a≠0:=fun h0=>by rw [h0,Pol.len_zero] at h2; omega
  by_cases hi:Irr a
  ·exact ⟨Gq.mon a,hi.mon,rh ha,(D5 ha).2 (.refl a)⟩
  ·have:∃u,Dv u a∧u.len≠1∧u.len≠a.len:=dj fun hx=>hi (Irr.of_dv h2 fun u hu=>dj fun hy=>hx ⟨u,hu,by omega,by omega⟩)
   obtain ⟨u,hu,h3,h4⟩:=this;have h5:=hu.len ha
   have hu0:u≠0:=fun h0=>by
    obtain ⟨c,hc⟩:=hu;exact ha (by rw [hc,h0,zero_mul])
   have h6:=Pol.len_pos hu0;obtain ⟨q,h7,h8,h9⟩:=Da n u (by omega) (by omega)
   exact ⟨q,h7,h8,h9.trans hu⟩
theorem Irr.eq_of_dv {q r:Pol K} (hq:Irr q) (hr:Irr r) (mq:Monic q) (mr:Monic r) (h:Dv q r):q=r:=by
 refine mq.antisymm mr h ?_;rcases hr.dv h with h1 | h1
 ·have:=hq.len; omega
 ·obtain ⟨c,rfl⟩:=h
  have hc:c≠0:=fun h0=>mr.2 (by rw [h0,mul_zero])
  have l:=Pol.len_mul mq.2 hc;obtain ⟨k,hk,rfl⟩:=ph (show c.len=1 by omega)
  rw [mul_comm];exact (Dv.Cmul hk).2 (.refl q)
theorem Quo.ex {R:Type} [CR R] {m:R} (x:Quo m):∃a,x=Quo.mk m a:=Quo.ind (P:=fun x=>∃a,x=Quo.mk m a) (fun a=>⟨a,rfl⟩) x
theorem Irr.quo_zero {q:Pol K} (h:Irr q) {x y:Quo q} (e:x*y=0):x=0∨y=0:=by
 obtain ⟨a,rfl⟩:=Quo.ex x;obtain ⟨b,rfl⟩:=Quo.ex y;rw [←Quo.mk_mul,←nv] at e;rw [←nv,←nv];exact h.prime e
theorem Irr.quo_inv {q:Pol K} (h:Irr q) {x:Quo q} (hx:x≠0):∃y,x*y=1:=by
 obtain ⟨a,rfl⟩:=Quo.ex x;obtain ⟨u,v,e⟩:=h.coprime fun hd=>hx (nv.1 hd)
 refine ⟨Quo.mk q v,?_⟩;rw [←Quo.mk_mul,←Quo.mk_one,Quo.eq];refine ⟨-u,?_⟩;rw [←e];exact bj [a,v,u,q] rfl
open Classical in
noncomputable abbrev a9i {q:Pol K} (h:Irr q):Fd (Quo q) where
 one_ne:=fun e=>by
  have:=nv.2 e;have h1:=this.len Pol.one_ne;have:=h.len;rw [Pol.len_one] at h1;omega
 inv:=fun x=>if hx:x=0 then 0 else Classical.choose (h.quo_inv hx)
 mul_inv:=fun x hx=>by rw [dif_neg hx]; exact ec (h.quo_inv hx)
end
def qf {R:Type} [CR R]:List R→R
 | []=>1
 | x::l=>x*qf l
theorem Jn {R:Type} [CR R] {l m:List R} (h:l.Perm m):qf l=qf m:=by
 induction h with
 | nil=>rfl
 | cons x _ ih=>rw [qf,qf,ih]
 | swap x y l=>rw [qf,qf,qf,qf,mul_left_comm]
 | trans _ _ h1 h2=>exact h1.trans h2
theorem Md {R:Type} [CR R] (x:R):∀l:List R,qf (l.map (x * ·))=pw x l.length*qf l
 | []=>(one_mul _).symm
 | y::l=>by
  rw [db,qf,Md x l,qf,c7,pw];exact bj [x,y,pw x l.length,qf l] rfl
theorem Gw {α:Type} [DecidableEq α]:∀{l m:List α},l.Nodup→(∀x∈l,x∈m)→m.length=l.length→l.Perm m
 | [],m,_,_,hl=>by
  obtain rfl:=u7 (by simpa using hl)
  exact .nil
 | x::l,m,hn,hs,hl=>by
  have hx:x∈m:=hs x (by simp)
  obtain ⟨h1,h2⟩:=iq.1 hn;have p:=List.perm_cons_erase hx;refine (List.Perm.cons x (Gw h2 (fun y hy=>?_) ?_)).trans p.symm
  ·have hne:y≠x:=fun e=>h1 (e▸hy)
   exact (List.mem_erase_of_ne hne).2 (hs y (by simp [hy]))
  ·rw [List.length_erase_of_mem hx]; simp at hl; omega
theorem a20 {R:Type} [CR R] [DecidableEq R] {l:List R} (hn:l.Nodup) (hc:∀x y:R,x*y=0→x=0∨y=0) (h1:(1:R)≠0) (hl:∀x,x∈l↔x≠0) {x:R} (hx:x≠0):pw x l.length=1:=by
 have hcan:∀y z:R,x*y=x*z→y=z:=fun y z e=>by
  have:x*(y-z)=0:=by
   have e2:x*(y-z)=x*y-x*z:=bj [x,y,z] rfl;rw [e2,e,sub_self]
  exact sx ((hc _ _ this).resolve_left hx)
 have hp:(l.map (x * ·)).Perm l:=by
  refine Gw ?_ (fun y hy=>?_) (by simp)
  ·unfold List.Nodup at hn ⊢
   rw [jm];exact hn.imp fun hab e=>hab (hcan _ _ e)
  ·obtain ⟨z,hz,rfl⟩:=ch.1 hy
   exact (hl _).2 fun e=>((hc _ _ e).elim hx) ((hl z).1 hz)
 have hprod:qf l≠0:=by
  have:∀m:List R,(∀z∈m,z≠0)→qf m≠0:=by
   intro m
   induction m with
   | nil=>exact fun _=>h1
   | cons z m ih=>exact fun hm e=>((hc _ _ e).elim (hm z (by simp))) (ih fun y hy=>hm y (by simp [hy]))
  exact this l fun z hz=>(hl z).1 hz
 have e:=Jn hp;rw [Md] at e
 have e2:qf l*(pw x l.length-1)=0:=by
  have e3:qf l*(pw x l.length-1)=pw x l.length*qf l-qf l:=bj [qf l,pw x l.length] rfl;rw [e3,e,sub_self]
 exact sx ((hc _ _ e2).resolve_left hprod)
section
variable {K:Type} [CR K]
def dz (f:Nat→K):Nat→K
 | 0=>0
 | n+1=>dz f n+f n
noncomputable def Pol.val (a:Pol K) (x:K):K:=dz (fun i=>a.c i*pw x i) a.len
theorem N5 (f:Nat→K) (n:Nat) (h:∀i,n≤i→f i=0):∀k,dz f (n+k)=dz f n
 | 0=>rfl
 | k+1=>by rw [←fa,dz,N5 f n h k,h _ (by omega),add_zero]
theorem u5 (f g:Nat→K):∀n,dz (fun i=>f i+g i) n=dz f n+dz g n
 | 0=>(add_zero _).symm
 | n+1=>by rw [dz,u5 f g n,dz,dz]; exact bj [dz f n,dz g n,f n,g n] rfl
theorem tu (k:K) (f:Nat→K):∀n,dz (fun i=>k*f i) n=k*dz f n
 | 0=>(mul_zero _).symm
 | n+1=>by rw [dz,tu k f n,dz,mul_add]
theorem Yq (x:K):∀n,∃g:Nat→K,(∀i,n≤i→g i=0)∧(∀k,n=k+1→g k=1)∧∀y,pw y n-pw x n=(y-x)*dz (fun i=>g i*pw y i) n:=by
 intro n
 induction n with
 | zero=>exact ⟨fun _=>0,fun _ _=>rfl,fun k h=>by omega,fun y=>by show (1:K)-1=(y-x)*0; rw [mul_zero,sub_self]⟩
 | succ n ih=>
  obtain ⟨g,h1,h2,h3⟩:=ih;refine ⟨fun i=>if i=n then 1 else x*g i,fun i hi=>?_,fun k hk=>?_,fun y=>?_⟩
  ·dsimp only; rw [if_neg (by omega),h1 i (by omega),mul_zero]
  ·dsimp only; rw [if_pos (by omega)]
  ·rw [dz]; dsimp only; rw [if_pos rfl,one_mul]
   have e:dz (fun i=>(if i=n then 1 else x*g i)*pw y i) n=x*dz (fun i=>g i*pw y i) n:=by
    rw [←tu]
    have:∀m,m≤n→dz (fun i=>(if i=n then 1 else x*g i)*pw y i) m=dz (fun i=>x*(g i*pw y i)) m:=by
     intro m
     induction m with
     | zero=>intro _; rfl
     | succ m ihm=>intro hm; rw [dz,dz,ihm (by omega),if_neg (by omega),mul_assoc]
    exact this n (bh n)
   rw [e,pw,pw];have e2:(y-x)*(x*dz (fun i=>g i*pw y i) n+pw y n)=x*((y-x)*dz (fun i=>g i*pw y i) n)+(y-x)*pw y n:=bj [y,x,dz (fun i=>g i*pw y i) n,pw y n] rfl
   rw [e2,←h3 y];exact bj [pw y n,y,pw x n,x] rfl
theorem V2 (f:Nat→K) (x:K):∀n,∃g:Nat→K,(∀i,n≤i+1→g i=0)∧(∀k,n=k+2→g k=f (k+1))∧∀y,dz (fun i=>f i*pw y i) n-dz (fun i=>f i*pw x i) n=(y-x)*dz (fun i=>g i*pw y i) n:=by
 intro n
 induction n with
 | zero=>exact ⟨fun _=>0,fun _ _=>rfl,fun k h=>by omega,fun y=>by show (0:K)-0=(y-x)*0; rw [mul_zero,sub_self]⟩
 | succ n ih=>
  obtain ⟨g,h1,h2,h3⟩:=ih;obtain ⟨g',h1',h2',h3'⟩:=Yq x n;refine ⟨fun i=>g i+f n*g' i,fun i hi=>?_,fun k hk=>?_,fun y=>?_⟩
  ·dsimp only; rw [h1 i (by omega),h1' i (by omega),mul_zero,add_zero]
  ·obtain rfl:k+1=n:=by omega
   dsimp only; rw [h1 k (by omega),h2' k rfl,mul_one,zero_add]
  ·rw [dz,dz,dz]
   have e0:g n+f n*g' n=0:=by rw [h1 n (by omega),h1' n (by omega),mul_zero,add_zero]
   dsimp only
   rw [e0,zero_mul,add_zero]
   have e:dz (fun i=>(g i+f n*g' i)*pw y i) n=dz (fun i=>g i*pw y i) n+f n*dz (fun i=>g' i*pw y i) n:=by
    rw [←tu,←u5]
    congr 1
    funext i
    exact bj [g i,f n,g' i,pw y i] rfl
   rw [e];have e2:(y-x)*(dz (fun i=>g i*pw y i) n+f n*dz (fun i=>g' i*pw y i) n)=(y-x)*dz (fun i=>g i*pw y i) n+f n*((y-x)*dz (fun i=>g' i*pw y i) n):=bj [y,x,dz (fun i=>g i*pw y i) n,f n,dz (fun i=>g' i*pw y i) n] rfl
   rw [e2,←h3 y,←h3' y];exact bj [dz (fun i=>f i*pw y i) n,f n,pw y n,dz (fun i=>f i*pw x i) n,pw x n] rfl
theorem In (hc:∀x y:K,x*y=0→x=0∨y=0):∀(n:Nat) (f:Nat→K) (l:List K),f n≠0→l.Nodup→(∀y∈l,dz (fun i=>f i*pw y i) (n+1)=0)→l.length≤n
 | n,f,[],_,_,_=>kf n
 | 0,f,x::l,hf,_,hr=>by
  have:=hr x (by simp)
  have e:dz (fun i=>f i*pw x i) (0+1)=f 0:=by show 0+f 0*1=f 0; rw [zero_add,mul_one]
  rw [e] at this;exact absurd this hf
 | n+1,f,x::l,hf,hn,hr=>by
  obtain ⟨g,h1,h2,h5⟩:=V2 f x (n+2);have hx:=hr x (by simp)
  obtain ⟨h3,h4⟩:=iq.1 hn;have hg0:g n≠0:=by rw [h2 n rfl]; exact hf
  have hg:∀y,dz (fun i=>f i*pw y i) (n+2)=(y-x)*dz (fun i=>g i*pw y i) (n+1):=fun y=>by
   have:=h5 y;rw [hx] at this
   have e:dz (fun i=>g i*pw y i) (n+2)=dz (fun i=>g i*pw y i) (n+1):=by
    show dz (fun i=>g i*pw y i) (n+1)+g (n+1)*pw y (n+1)=_
    rw [h1 (n+1) (by omega),zero_mul,add_zero]
   rw [e] at this;rw [←this];exact bj [dz (fun i=>f i*pw y i) (n+2)] rfl
  have:=In hc n g l hg0 h4 fun y hy=>by
   have e:=hr y (by simp [hy])
   rw [hg y] at e;refine (hc _ _ e).resolve_left fun h0=>h3 ?_
   rw [←sx h0]; exact hy
  simp; omega
end
end Gq

namespace Pe
open Go Gq
section
variable {p:Int} [IsP p]
end
section
variable {p:Int}
theorem pq (h:1≤p) {a b:Nat} (hab:a≤b):p^a≤p^b:=by
 obtain ⟨k,rfl⟩:=gv hab;rw [Int.pow_add];have h1:1≤p^k:=Int.pow_pos (n:=p) (m:=k) (by omega)
 have h2:0≤p^a:=pj (by omega)
 have:=cw h1 h2;omega
end
section
variable {p:Int} [IsP p]
def vl (p:Int):List Int→Int
 | []=>0
 | d::l=>d+p*vl p l
theorem Ya:∀{l:List Int},Can p l→0≤vl p l∧vl p l<p^l.length
 | [],_=>by simp [vl]
 | d::l,h=>by
  have hp:=IsP.pos (p:=p);obtain ⟨h1,h2⟩:=Ya (l:=l) fun x hx=>h x (by simp [hx])
  have h3:=h d (by simp)
  have h4:0≤p*vl p l:=fw (by omega) h1
  have h5:p*vl p l≤p*(p^l.length-1):=cw (by omega) (by omega)
  rw [Int.mul_sub,pm] at h5;rw [c7,gn,jl (p^l.length),vl];omega
theorem a5a:∀{l:List Int},Can p l→∀i,cf l i=vl p l/p^i%p
 | [],_,i=>by simp [vl,cf]
 | d::l,h,0=>by
  have h3:=h d (by simp)
  show d=(d+p*vl p l)/p^0%p;rw [si,Int.ediv_one,mc,n6 h3.1 h3.2]
 | d::l,h,i+1=>by
  have hp:=IsP.pos (p:=p);have h3:=h d (by simp)
  have e:cf (d::l) (i+1)=cf l i:=by simp [cf]
  rw [e,a5a (l:=l) fun x hx=>h x (by simp [hx]),vl,gn,jl (p^i),←Int.ediv_ediv_of_nonneg (by omega),Int.add_mul_ediv_left _ _ (by omega),m5 h3.1 h3.2,Int.zero_add]
theorem a6b:∀(f:Nat) (n:Int),0≤n→n<2^f→∀i,cf (dgs p f n) i=n/p^i%p
 | 0,n,h0,hn,i=>by
  obtain rfl:n=0:=by simp at hn; omega
  simp [dgs,cf]
 | f+1,n,h0,hn,i=>by
  have hp:=IsP.ge (p:=p);unfold dgs
  split
  ·obtain rfl:n=0:=by omega
   simp [cf]
  ·have hd:n/p<2^f:=by
    apply ju (by omega)
    have:(2:Int)^(f+1)=2^f*2:=gn _ _;have h2:(2:Int)^f*2≤2^f*p:=cw hp (pj (by omega))
    omega
   cases i with
   | zero=>show n%p=n/p^0%p; rw [si,Int.ediv_one]
   | succ i=>
    have e:cf (n%p::dgs p f (n/p)) (i+1)=cf (dgs p f (n/p)) i:=by simp [cf]
    rw [e,a6b f _ (ow h0 (by omega)) hd,gn,jl (p^i),←Int.ediv_ediv_of_nonneg (by omega)]
abbrev Dh (n:Int):Prop:=0≤n∧n<18446744073709551616
theorem wu {n:Int} (h:Dh n) (i:Nat):(fu p n).c i=zp p (n/p^i):=by
 unfold fu;rw [jy,a6b 64 n h.1 (by simpa using h.2),zg]
noncomputable def gt (a:Fp p):Int:=vl p (row a)
theorem E8 (a:Fp p):0≤gt a∧gt a<p^a.len:=by
 have:=Ya (ll a)
 rwa [bi] at this
theorem Iv {a:Fp p} (h:gt a<18446744073709551616):fu p (gt a)=a:=Pol.ext fun i=>by
 rw [wu ⟨(E8 a).1,h⟩];have:=a5a (ll a) i;rw [ft] at this;rw [←zg,show gt a/p^i%p=rep (a.c i) from this.symm,jq]
theorem a2r:∀(f:Nat) (n:Int),0≤n→n<2^f→vl p (dgs p f n)=n
 | 0,n,h0,hn=>by
  obtain rfl:n=0:=by simp at hn; omega
  rfl
 | f+1,n,h0,hn=>by
  have hp:=IsP.ge (p:=p);unfold dgs
  split
  ·show (0:Int)=n; omega
  ·have hd:n/p<2^f:=by
    apply ju (by omega)
    have:(2:Int)^(f+1)=2^f*2:=gn _ _;have h2:(2:Int)^f*2≤2^f*p:=cw hp (pj (by omega))
    omega
   rw [vl,a2r f _ (ow h0 (by omega)) hd]
   exact Int.emod_add_mul_ediv n p
theorem yr {n:Int} (h:Dh n):gt (fu p n)=n:=by
 unfold gt;rw [Jv h.2,a2r 64 n h.1 (by simpa using h.2)]
theorem Qm {n m:Int} (hn:Dh n) (hm:Dh m) (h:fu p n=fu p m):n=m:=by rw [←yr (p:=p) hn,h,yr hm]
theorem Di {n:Int} (h:Dh n) {d:Nat} (hd:n<p^d):(fu p n).lt d:=fun i hi=>by
 have hp:=IsP.pos (p:=p);rw [wu h,m5 h.1 (Int.lt_of_lt_of_le hd (pq (by omega) hi)),Bw]
theorem Xs (d:Nat):((p.toNat^d:Nat):Int)=p^d:=by
 have hp:=IsP.pos (p:=p);rw [Int.natCast_pow,Int.toNat_of_nonneg (by omega)]
theorem Nd:fu p 0=0:=Pol.ext fun i=>by rw [wu ⟨by omega,by omega⟩,Int.zero_ediv,Bw]; rfl
def x8 (q:Fp p) (d:Nat):List (Quo q):=(List.range (p.toNat^d-1)).map fun (n:Nat)=>Quo.mk q (fu p (n+1))
theorem uw (d:Nat):0<p.toNat^d:=Nat.pow_pos (by have:=IsP.pos (p:=p); omega)
theorem yi {q:Fp p} {d:Nat} (hq:q.len=d+1) (hd:p^d<1000000000000):(x8 q d).Nodup:=by
 unfold x8 List.Nodup;rw [jm];refine List.Pairwise.imp_of_mem ?_ (List.pairwise_lt_range (n:=p.toNat^d-1));intro a b ha hb hab e;rw [im] at ha hb;have hc:=Xs (p:=p) d;have hpos:=uw (p:=p) d;have h1:Dh ((a:Int)+1):=⟨by omega,by omega⟩
 have h2:Dh ((b:Int)+1):=⟨by omega,by omega⟩
 have hq0:q≠0:=fun h0=>by rw [h0,Pol.len_zero] at hq; omega
 have l1:=Pol.len_le (Di (p:=p) h1 (d:=d) (by omega))
 have l2:=Pol.len_le (Di (p:=p) h2 (d:=d) (by omega))
 rw [←Pol.mod_eq_iff hq0,Pol.mod_small (by omega),Pol.mod_small (by omega)] at e
 have:=Qm h1 h2 e;omega
theorem Dd {q:Fp p} {d:Nat} (hq:q.len=d+1) (hd:p^d<1000000000000) (x:Quo q):x∈x8 q d↔x≠0:=by
 have hc:=Xs (p:=p) d;have hpos:=uw (p:=p) d;have hq0:q≠0:=fun h0=>by rw [h0,Pol.len_zero] at hq; omega
 constructor
 ·intro h e
  obtain ⟨n,hn,rfl⟩:=ch.1 h;rw [im] at hn;have h1:Dh ((n:Int)+1):=⟨by omega,by omega⟩
  have l1:=Pol.len_le (Di (p:=p) h1 (d:=d) (by omega))
  rw [←Quo.mk_zero,←Pol.mod_eq_iff hq0,Pol.mod_small (by omega),Pol.zero_mod hq0,←Nd] at e
  have:=Qm h1 ⟨by omega,by omega⟩ e
  omega
 ·intro h
  obtain ⟨a,rfl⟩:=Quo.ex x;have hl:=Pol.len_mod a hq0;rw [←Pol.mk_mod] at h ⊢;have hin:=E8 (a%q);have hle:p^(a%q).len≤p^d:=pq (by have:=IsP.pos (p:=p); omega) (by omega)
  have e:=Iv (a:=a%q) (by omega)
  have hne:gt (a%q)≠0:=fun h0=>by
   rw [h0,Nd] at e;exact h (by rw [←e,Quo.mk_zero])
  refine ch.2 ⟨(gt (a%q)).toNat-1,?_,?_⟩
  ·rw [im]; omega
  ·rw [show (((gt (a%q)).toNat-1:Nat):Int)+1=gt (a%q) by omega,e]
theorem aaj {q:Fp p} (hi:Irr q) {d:Nat} (hq:q.len=d+1) (hd:p^d<1000000000000) {x:Quo q} (hx:x≠0):pw x (p.toNat^d-1)=1:=by
 classical
 have h1:(1:Quo q)≠0:=(a9i hi).one_ne;have:=a20 (yi hq hd) (fun x y e=>hi.quo_zero e) h1 (Dd hq hd) hx
 rwa [x8,ba,p8] at this
theorem Cm {q:Fp p} (hi:Irr q) {d:Nat} (hq:q.len=d+1) (hd:p^d<1000000000000) (x:Quo q):pw x (p.toNat^d)=x:=by
 have hpos:=uw (p:=p) d
 by_cases hx:x=0
 ·rw [hx]
  cases hn:p.toNat^d with
  | zero=>omega
  | succ n=>rw [pw,Gq.mul_zero]
 ·have:=aaj hi hq hd hx
  have e:p.toNat^d=(p.toNat^d-1)+1:=by omega
  rw [e,pw,this,Gq.one_mul]
end
section
variable {p:Int}
theorem ajr {q:Fp p}:(ic p:Quo q)=0:=by
 have h:∀n:Int,(ic n:Quo q)=Quo.mk q (Pol.C (zp p n)):=by
  have hn:∀n:Nat,(nc n:Quo q)=Quo.mk q (Pol.C (zp p n)):=by
   intro n
   induction n with
   | zero=>show (0:Quo q)=_; rw [show zp p ((0:Nat):Int)=0 from rfl,Pol.C_zero,Quo.mk_zero]
   | succ n ih=>
    rw [nc,ih];have:zp p ((n+1:Nat):Int)=zp p n+1:=rfl;rw [this,Pol.C_add,Quo.mk_add,Pol.C_one,Quo.mk_one]
  intro n;cases n with
  | ofNat n=>exact hn n
  | negSucc n=>
   show -(nc (n+1):Quo q)=_;rw [hn,←Quo.mk_neg,←Pol.C_neg]; rfl
 rw [h];have:zp p p=0:=Do.2 (by simp)
 rw [this,Pol.C_zero,Quo.mk_zero]
end
section
variable {p:Int} [IsP p]
theorem vk {q:Fp p} (x y:Quo q):pw (x+y) p.toNat=pw x p.toNat+pw y p.toNat:=by
 have h:=ajr (q:=q);rcases (inferInstance:IsP p).h with rfl | rfl | rfl | rfl
 ·have e:pw (x+y) 2=pw x 2+pw y 2+ic 2*(x*y):=by
   show (x+y)^2=x^2+y^2+ic 2*(x*y);exact bj [x,y] rfl
  rw [h,Gq.zero_mul,Gq.add_zero] at e;exact e
 ·have e:pw (x+y) 3=pw x 3+pw y 3+ic 3*(x*x*y+x*y*y):=by
   show (x+y)^3=x^3+y^3+ic 3*(x*x*y+x*y*y);exact bj [x,y] rfl
  rw [h,Gq.zero_mul,Gq.add_zero] at e;exact e
 ·have e:pw (x+y) 5=pw x 5+pw y 5+ic 5*(x^4*y+ic 2*x^3*y^2+ic 2*x^2*y^3+x*y^4):=by
   show (x+y)^5=x^5+y^5+ic 5*(x^4*y+ic 2*x^3*y^2+ic 2*x^2*y^3+x*y^4);exact bj [x,y] rfl
  rw [h,Gq.zero_mul,Gq.add_zero] at e;exact e
 ·have e:pw (x+y) 7=pw x 7+pw y 7+ic 7*(x^6*y+ic 3*x^5*y^2+ic 5*x^4*y^3+ic 5*x^3*y^4+ic 3*x^2*y^5+x*y^6):=by
   show (x+y)^7=x^7+y^7+ic 7*(x^6*y+ic 3*x^5*y^2+ic 5*x^4*y^3+ic 5*x^3*y^4+ic 3*x^2*y^5+x*y^6);exact bj [x,y] rfl
  rw [h,Gq.zero_mul,Gq.add_zero] at e;exact e
theorem ye (c:Zp p):pw c p.toNat=c:=by
 have h0:=gr c;have e:c=zp p (rep c):=(jq c).symm;generalize rep c=n at *;subst e;rcases (inferInstance:IsP p).h with rfl | rfl | rfl | rfl
 ·have:n=0∨n=1:=by omega
  rcases this with rfl | rfl <;> exact Do.2 (by decide)
 ·have:n=0∨n=1∨n=2:=by omega
  rcases this with rfl | rfl | rfl <;> exact Do.2 (by decide)
 ·have:n=0∨n=1∨n=2∨n=3∨n=4:=by omega
  rcases this with rfl | rfl | rfl | rfl | rfl <;> exact Do.2 (by decide)
 ·have:n=0∨n=1∨n=2∨n=3∨n=4∨n=5∨n=6:=by omega
  rcases this with rfl | rfl | rfl | rfl | rfl | rfl | rfl <;> exact Do.2 (by decide)
end
end Pe
namespace Pe
open Go Gq
section
variable {p:Int} [IsP p]
theorem N0 {q:Fp p} (x y:Quo q):∀k,pw (x+y) (p.toNat^k)=pw x (p.toNat^k)+pw y (p.toNat^k)
 | 0=>by rw [n5,zt,zt,zt]
 | k+1=>by rw [mz,←wj,N0 x y k,vk,wj,wj]
theorem Gv (c:Zp p):∀k,pw c (p.toNat^k)=c
 | 0=>by rw [n5,zt]
 | k+1=>by rw [mz,←wj,Gv c k,ye]
end
section
variable {p:Int}
theorem a27 (c:Zp p):∀n,Pol.C (pw c n)=pw (Pol.C c) n
 | 0=>rfl
 | n+1=>by rw [pw,Pol.C_mul,a27 c n,pw]
end
section
variable {p:Int} [IsP p]
end
section
variable {p:Int}
theorem Ou {P:Fp p→Prop} (h0:P 0) (h:∀c a,P a→P (Pol.C c+Pol.X*a)):∀(n:Nat) (a:Fp p),a.lt n→P a
 | 0,a,ha=>by rw [Pol.lt_zero.1 ha]; exact h0
 | n+1,a,ha=>by
  obtain ⟨m,hm⟩:=a.fin
  let b:Fp p:=⟨fun i=>a.c (i+1),m,fun i hi=>hm _ (by omega)⟩
  have e:a=Pol.C (a.c 0)+Pol.X*b:=Pol.ext fun i=>by
   rw [Pol.c_add,Pol.c_C,Pol.c_Xmul];cases i with
   | zero=>rw [if_pos rfl,if_pos rfl,Gq.add_zero]
   | succ i=>rw [if_neg (by omega),if_neg (by omega),Gq.zero_add]; rfl
  rw [e];exact h _ _ (Ou h0 h n b fun i hi=>ha _ (by omega))
end
section
variable {p:Int} [IsP p]
theorem a2m {q:Fp p} (k:Nat) (h:pw (Quo.mk q Pol.X) (p.toNat^k)=Quo.mk q Pol.X) (x:Quo q):pw x (p.toNat^k)=x:=by
 obtain ⟨a,rfl⟩:=Quo.ex x;refine Ou (P:=fun a=>pw (Quo.mk q a) (p.toNat^k)=Quo.mk q a) ?_ (fun c a ha=>?_) _ a a.lt_len
 ·rw [Quo.mk_zero]
  have:=uw (p:=p) k;cases hn:p.toNat^k with
  | zero=>omega
  | succ n=>rw [pw,Gq.mul_zero]
 ·rw [Quo.mk_add,Quo.mk_mul,N0,qx,h,ha]
  congr 1
  rw [←Quo.mk_pow,←a27,Gv]
theorem Al {K:Type} [CR K] (m:Nat) (g:Nat→K):∀n,dz (fun i=>(if i=m then 1 else 0)*g i) n=if m<n then g m else 0
 | 0=>by rw [if_neg (by omega)]; rfl
 | n+1=>by
  rw [dz,Al m g n];rcases km m n with h | h | h
  ·rw [if_pos h,if_neg (by omega),if_pos (by omega),Gq.zero_mul,Gq.add_zero]
  ·rw [if_neg (by omega),if_pos h.symm,if_pos (by omega),Gq.one_mul,Gq.zero_add,h]
  ·rw [if_neg (by omega),if_neg (by omega),if_neg (by omega),Gq.zero_mul,Gq.add_zero]
noncomputable def frT (p:Int) (k:Nat):Fp p:=pw Pol.X (p.toNat^k)-Pol.X
theorem Uk {q:Fp p} {k:Nat}:Dv q (frT p k)↔pw (Quo.mk q Pol.X) (p.toNat^k)=Quo.mk q Pol.X:=by
 rw [nv,frT,Quo.mk_sub,Quo.mk_pow];exact ⟨fun h=>sx h,fun h=>by rw [h,sub_self]⟩
theorem X8 {q:Fp p} (hi:Irr q) {d:Nat} (hq:q.len=d+1) (hd:p^d<1000000000000):Dv q (frT p d):=Uk.2 (Cm hi hq hd _)
theorem D4 {q:Fp p} (hi:Irr q) {d k:Nat} (hq:q.len=d+1) (hd:p^d<1000000000000) (hk:0<k) (h:Dv q (frT p k)):d≤k:=by
 classical
 have hfix:=a2m k (Uk.1 h);have hone:(1:Quo q)≠0:=(a9i hi).one_ne;have hP:2≤p.toNat:=by have:=IsP.ge (p:=p); omega
 have hne1:1<p.toNat^k:=Nat.one_lt_pow (by omega) hP
 have r:=In (fun x y e=>hi.quo_zero e) (p.toNat^k) (fun i=>(if i=p.toNat^k then (1:Quo q) else 0)-(if i=1 then 1 else 0)) ((0:Quo q)::x8 q d)
  (by rw [if_pos rfl,if_neg (by omega),sub_eq,ve,Gq.add_zero]; exact hone)
  (iq.2 ⟨fun h0=>(Dd hq hd 0).1 h0 rfl,yi hq hd⟩)
  (fun y _=>by
   have e:(fun i=>((if i=p.toNat^k then (1:Quo q) else 0)-(if i=1 then 1 else 0))*pw y i)=fun i=>(if i=p.toNat^k then (1:Quo q) else 0)*pw y i+(if i=1 then 1 else 0) * -pw y i:=by
    funext i
    exact bj [(if i=p.toNat^k then (1:Quo q) else 0),(if i=1 then (1:Quo q) else 0),pw y i] rfl
   rw [e,u5,Al,Al _ (fun i=>-pw y i),if_pos (by omega),if_pos (by omega),hfix,zt,add_neg])
 have hl:(x8 q d).length=p.toNat^d-1:=by unfold x8; rw [ba,p8]
 have hpos:=uw (p:=p) d;rw [c7,hl] at r;have:p.toNat^d≤p.toNat^k:=by omega
 exact (Nat.pow_le_pow_iff_right (by omega)).1 this
end
section
variable {p:Int} [IsP p]
theorem Oz:∀{l m:List Int},Can p l→Can p m→l.length<m.length→cf m (m.length-1)≠0→vl p l<vl p m
 | l,[],_,_,h,_=>by simp at h
 | l,d::m,hl,hm,h,hc=>by
  have hp:=IsP.pos (p:=p);have hd:=hm d (by simp)
  have hmc:Can p m:=fun x hx=>hm x (by simp [hx])
  cases l with
  | nil=>
   show 0<d+p*vl p m;have h2:=(Ya hmc).1;cases m with
   | nil=>
    have:d≠0:=hc;simp [vl]; omega
   | cons e m=>
    have h3:cf (e::m) ((e::m).length-1)≠0:=by simpa [cf] using hc
    have:=Oz (l:=[]) (m:=e::m) (fun x hx=>by simp at hx) hmc (by simp) h3
    have h5:0<p*vl p (e::m):=Int.mul_pos hp (by simpa [vl] using this)
    omega
  | cons c l=>
   have hlc:Can p l:=fun x hx=>hl x (by simp [hx])
   have hcc:=hl c (by simp)
   have h3:cf m (m.length-1)≠0:=by
    cases m with
    | nil=>simp at h
    | cons e m=>simpa [cf] using hc
   have:=Oz hlc hmc (by simpa using h) h3
   have h5:p*(vl p l+1)≤p*vl p m:=cw (by omega) (by omega)
   rw [ro,pm] at h5;show c+p*vl p l<d+p*vl p m;omega
end
section
variable {p:Int}
theorem a2y {a:Fp p} (h:a≠0):cf (row a) ((row a).length-1)≠0:=by
 rw [bi,ft];exact fun h0=>Pol.ld_ne h (k9.1 h0)
end
section
variable {p:Int} [IsP p]
theorem ur {a b:Fp p} (h:a.len<b.len):gt a<gt b:=Oz (ll a) (ll b) (by simpa using h) (a2y fun h0=>by rw [h0,Pol.len_zero] at h; omega)
theorem a4h:∀{l m:List Int},Can p l→Can p m→l.length=m.length→vl p l=vl p m→l=m
 | [],[],_,_,_,_=>rfl
 | [],_::_,_,_,h,_=>by simp at h
 | _::_,[],_,_,h,_=>by simp at h
 | c::l,d::m,hl,hm,h,e=>by
  have hp:=IsP.pos (p:=p);have hcc:=hl c (by simp)
  have hd:=hm d (by simp)
  have e2:c+p*vl p l=d+p*vl p m:=e
  have e3:c=d:=by
   have:=congrArg (· % p) e2
   simp only [mc] at this
   rwa [n6 hcc.1 hcc.2,n6 hd.1 hd.2] at this
  subst e3;have e4:p*vl p l=p*vl p m:=by omega
  rw [a4h (l:=l) (m:=m) (fun x hx=>hl x (by simp [hx])) (fun x hx=>hm x (by simp [hx])) (by simpa using h) (Int.eq_of_mul_eq_mul_left (by omega) e4)]
theorem Me {a b:Fp p} (h:gt a=gt b):a=b:=by
 rcases km a.len b.len with h1 | h1 | h1
 ·have:=ur h1; omega
 ·exact a7l (a4h (ll a) (ll b) (by simpa using h1) h)
 ·have:=ur h1; omega
abbrev o9 (p:Int):=List (Fp p×Nat)
noncomputable def nw (L:o9 p):Fp p:=qf (L.map fun x=>pw x.1 x.2)
structure FacOk (L:o9 p):Prop where
 irr:∀x∈L,Irr x.1∧Monic x.1∧1≤x.2
 dis:L.Pairwise fun x y=>x.1≠y.1
structure IsFac (a:Fp p) (L:o9 p):Prop where
 ok:FacOk L
 sorted:L.Pairwise fun x y=>gt x.1<gt y.1
 eq:a=Pol.C a.ld*nw L
end
section
variable {p:Int}
theorem sr (x:Fp p×Nat) (L:o9 p):nw (x::L)=pw x.1 x.2*nw L:=rfl
end
section
variable {p:Int} [IsP p]
theorem Monic.pw {a:Fp p} (h:Monic a):∀n,Monic (pw a n)
 | 0=>Monic.one
 | n+1=>(Monic.pw h n).mul h
theorem A3 {L:o9 p} (h:FacOk L):Monic (nw L):=by
 induction L with
 | nil=>exact Monic.one
 | cons x L ih=>
  rw [sr];exact (Monic.pw (h.irr x (by simp)).2.1 _).mul (ih ⟨fun y hy=>h.irr y (by simp [hy]),(dh.1 h.dis).2⟩)
theorem Irr.pw_dv {q a:Fp p} (h:Irr q):∀n,Dv q (pw a n)→Dv q a
 | 0,hd=>by
  have h1:q.len≤(1:Fp p).len:=hd.len Pol.one_ne;have h2:=h.len;rw [Pol.len_one] at h1; omega
 | n+1,hd=>(h.prime hd).elim (Irr.pw_dv h n) id
theorem Qa {q:Fp p} (hq:Irr q) (mq:Monic q):∀{L:o9 p},FacOk L→Dv q (nw L)→∃k,(q,k)∈L
 | [],_,h=>by
  have h1:q.len≤(1:Fp p).len:=h.len Pol.one_ne;have h2:=hq.len;rw [Pol.len_one] at h1; omega
 | x::L,ok,h=>by
  rw [sr] at h;rcases hq.prime h with h1 | h1
  ·have h2:=Irr.pw_dv hq _ h1
   obtain ⟨i1,i2,_⟩:=ok.irr x (by simp)
   have:=hq.eq_of_dv i1 mq i2 h2;exact ⟨x.2,by rw [this]; simp⟩
  ·obtain ⟨k,hk⟩:=Qa hq mq ⟨fun y hy=>ok.irr y (by simp [hy]),(dh.1 ok.dis).2⟩ h1
   exact ⟨k,by simp [hk]⟩
theorem Bn {q:Fp p} {k:Nat}:∀{L:o9 p},FacOk L→(q,k)∈L→∃r,nw L=pw q k*r∧¬ Dv q r
 | x::L,ok,h=>by
  have ok':FacOk L:=⟨fun y hy=>ok.irr y (by simp [hy]),(dh.1 ok.dis).2⟩
  rw [sr];rcases cn.1 h with rfl | h
  ·refine ⟨nw L,rfl,fun hd=>?_⟩
   obtain ⟨i1,i2,_⟩:=ok.irr (q,k) (by simp)
   obtain ⟨k',hk⟩:=Qa i1 i2 ok' hd;exact (dh.1 ok.dis).1 _ hk rfl
  ·obtain ⟨r,e,hn⟩:=Bn ok' h
   refine ⟨pw x.1 x.2*r,by rw [e,Gq.mul_left_comm],fun hd=>?_⟩
   obtain ⟨i1,i2,_⟩:=ok.irr (q,k) (by simp [h])
   obtain ⟨j1,j2,_⟩:=ok.irr x (by simp)
   rcases i1.prime hd with h1 | h1
   ·have h2:=Irr.pw_dv i1 _ h1
    have e:=i1.eq_of_dv j1 i2 j2 h2;exact (dh.1 ok.dis).1 _ h e.symm
   ·exact hn h1
theorem Iu {a:Fp p} (h:a≠0):∀n,pw a n≠0
 | 0=>Pol.one_ne
 | n+1=>Pol.mul_ne (Iu h n) h
theorem O1 {a:Fp p} (ha:a≠0) {L:o9 p} (ok:FacOk L) (e:a=Pol.C a.ld*nw L) (q:Fp p) (k:Nat):(q,k)∈L↔Irr q∧Monic q∧1≤k∧Dv (pw q k) a∧¬ Dv (pw q (k+1)) a:=by
 have hld:=Pol.ld_ne ha
 have dvP:∀c,Dv c a↔Dv c (nw L):=fun c=>by
  constructor
  ·rintro ⟨x,hx⟩
   refine ⟨Pol.C (Fd.inv a.ld)*x,?_⟩
   have:nw L=Pol.C (Fd.inv a.ld)*a:=by
    rw [e];have e2:(Pol.C a.ld*nw L).ld=a.ld:=by rw [←e]
    rw [e2,←Gq.mul_assoc,Gq.mul_comm (Pol.C (Fd.inv _)),a5b hld,Gq.one_mul]
   rw [this];generalize Pol.C (Fd.inv a.ld)=k;rw [hx];exact bj [k,c,x] rfl
  ·intro h
   rw [e]; exact h.mul_left _
 constructor
 ·intro h
  obtain ⟨i1,i2,i3⟩:=ok.irr (q,k) h;obtain ⟨r,e2,hn⟩:=Bn ok h;refine ⟨i1,i2,i3,(dvP _).2 ⟨r,e2⟩,fun hd=>hn ?_⟩
  obtain ⟨y,hy⟩:=(dvP _).1 hd;rw [e2,pw,Gq.mul_assoc] at hy;exact ⟨y,Pol.mul_cancel (Iu i1.ne k) hy⟩
 ·rintro ⟨i1,i2,i3,h1,h2⟩
  have hq:Dv q a:=by
   obtain ⟨k,rfl⟩:∃j,k=j+1:=⟨k-1,by omega⟩
   exact Dv.trans ⟨pw q k,Gq.mul_comm _ _⟩ h1
  obtain ⟨k',hk'⟩:=Qa i1 i2 ok ((dvP _).1 hq);obtain ⟨r,e2,hn⟩:=Bn ok hk'
  have:k=k':=by
   rcases km k k' with h | h | h
   ·exfalso
    apply h2;rw [dvP,e2];obtain ⟨j,rfl⟩:=gv (show k+1≤k' from h);rw [Gp q (k+1) j];exact ((Dv.refl _).mul_right _).mul_right _
   ·exact h
   ·exfalso
    apply hn;obtain ⟨y,hy⟩:=(dvP _).1 h1;obtain ⟨j,rfl⟩:=gv (show k'+1≤k from h);rw [e2,Gp,pw,Gq.mul_assoc,Gq.mul_assoc] at hy;exact ⟨_,Pol.mul_cancel (Iu i1.ne k') hy⟩
  rw [this]; exact hk'
theorem Nf {α:Type} (f:α→Int):∀{l m:List α},l.Pairwise (fun x y=>f x<f y)→m.Pairwise (fun x y=>f x<f y)→(∀x,x∈l↔x∈m)→l=m
 | [],[],_,_,_=>rfl
 | [],y::m,_,_,h=>by have:=(h y).2 (by simp); simp at this
 | x::l,[],_,_,h=>by have:=(h x).1 (by simp); simp at this
 | x::l,y::m,hl,hm,h=>by
  obtain ⟨l1,l2⟩:=dh.1 hl;obtain ⟨m1,m2⟩:=dh.1 hm
  have e:x=y:=by
   rcases cn.1 ((h x).1 (by simp)) with h1 | h1
   ·exact h1
   ·rcases cn.1 ((h y).2 (by simp)) with h2 | h2
    ·exact h2.symm
    ·have:=m1 _ h1
     have:=l1 _ h2;omega
  subst e;rw [Nf f l2 m2 fun z=>?_]
  constructor
  ·intro hz
   rcases cn.1 ((h z).1 (by simp [hz])) with h1 | h1
   ·subst h1; have:=l1 _ hz; omega
   ·exact h1
  ·intro hz
   rcases cn.1 ((h z).2 (by simp [hz])) with h1 | h1
   ·subst h1; have:=m1 _ hz; omega
   ·exact h1
theorem IsFac.unique {a:Fp p} (ha:a≠0) {L L':o9 p} (h:IsFac a L) (h':IsFac a L'):L=L':=
 Nf (fun x=>gt x.1) h.sorted h'.sorted fun x=>by
  obtain ⟨q,k⟩:=x;rw [O1 ha h.ok h.eq,O1 ha h'.ok h'.eq]
def Bs (n:Nat) (a:Fp p):Prop:=∀q,Irr q→Dv q a→n+1≤q.len
theorem Aw {a:Fp p} {n:Nat} (h:Bs n a) (hl:2≤a.len) (hs:a.len<2*n+1):Irr a:=by
 refine Irr.of_dv hl fun u hu=>?_
 have ha:a≠0:=fun h0=>by rw [h0,Pol.len_zero] at hl; omega
 obtain ⟨v,rfl⟩:=hu;have hu0:u≠0:=fun h0=>ha (by rw [h0,Gq.zero_mul])
 have hv0:v≠0:=fun h0=>ha (by rw [h0,Gq.mul_zero])
 have l:=Pol.len_mul hu0 hv0;have l1:=Pol.len_pos hu0;have l2:=Pol.len_pos hv0;apply dj;intro hx;have hu2:2≤u.len:=by omega
 have hv2:2≤v.len:=by omega
 obtain ⟨q,q1,_,q2⟩:=Da u.len u (bh _) hu2;obtain ⟨r,r1,_,r2⟩:=Da v.len v (bh _) hv2;have s1:=h q q1 (q2.mul_right v);have s2:=h r r1 (r2.mul_left u);have s3:=q2.len hu0;have s4:=r2.len hv0;omega
theorem Ti (a:Fp p):Bs 1 a:=fun _q h _=>h.len
theorem U1 {a b:Fp p} {n:Nat} (h:Bs n a) (hd:Dv b a):Bs n b:=fun q hq hb=>h q hq (hb.trans hd)
end
end Pe
namespace Pe
open Go Gq
variable {T:Nat→Option Fn} {A:ap}
def Ba (O:ap) (F:Nat):Prop:=∀x:Int,ask O F [(D.int .i64 x)]=some (D.bool false)
theorem a7d (hT:T F4=some Z4):Ba (den T A) F4:=fun x=>by
 refine c9 hT rfl ?_;simp -implicitDefEqProofs [Z4,Z4_B]
theorem a19 (hT:T F5=some Z5):Ba (den T A) F5:=fun x=>by
 refine c9 hT rfl ?_;simp -implicitDefEqProofs [Z5,Z5_B]
def qi (x y:Int):Int:=if x<y then -1 else if y<x then 1 else 0
def qy (O:ap) (F:Nat):Prop:=∀x y:Int,ask O F [(D.int .i64 x),(D.int .i64 y)]=some (D.int .i64 (qi x y))
theorem Uz (hT:T F0=some Z0) (h:Ba (den T A) F4):qy (den T A) F0:=fun x y=>by
 have e1:=h x;have e2:=h y;refine c9 hT rfl ?_;unfold qi
 by_cases h1:x<y
 ·simp -implicitDefEqProofs [Z0,Z0_B,e1,e2,h1,aw]
 ·by_cases h2:y<x
  ·simp -implicitDefEqProofs [Z0,Z0_B,e1,e2,h1,h2,aw]
  ·simp -implicitDefEqProofs [Z0,Z0_B,e1,e2,h1,h2,aw]
theorem Oi (hT:T F3=some Z3) (h:Ba (den T A) F5):qy (den T A) F3:=fun x y=>by
 have e1:=h x;have e2:=h y;refine c9 hT rfl ?_;unfold qi
 by_cases h1:x<y
 ·simp -implicitDefEqProofs [Z3,Z3_B,e1,e2,h1,aw]
 ·by_cases h2:y<x
  ·simp -implicitDefEqProofs [Z3,Z3_B,e1,e2,h1,h2,aw]
  ·simp -implicitDefEqProofs [Z3,Z3_B,e1,e2,h1,h2,aw]
def Ga (l m:List Int):Nat→Int
 | 0=>0
 | n+1=>if qi (cf l n) (cf m n)≠0 then qi (cf l n) (cf m n) else Ga l m n
theorem Mo {O:ap} (hc:qy O F3) {l m:List Int} (hlm:l.length=m.length) (hl:l.length<1000000):∀n:Nat,n≤l.length →
 dn O 0 (.loop Zm_L0) ⟨[(0,(.d (.sl .leaf (af .i64 l)))),(1,(.d (.sl .leaf (af .i64 m)))),(6,(.d (.int .i64 ((n:Int)-1))))],[]⟩ =
  if Ga l m n=0 then some (.exit 0,⟨[(0,(.d (.sl .leaf (af .i64 l)))),(1,(.d (.sl .leaf (af .i64 m)))),(6,(.d (.int .i64 (-1)))),(20,(.d (.bool false)))],[]⟩) else some (.ret,⟨[(4,(.d (.int .i64 (Ga l m n))))],[]⟩)
 | 0,hn=>by
  simp only [Ga,if_true];exact cm (by simp -implicitDefEqProofs [Zm_L0,aw])
 | n+1,hn=>by
  have t0:(((n+1:Nat):Int)-1)=(n:Int):=by omega
  rw [t0];have h1:n<l.length:=by omega
  have h2:n<m.length:=by omega
  have e1:l[n]? = some (cf l n):=by rw [b8 h1,gu h1]
  have e2:m[n]? = some (cf m n):=by rw [b8 h2,gu h2]
  have e1':l[n]=cf l n:=(gu h1).symm;have e2':m[n]=cf m n:=(gu h2).symm;have e3:=hc (cf l n) (cf m n);have w1:IntKind.i64.wrap ((n:Int)-1)=(n:Int)-1:=w64 (by omega)
  by_cases h0:qi (cf l n) (cf m n)=0
  ·rw [h0] at e3
   have e:Ga l m (n+1)=Ga l m n:=if_neg (fun h=>h h0)
   rw [e];refine cg ?_ (Mo hc hlm hl n (by omega))
   simp -implicitDefEqProofs [Zm_L0,aw,h1,h2,e1',e2',e3,w1]
  ·have e:Ga l m (n+1)=qi (cf l n) (cf m n):=if_pos h0
   rw [e,if_neg h0];refine lq ?_;simp -implicitDefEqProofs [Zm_L0,aw,h1,h2,e1',e2',e3,h0]
def a90 (l m:List Int):Int:=if qi l.length m.length≠0 then qi l.length m.length else Ga l m l.length
def C8 (O:ap):Prop:=∀l m:List Int,l.length<1000000→m.length<1000000→ask O Fm [(D.sl .leaf (af .i64 l)),(D.sl .leaf (af .i64 m))]=some (D.int .i64 (a90 l m))
theorem a1k (hT:T Fm=some Zm) (h1:qy (den T A) F0) (h2:qy (den T A) F3):C8 (den T A):=by
 intro l m hl hm;have e1:=h1 l.length m.length;unfold a90;refine c9 hT rfl ?_
 by_cases h0:qi l.length m.length=0
 ·have hlm:l.length=m.length:=by
   unfold qi at h0
   split at h0
   ·omega
   ·split at h0 <;> omega
  rw [if_neg (fun h=>h h0)]
  rw [h0] at e1;have e2:=Mo h2 hlm hl l.length (bh _);have w1:IntKind.i64.wrap ((l.length:Int)-1)=(l.length:Int)-1:=w64 (by omega)
  by_cases hz:Ga l m l.length=0
  ·rw [if_pos hz] at e2
   simp -implicitDefEqProofs [Zm,Zm_B,aw,e1,e2,w1,hz]
  ·rw [if_neg hz] at e2
   simp -implicitDefEqProofs [Zm,Zm_B,aw,e1,e2,w1]
 ·rw [if_pos h0]
  simp -implicitDefEqProofs [Zm,Zm_B,aw,e1,h0]
section
variable (f:D→Int)
def x7:List D→D→List D→List D
 | [],x,R=>x::R
 | y::L,x,R=>if f x<f y then x7 L x (y::R) else (y::L).reverse++x::R
def Ea:List D→List D→List D
 | P,[]=>P
 | P,x::r=>Ea (x7 f P.reverse x []) r
theorem J7:∀(L:List D) (x:D) (R S:List D),x7 f L x (R++S)=x7 f L x R++S
 | [],x,R,S=>rfl
 | y::L,x,R,S=>by
  unfold x7
  split
  ·rw [←gd,J7 L x (y::R) S]
  ·simp
theorem xm:∀(L:List D) (x:D) (R:List D),(x7 f L x R).Perm (x::(L.reverse++R))
 | [],x,R=>.refl _
 | y::L,x,R=>by
  unfold x7
  split
  ·refine (xm L x (y::R)).trans ?_
   simp
  ·exact List.perm_middle
theorem S6 (L:List D) (x:D) (R:List D):(x7 f L x R).length=L.length+R.length+1:=by
 have:=(xm f L x R).length_eq
 simpa using this
def Asc (l:List D):Prop:=l.Pairwise fun x y=>f x≤f y
theorem Qv:∀(L:List D) (x:D) (R:List D),Asc f (L.reverse++R)→(∀y∈R,f x≤f y)→Asc f (x7 f L x R)
 | [],x,R,h,hx=>by
  unfold x7 Asc;refine dh.2 ⟨hx,?_⟩;have h':Asc f R:=by simpa using h
  exact h'
 | y::L,x,R,h,hx=>by
  unfold x7
  split
  ·rename_i hlt
   refine Qv L x (y::R) (by simpa using h) fun z hz=>?_
   rcases cn.1 hz with rfl | hz
   ·omega
   ·exact hx z hz
  ·rename_i hlt
   unfold Asc at h ⊢;rw [fo] at h ⊢;refine ⟨h.1,dh.2 ⟨hx,h.2.1⟩,fun a ha b hb=>?_⟩
   rcases cn.1 hb with rfl | hb
   ·have hay:f a≤f y:=by
     have h1:=h.1;rw [List.reverse_cons,fo] at h1;rw [List.reverse_cons] at ha;rcases bn.1 ha with ha | ha
     ·exact h1.2.2 a ha y (by simp)
     ·simp at ha; rw [ha]; exact u6 _
    omega
   ·exact h.2.2 a ha b hb
theorem G6:∀(r P:List D),(Ea f P r).Perm (P++r)
 | [],P=>by simp [Ea]
 | x::r,P=>by
  unfold Ea;refine (G6 r _).trans ?_;have:=xm f P.reverse x [];refine (List.Perm.append_right r this).trans ?_;simp;exact List.perm_middle.symm
theorem Jc:∀(r P:List D),Asc f P→Asc f (Ea f P r)
 | [],P,h=>h
 | x::r,P,h=>by
  unfold Ea;exact Jc r _ (Qv f P.reverse x [] (by simpa using h) (by simp))
end
section
variable {O:ap} {g:Nat} {first caps:List D}
abbrev nj:Sh:=.st [.leaf,.leaf]
structure CmpOk (O:ap) (g:Nat) (first caps:List D) (f:D→Int) (s:Sh) (cs:List D):Prop where
 nf:zn first
 nc:zn caps
 nx:zn cs
 sh:Dy s cs
 ask:∀x∈cs,∀y∈cs,ask O g (first++[x,y]++caps)=some (D.int .i64 (qi (f x) (f y)))
theorem CmpOk.perm {f:D→Int} {s:Sh} {cs ds:List D} (h:CmpOk O g first caps f s cs) (p:ds.Perm cs):CmpOk O g first caps f s ds:=
 ⟨h.nf,h.nc,fun x hx=>h.nx x (p.subset hx),fun x hx=>h.sh x (p.subset hx),fun x hx y hy=>h.ask x (p.subset hx) y (p.subset hy)⟩
theorem CmpOk.call {f:D→Int} {s:Sh} {cs:List D} (h:CmpOk O g first caps f s cs) {hp:Heap} {np:Nat} {news:List Nat} {x y:D} (hx:x∈cs) (hy:y∈cs) :
 Ei O np hp .flat news (g,first.map .d,caps.map .d) [.d x,.d y]=some (.d (D.int .i64 (qi (f x) (f y))),hp):=by
 have e:q9 hp (first.map .d++[.d x,.d y]++caps.map .d)=some (first++[x,y]++caps):=
  vr hp (vr hp (ot hp h.nf) (ot hp (ds:=[x,y]) (by intro z hz; simp at hz; rcases hz with rfl | rfl; exact h.nx _ hx; exact h.nx _ hy))) (ot hp h.nc)
 rw [Cq,e,ae,Jj,h.ask x hx y hy,ae,Gn,show (D.int IntKind.i64 (qi (f x) (f y))).flat=true from rfl,if_pos rfl]
theorem Qh (x y:Int):qi x y<0↔x<y:=by
 unfold qi
 split
 ·omega
 ·split <;> omega
theorem a51 {f:D→Int} {n:Nat} {cp:Option Nat} (hn:n≤1000) {i:Nat}:∀(L:List D) (x:D) (R:List D),(L.reverse++x::R).length=n→CmpOk O g first caps f nj (L.reverse++x::R)→∃j:Int,
 dn O 1 (.loop Z2i_L0) ⟨[(0,.sl 0 [] 0 n cp),(1,(.d (.int .i64 0))),(2,(.d (.int .i64 n))),(3,.d (.fn g first caps)),(8,(.d (.int .i64 i))),(9,(.d (.int .i64 L.length)))],[.sl false nj (L.reverse++x::R)]⟩ =
  some (.exit 2,⟨[(0,.sl 0 [] 0 n cp),(1,(.d (.int .i64 0))),(2,(.d (.int .i64 n))),(3,.d (.fn g first caps)),(8,(.d (.int .i64 i))),(9,(.d (.int .i64 j))),(34,(.d (.bool false)))],[.sl false nj (x7 f L x R)]⟩)
 | [],x,R,hl,ok=>by
  refine ⟨0,cm ?_⟩;simp -implicitDefEqProofs [Z2i_L0,aw,x7]
 | y::L,x,R,hl,ok=>by
  have hj:(y::L).length=L.length+1:=rfl;have hlen:((y::L).reverse++x::R).length=L.length+1+(R.length+1):=by simp; omega
  have e1:((y::L).reverse++x::R)[L.length+1]? = some x:=by
   rw [bq (by simp)]; simp
  have e2:((y::L).reverse++x::R)[L.length]? = some y:=by
   rw [bt (by simp)]; simp
  have m1:x∈(y::L).reverse++x::R:=by simp
  have m2:y∈(y::L).reverse++x::R:=by simp
  have c:=ok.call (hp:=[.sl false nj ((y::L).reverse++x::R)]) (np:=1) (news:=[]) m1 m2;have s1:=ok.sh x m1;have s2:=ok.sh y m2;have n1:=ok.nx x m1;have n2:=ok.nx y m2
  have e3:(((y::L).reverse++x::R).set (L.length+1) y).set L.length x=L.reverse++x::y::R:=by
   rw [sm _ _ (by simp),List.set_append_left _ _ (by simp)]
   simp
  have hp:((y::L).reverse++x::R).Perm (L.reverse++x::y::R):=by
   simp;exact (List.Perm.swap x y R).append_left _
  have w1:IntKind.i64.wrap (L.length:Int)=L.length:=w64 (by omega)
  have h0:(0:Int)<(L.length:Int)+1:=by omega
  have h00:(0:Int)≤(L.length:Int)+1:=by omega
  have h1:L.length+1<n:=by omega
  have h2:L.length<n:=by omega
  have h3:L.length<((y::L).reverse++x::R).length:=by omega
  have h4:L.length+1<((y::L).reverse++x::R).length:=by omega
  have e4:(((y::L).reverse++x::R).set (L.length+1) y)[L.length]? = some y:=by
   rw [br (by omega),e2]
  unfold x7;rw [hj,show ((L.length+1:Nat):Int)=(L.length:Int)+1 by omega]
  generalize (y::L).reverse++x::R=cs at *;have e1':cs[L.length+1]=x:=by rw [b8 h4] at e1; exact au e1
  have e2':cs[L.length]=y:=by rw [b8 h3] at e2; exact au e2
  by_cases hlt:f x<f y
  ·rw [if_pos hlt]
   obtain ⟨j,e⟩:=a51 hn L x (y::R) (by rw [←hp.length_eq]; omega) (ok.perm hp.symm)
   have hc:=(Qh (f x) (f y)).2 hlt;refine ⟨j,cg ?_ e⟩;simp -implicitDefEqProofs [Z2i_L0,aw,h0,h00,h1,h2,h3,h4,e1',e2',c,s1,s2,n1,n2,w1,hc,e3]
  ·rw [if_neg hlt]
   have hc:=mt (Qh (f x) (f y)).1 hlt;refine ⟨(L.length:Int)+1,cm ?_⟩;simp -implicitDefEqProofs [Z2i_L0,aw,h0,h00,h1,h2,h3,h4,e1',e2',c,s1,s2,w1,hc]
end
theorem a6o {O:ap} {g:Nat} {first caps:List D} {f:D→Int} {n:Nat} {cp:Option Nat} (hn:n≤1000):∀(r P:List D),P.length+r.length=n→0<P.length→CmpOk O g first caps f nj (P++r) →
 dn O 1 (.loop Z2i_L1) ⟨[(0,.sl 0 [] 0 n cp),(1,(.d (.int .i64 0))),(2,(.d (.int .i64 n))),(3,.d (.fn g first caps)),(8,(.d (.int .i64 P.length)))],[.sl false nj (P++r)]⟩ =
  some (.exit 0,⟨[(0,.sl 0 [] 0 n cp),(1,(.d (.int .i64 0))),(2,(.d (.int .i64 n))),(3,.d (.fn g first caps)),(8,(.d (.int .i64 n))),(14,(.d (.bool false)))],[.sl false nj (Ea f P r)]⟩)
 | [],P,hl,hP,ok=>by
  have hl':P.length=n:=by simpa using hl
  refine cm ?_;simp -implicitDefEqProofs [Z2i_L1,aw,Ea,hl']
 | x::r,P,hl,hP,ok=>by
  simp at hl;have e0:P.reverse.reverse++x::r=P++x::r:=by simp
  obtain ⟨j,e⟩:=a51 (O:=O) (g:=g) (first:=first) (caps:=caps) (f:=f) (n:=n) (cp:=cp) hn (i:=P.length) P.reverse x r (by simp; omega) (by rw [e0]; exact ok)
  rw [e0,qk,←fb r,J7,fb] at e;have hlen:=S6 f P.reverse x [];rw [qk,dw,ew] at hlen
  have hperm:(x7 f P.reverse x []++r).Perm (P++x::r):=by
   refine (List.Perm.append_right r (xm f P.reverse x [])).trans ?_;simp;exact List.perm_middle.symm
  have ih:=a6o (O:=O) (g:=g) (first:=first) (caps:=caps) (f:=f) (cp:=cp) hn r (x7 f P.reverse x []) (by rw [hlen]; omega) (by omega) (ok.perm hperm)
  have hlt:P.length<n:=by omega
  have w1:IntKind.i64.wrap ((P.length:Int)+1)=((P.length+1:Nat):Int):=(w64 (x:=(P.length:Int)+1) (by omega)).trans (by omega)
  rw [hlen] at ih;unfold Ea;refine cg ?_ ih;simp -implicitDefEqProofs [Z2i_L1,aw,hlt,e,w1]
def abx (O:ap) (F:Nat) (args:V→List V→List V):Prop:=∀(g:Nat) (first caps:List D) (f:D→Int) (cs:List D) (cp:Option Nat),cs.length≤12→CmpOk O g first caps f nj cs →
 ∃ds:List D,ds.Perm cs∧Asc f ds∧O F (args (.sl 0 [] 0 cs.length cp) [(.d (.int .i64 cs.length)),.d (.fn g first caps)]) [.sl false nj cs]=some (.tup [],[.sl false nj ds],[])
def wq (O:ap):Prop:=abx O F2i fun s l=>[s,(.d (.int .i64 0))]++l
theorem Sf (hT:T F2i=some Z2i):wq (den T A):=by
 intro g first caps f cs cp hl ok;cases cs with
 | nil=>
  refine ⟨[],.refl _,List.Pairwise.nil,iw hT rfl ?_⟩;have st:=cm (O:=den T A) (np:=1) (c:=Z2i_L1) (s:=⟨[(0,.sl 0 [] 0 0 cp),(1,(.d (.int .i64 0))),(2,(.d (.int .i64 0))),(3,.d (.fn g first caps)),(8,(.d (.int .i64 1)))],[.sl false nj []]⟩) (s1:=⟨[(0,.sl 0 [] 0 0 cp),(1,(.d (.int .i64 0))),(2,(.d (.int .i64 0))),(3,.d (.fn g first caps)),(8,(.d (.int .i64 1))),(14,(.d (.bool false)))],[.sl false nj []]⟩) (id:=0) (by simp -implicitDefEqProofs [Z2i_L1,aw])
  have w1:IntKind.i64.wrap 1=1:=w64 (by omega)
  simp -implicitDefEqProofs [Z2i,Z2i_B,st,w1]
 | cons x r=>
  have e:=a6o (O:=den T A) (g:=g) (first:=first) (caps:=caps) (f:=f) (n:=(x::r).length) (cp:=cp) (by omega) r [x] (by simp; omega) (by simp) ok
  have e1:(([x]:List D).length:Int)=1:=rfl;rw [e1] at e;refine ⟨Ea f [x] r,G6 f r [x],Jc f r [x] (f9 _ _),iw hT rfl ?_⟩;have w1:IntKind.i64.wrap 1=1:=w64 (by omega)
  rw [List.singleton_append] at e;generalize x::r=cs at *;simp -implicitDefEqProofs [Z2i,Z2i_B,e,w1]
def yo (O:ap) (F:Nat):Prop:=∀n:Nat,n≤12→∃v:Int,ask O F [.int .u64 n]=some (D.int .i64 v)
theorem a8m (hT:T F21=some Z21):yo (den T A) F21:=by
 intro n hn
 have key:∀v:Int,run (fun _ _ _=>none) 1 Z21 [.d (.int .u64 n)] []=some ((.d (.int .i64 v)),[],[])→ask (den T A) F21 [.int .u64 n]=some (D.int .i64 v):=by
  intro v h
  have h2:=P8 (A:=A) hT (n:=1) (vs:=[.d (.int .u64 n)]) (bs:=[]) (ans:=((.d (.int .i64 v)),[],[])) (by
   obtain ⟨qs,h3,h4⟩:=Bo h;cases qs with
   | nil=>exact h4 _ (by intro q hq; simp at hq)
   | cons q qs=>exact absurd (h3 q (by simp)) (by simp))
  unfold ask;rw [show ([D.int .u64 n]:List D).map V.d=[.d (.int .u64 n)] from rfl,h2];rfl
 have h:n=0∨n=1∨n=2∨n=3∨n=4∨n=5∨n=6∨n=7∨n=8∨n=9∨n=10∨n=11∨n=12:=by omega
 rcases h with rfl | rfl | rfl | rfl | rfl | rfl | rfl | rfl | rfl | rfl | rfl | rfl | rfl
 ·exact ⟨0,key 0 (by kernel_rfl)⟩
 ·exact ⟨1,key 1 (by kernel_rfl)⟩
 ·exact ⟨2,key 2 (by kernel_rfl)⟩
 ·exact ⟨2,key 2 (by kernel_rfl)⟩
 ·exact ⟨3,key 3 (by kernel_rfl)⟩
 ·exact ⟨3,key 3 (by kernel_rfl)⟩
 ·exact ⟨3,key 3 (by kernel_rfl)⟩
 ·exact ⟨3,key 3 (by kernel_rfl)⟩
 ·exact ⟨4,key 4 (by kernel_rfl)⟩
 ·exact ⟨4,key 4 (by kernel_rfl)⟩
 ·exact ⟨4,key 4 (by kernel_rfl)⟩
 ·exact ⟨4,key 4 (by kernel_rfl)⟩
 ·exact ⟨4,key 4 (by kernel_rfl)⟩
theorem aen (hT:T F1z=some Z1z) (h:yo (den T A) F21):yo (den T A) F1z:=by
 intro n hn;obtain ⟨v,e⟩:=h n hn;refine ⟨v,c9 hT rfl ?_⟩;simp -implicitDefEqProofs [Z1z,Z1z_B,aw,e]
theorem af4 (hT:T F2x=some Z2x) (hi:wq (den T A)):∀(g:Nat) (first caps:List D) (f:D→Int) (cs:List D) (cp:Option Nat) (v:Int),cs.length≤12→CmpOk (den T A) g first caps f nj cs →
 ∃ds:List D,ds.Perm cs∧Asc f ds∧den T A F2x [.sl 0 [] 0 cs.length cp,(.d (.int .i64 0)),(.d (.int .i64 cs.length)),(.d (.int .i64 v)),.d (.fn g first caps)] [.sl false nj cs]=some (.tup [],[.sl false nj ds],[]):=by
 intro g first caps f cs cp v hl ok;obtain ⟨ds,h1,h2,e⟩:=hi g first caps f cs cp hl ok;refine ⟨ds,h1,h2,iw hT rfl ?_⟩;have w1:IntKind.i64.wrap (cs.length:Int)=cs.length:=w64 (by omega)
 have h12:(cs.length:Int)≤12:=by omega
 have lp:=lq (O:=den T A) (np:=1) (c:=Z2x_L0) (s:=⟨[(0,.sl 0 [] 0 cs.length cp),(1,(.d (.int .i64 0))),(2,(.d (.int .i64 cs.length))),(3,(.d (.int .i64 v))),(4,.d (.fn g first caps)),(10,(.d (.bool true))),(11,(.d (.bool true)))],[.sl false nj cs]⟩) (s1:=⟨[],[.sl false nj ds]⟩) (by
  simp at e;simp -implicitDefEqProofs [Z2x_L0,aw,w1,h12,e,List.idxOf,List.findIdx,List.findIdx.go])
 simp -implicitDefEqProofs [Z2x,Z2x_B,lp]
def Dc (O:ap):Prop:=∀(g:Nat) (first caps:List D) (f:D→Int) (cs:List D) (cp:Option Nat),cs.length≤12→CmpOk O g first caps f nj cs →
 ∃ds:List D,ds.Perm cs∧Asc f ds∧O F2a [.sl 0 [] 0 cs.length cp,.d (.fn g first caps)] [.sl false nj cs]=some (.tup [],[.sl false nj ds],[])
theorem Uc (hT:T F2a=some Z2a) (hTp:T F2x=some Z2x) (hi:wq (den T A)) (hl:yo (den T A) F1z):Dc (den T A):=by
 intro g first caps f cs cp hl12 ok;obtain ⟨v,ev⟩:=hl cs.length hl12;obtain ⟨ds,h1,h2,e⟩:=af4 hTp hi g first caps f cs cp v hl12 ok;refine ⟨ds,h1,h2,iw hT rfl ?_⟩
 have w1:IntKind.u64.wrap (cs.length:Int)=cs.length:=by
  simp [IntKind.wrap,IntKind.bits,IntKind.signed]; omega
 simp -implicitDefEqProofs [Z2a,Z2a_B,w1,ev,e,List.idxOf,List.findIdx,List.findIdx.go]
theorem Xa {O:ap} (hd:qq O) {p:Int} [IsP p] {b:Fp p} (hb:2≤b.len) (hbl:b.len<2000):∀(n:Nat) (a:Fp p) (i:Nat),a.len≤n→a≠0→n<2000→i+n<100000→∃(k:Nat) (r:Fp p),a=r*pw b k∧¬ Dv b r ∧
 dn O 0 (.loop Z1l_L0) ⟨[(0,(.d (.int .i64 p))),(1,(.d (.sl .leaf (af .i64 (row a))))),(2,(.d (.sl .leaf (af .i64 (row b))))),(8,(.d (.int .i64 i)))],[]⟩=some (.ret,⟨[(6,(.d (.sl .leaf (af .i64 (row r))))),(7,(.d (.int .i64 ((i+k:Nat)))))],[]⟩)
 | 0,a,i,hn,ha,_,_=>absurd (Pol.len_zero_iff.1 (by omega)) ha
 | n+1,a,i,hn,ha,hn2,hi=>by
  have hb0:b≠0:=fun h=>by rw [h,Pol.len_zero] at hb; omega
  have e:=hd p a b hb0 (by omega) (by omega)
  by_cases h0:a%b=0
  ·have hm:=Pol.div_mod a b
   rw [h0,Gq.add_zero] at hm;have hq:a/b≠0:=fun h=>ha (by rw [hm,h,Gq.zero_mul])
   have hl:=Pol.len_mul hq hb0;rw [←hm] at hl;obtain ⟨k,r,e1,e2,e3⟩:=Xa hd hb hbl n (a/b) (i+1) (by omega) hq (by omega) (by omega)
   refine ⟨k+1,r,?_,e2,?_⟩
   ·rw [pw,←Gq.mul_assoc,←e1]; exact hm
   ·have w1:IntKind.i64.wrap ((i:Int)+1)=((i+1:Nat):Int):=(w64 (x:=(i:Int)+1) (by omega)).trans (by omega)
    rw [show i+(k+1)=i+1+k by omega]
    refine cg ?_ e3;simp -implicitDefEqProofs [Z1l_L0,aw,e,h0,dt,w1]
  ·refine ⟨0,a,(Gq.mul_one a).symm,fun hdv=>h0 ((qw hb0).1 hdv),lq ?_⟩
   have hp:=Pol.len_pos h0;simp -implicitDefEqProofs [Z1l_L0,aw,e,hp]
def Dg (O:ap):Prop:=∀(p:Int) [IsP p] (a b:Fp p),a≠0→2≤b.len→a.len<1000→b.len<1000→∃(k:Nat) (r:Fp p),a=r*pw b k∧¬ Dv b r ∧
 ask O F1l [(D.int .i64 p),(D.sl .leaf (af .i64 (row a))),(D.sl .leaf (af .i64 (row b)))]=some (.tup [(D.sl .leaf (af .i64 (row r))),(D.int .i64 k)])
theorem a7k (hT:T F1l=some Z1l) (hd:qq (den T A)):Dg (den T A):=by
 intro p i a b ha hb hal hbl;obtain ⟨k,r,h1,h2,e⟩:=Xa hd hb (by omega) a.len a 0 (bh _) ha (by omega) (by omega)
 have e0:((0:Nat):Int)=0:=rfl;rw [e0,cd] at e;refine ⟨k,r,h1,h2,c9 hT rfl ?_⟩;simp -implicitDefEqProofs [Z1l,Z1l_B,e]
section
variable {p:Int} [IsP p]
theorem tc {n:Nat} (h:n≤12):p^n≤13841287201:=by
 have hp:=IsP.pos (p:=p);have h1:=pq (p:=p) (by omega) h
 have h2:p^12≤13841287201:=by
  rcases (inferInstance:IsP p).h with rfl | rfl | rfl | rfl <;> decide
 omega
theorem mw (n:Nat):0<p^n:=Int.pow_pos (IsP.pos)
theorem Ge (n:Nat):2*p^n≤p^(n+1):=by
 have hp:=IsP.ge (p:=p);rw [gn,jl];exact cw hp (Int.le_of_lt (mw n))
theorem L4 {most:Int}:∀(n:Nat) (out:Int),0<out→out*p^n≤most→Gs p most n out=out*p^n
 | 0,out,h0,h=>by rw [si,pm]; rfl
 | n+1,out,h0,h=>by
  have hp:=IsP.pos (p:=p);have e:out*p^(n+1)=out*p*p^n:=by rw [gn,xf,jl p]
  rw [e] at h ⊢;have h1:1≤p^(n+1):=mw (n+1);have h2:out*1≤out*p^(n+1):=cw h1 (by omega)
  rw [e] at h2;rw [Gs,if_neg (by omega)]
  exact L4 n (out*p) (Int.mul_pos h0 hp) h
theorem Db {n:Nat} (hn:n≤12) {k:Int} (h1:p^n≤k) (h2:k<2*p^n):Monic (fu p k)∧(fu p k).len=n+1:=by
 have hp:=IsP.ge (p:=p);have hb:=tc (p:=p) hn;have hpos:=mw (p:=p) n;have ok:Dh k:=⟨by omega,by omega⟩
 have hs:=Ge (p:=p) n;have hlt:=Di (p:=p) ok (d:=n+1) (by omega)
 have hc:(fu p k).c n=1:=by
  rw [wu ok]
  have:k/p^n=1:=by
   have e:k=(k-p^n)+p^n:=by omega
   rw [e,Int.add_ediv_of_dvd_right (Int.dvd_refl _),Int.ediv_self (by omega),m5 (by omega) (by omega)]; rfl
  rw [this]; rfl
 have hl:=Pol.len_eq hlt (by rw [hc]; exact Fd.one_ne)
 refine ⟨⟨?_,fun h0=>by rw [h0,Pol.len_zero] at hl; omega⟩,hl⟩
 unfold Pol.ld;rw [hl]; exact hc
theorem tr {n:Nat} (_hn:n≤12) {q:Fp p} (hq:Monic q) (hl:q.len=n+1):p^n≤gt q∧gt q<2*p^n:=by
 have hp:=IsP.ge (p:=p);have hpos:=mw (p:=p) n;have h1:=E8 q;have h2:=a5a (ll q) n;have h3:q.c n=1:=by have:=hq.1; unfold Pol.ld at this; rwa [hl] at this
 rw [ft,h3,pt] at h2
 have h4:gt q/p^n<p:=by
  apply ju hpos;rw [hl,gn,jl] at h1;exact h1.2
 have h5:0≤gt q/p^n:=ow h1.1 (by omega)
 have h6:gt q/p^n=1:=by
  have:gt q/p^n%p=gt q/p^n:=n6 h5 h4;have h7:(1:Int)=gt q/p^n%p:=h2;omega
 have h8:=Int.mul_ediv_add_emod (gt q) (p^n);rw [h6,pm] at h8;have h9:=ep (gt q) (show p^n≠0 by omega)
 have h10:=dl (gt q) hpos;omega
theorem Jg {n:Nat} (hn:n≤12) {q:Fp p} (hq:Monic q) (hl:q.len=n+1):fu p (gt q)=q:=Iv (by
 have:=tr hn hq hl;have:=tc (p:=p) hn;omega)
theorem a5c {O:ap} (hnu:kq O) (hr:xd O) {a:Fp p} (hal:a.len<1000) {n:Nat} (hn:n≤12):∀(m:Nat) (k:Int),p^n≤k→k<2*p^n→(2*p^n-k).toNat≤m→(∃k0,k≤k0∧k0<2*p^n∧Dv (fu p k0) a)→∃b:Fp p,Monic b∧b.len=n+1∧Dv b a ∧
 dn O 0 (.loop Z1n_L0) ⟨[(0,(.d (.int .i64 p))),(1,(.d (.sl .leaf (af .i64 (row a))))),(7,(.d (.int .i64 (p^n)))),(8,(.d (.int .i64 k)))],[]⟩=some (.ret,⟨[(6,(.d (.sl .leaf (af .i64 (row b)))))],[]⟩)
 | 0,k,h1,h2,hm,hx=>by omega
 | m+1,k,h1,h2,hm,hx=>by
  have hb:=tc (p:=p) hn;have hpos:=mw (p:=p) n;obtain ⟨m1,m2⟩:=Db hn h1 h2;have e1:=hnu p k (by omega) (by omega)
  have e2:=hr p a (fu p k) m1.2 (by omega) (by omega)
  have w1:IntKind.i64.wrap (2*p^n)=2*p^n:=w64 (by omega)
  have w2:IntKind.i64.wrap (k+1)=k+1:=w64 (by omega)
  by_cases hd:Dv (fu p k) a
  ·refine ⟨fu p k,m1,m2,hd,lq ?_⟩
   have h0:=(qw m1.2).1 hd;rw [h0,dt] at e2;simp -implicitDefEqProofs [Z1n_L0,aw,e1,e2,w1,h2]
  ·obtain ⟨k0,g1,g2,g3⟩:=hx
   have hne:k≠k0:=fun h=>hd (h▸g3)
   obtain ⟨b,b1,b2,b3,e⟩:=a5c hnu hr hal hn m (k+1) (by omega) (by omega) (by omega) ⟨k0,by omega,g2,g3⟩
   refine ⟨b,b1,b2,b3,cg ?_ e⟩;have h0:a%fu p k≠0:=fun h=>hd ((qw m1.2).2 h)
   have h0':row (a%fu p k)≠[]:=fun h=>h0 (a8y.1 h)
   have h0'':(a%fu p k).len≠0:=fun h=>h0 (Pol.len_zero_iff.1 h)
   simp -implicitDefEqProofs [Z1n_L0,aw,e1,e2,w1,w2,h2,h0'']
end
def sd (O:ap):Prop:=∀(p:Int) [IsP p] (a:Fp p) (n:Nat),1≤n→n≤12→a.len<1000→a≠0→(∃q,Monic q∧q.len=n+1∧Dv q a)→∃b:Fp p,Monic b∧b.len=n+1∧Dv b a ∧
 ask O F1n [(D.int .i64 p),(D.sl .leaf (af .i64 (row a))),(D.int .i64 n)]=some (D.sl .leaf (af .i64 (row b)))
theorem O8 (hT:T F1n=some Z1n) (hnu:kq (den T A)) (hr:xd (den T A)) (hno:xe (den T A)) (hdg:lg (den T A)) (hld:lk (den T A)) (hinv:g8 (den T A)) (hs:wi (den T A)):sd (den T A):=by
 intro p i a n hn1 hn hal ha ⟨q,q1,q2,q3⟩;have hp:=IsP.ge (p:=p);have hp7:=IsP.le (p:=p);have e1:=hdg (row a) (by rw [bi]; omega)
 rw [bi] at e1
 by_cases hd:a.len=n+1
 ·have hr:=gr a.ld
  have hin:=vd p (rep a.ld);have e2:=hld (row a) (by rw [bi]; omega)
  rw [ua] at e2;have e3:=hinv p (rep a.ld) (by omega) (by omega) hr.1 hr.2
  have e4:=hs p (inv p (rep a.ld)) a (by omega) (by omega) (by omega)
  rw [ry _ (Pol.ld_ne ha)] at e4;have hd2:(a.len:Int)-1=n:=by omega
  refine ⟨mon a,rh ha,by rw [wo ha,hd],(D5 ha).2 (.refl a),c9 hT rfl ?_⟩
  simp -implicitDefEqProofs [Z1n,Z1n_B,aw,e1,e2,e3,e4,hd2,mon]
 ·have hd2:¬ (a.len:Int)-1=n:=by omega
  have hb:=tc (p:=p) hn;have hpos:=mw (p:=p) n;have e2:=hno p n 1099511627776 (by omega) (by omega)
  rw [L4 n 1 (by omega) (by omega),Int.one_mul] at e2
  have hq:=tr hn q1 q2;obtain ⟨b,b1,b2,b3,e⟩:=a5c hnu hr hal hn (2*p^n-p^n).toNat (p^n) (u6 _) (by omega) (bh _) ⟨gt q,hq.1,hq.2,by rw [Jg hn q1 q2]; exact q3⟩
  refine ⟨b,b1,b2,b3,c9 hT rfl ?_⟩;simp -implicitDefEqProofs [Z1n,Z1n_B,aw,e1,e2,hd2,e]
section
variable {p:Int} [IsP p]
theorem a3b:row (Pol.X:Fp p)=[0,1]:=by
 unfold row;rw [Pol.len_X];show [rep ((Pol.X:Fp p).c 0),rep ((Pol.X:Fp p).c 1)]=[0,1];have e0:(Pol.X:Fp p).c 0=0:=rfl;have e1:(Pol.X:Fp p).c 1=1:=rfl;rw [e0,e1,rep_zero,pt]
theorem Irr.assoc {q b:Fp p} (hq:Irr q) (hb:Irr b) (h:Dv q b):Dv b q:=by
 obtain ⟨c,hc⟩:=h;have hc0:c≠0:=fun h0=>hb.ne (by rw [hc,h0,Gq.mul_zero])
 have l:=Pol.len_mul hq.ne hc0;rw [←hc] at l;have h1:=hq.len;rcases hb.dv ⟨c,hc⟩ with h2 | h2
 ·omega
 ·obtain ⟨k,hk,rfl⟩:=ph (show c.len=1 by omega)
  rw [hc,Gq.mul_comm];exact (Dv.Cmul hk).2 (.refl q)
structure FInv (a0:Fp p) (n:Nat) (a:Fp p) (out:o9 p):Prop where
 ne:a≠0
 eq:a0=a*nw out
 ok:FacOk out
 nd:∀x∈out,¬ Dv x.1 a
 ns:Bs n a
 ln:out.length+a.len≤13
structure JInv (a0:Fp p) (n:Nat) (a:Fp p) (out:o9 p) (all:Fp p):Prop where
 f:FInv a0 n a out
 ne:all≠0
 ln:all.len≤13
 one:∀q,Irr q→Dv q all→q.len=n+1∧Dv q a
 two:∀q,Irr q→q.len=n+1→Dv q a→Dv q all
end
section
variable {p:Int}
theorem yy (L:o9 p) (x:Fp p×Nat):nw (L++[x])=nw L*pw x.1 x.2:=by
 induction L with
 | nil=>show pw x.1 x.2*1=1*pw x.1 x.2; rw [Gq.mul_one,Gq.one_mul]
 | cons y L ih=>rw [gd,sr,sr,ih,Gq.mul_assoc]
end
section
variable {p:Int} [IsP p]
theorem FacOk.snoc {L:o9 p} (h:FacOk L) {q:Fp p} {k:Nat} (hi:Irr q) (hm:Monic q) (hk:1≤k) (hd:∀x∈L,x.1≠q):FacOk (L++[(q,k)]):=by
 refine ⟨fun x hx=>?_,?_⟩
 ·rcases bn.1 hx with hx | hx
  ·exact h.irr x hx
  ·simp at hx; subst hx; exact ⟨hi,hm,hk⟩
 ·rw [fo]
  refine ⟨h.dis,f9 _ _,fun x hx y hy=>?_⟩
  simp at hy; subst hy; exact hd x hx
theorem JInv.irr {a0 a:Fp p} {n:Nat} {out:o9 p} {all b:Fp p} (h:JInv a0 n a out all) (hn:1≤n) (hb:b.len=n+1) (hd:Dv b all):Irr b:=by
 have hb0:b≠0:=fun h0=>by rw [h0,Pol.len_zero] at hb; omega
 refine Irr.of_dv (by omega) fun u hu=>?_
 have hul:=hu.len hb0
 have hu0:u≠0:=fun h0=>by
  obtain ⟨c,hc⟩:=hu;exact hb0 (by rw [hc,h0,Gq.zero_mul])
 have hup:=Pol.len_pos hu0
 by_cases h1:u.len=1
 ·exact .inl h1
 ·right
  obtain ⟨r,r1,_,r2⟩:=Da u.len u (bh _) (by omega)
  have h2:=(h.one r r1 ((r2.trans hu).trans hd)).1;have h3:=r2.len hu0;omega
theorem JInv.step {a0 a:Fp p} {n:Nat} {out:o9 p} {all b:Fp p} (h:JInv a0 n a out all) (hn:1≤n) (hm:Monic b) (hb:b.len=n+1) (hd:Dv b all)
 {k k':Nat} {r r':Fp p} (h1:a=r*pw b k) (h2:¬ Dv b r) (h3:all=r'*pw b k') (h4:¬ Dv b r'):JInv a0 n r (out++[(b,k)]) r'∧r'.len<all.len∧1≤k:=by
 have hi:=h.irr hn hb hd;have hda:=(h.one b hi hd).2
 have hk:1≤k:=by
  cases k with
  | zero=>exact absurd (by rw [h1,pw,Gq.mul_one] at hda; exact hda) h2
  | succ k=>omega
 have hk':1≤k':=by
  cases k' with
  | zero=>exact absurd (by rw [h3,pw,Gq.mul_one] at hd; exact hd) h4
  | succ k=>omega
 have hr0:r≠0:=fun h0=>h.f.ne (by rw [h1,h0,Gq.zero_mul])
 have hr0':r'≠0:=fun h0=>h.ne (by rw [h3,h0,Gq.zero_mul])
 have shrink:∀(a r:Fp p) (k:Nat),r≠0→1≤k→a=r*pw b k→r.len<a.len:=by
  intro a r k hr hk e;obtain ⟨j,rfl⟩:∃j,k=j+1:=⟨k-1,by omega⟩
  have hj:=Iu hi.ne j;have l1:=Pol.len_mul hj hi.ne;have l2:=Pol.len_mul hr (Pol.mul_ne hj hi.ne);have l3:=Pol.len_pos hj;rw [e,pw]; omega
 have s1:=shrink a r k hr0 hk h1;have s2:=shrink all r' k' hr0' hk' h3;have dr:∀q,Dv q r→Dv q a:=fun q hq=>by rw [h1]; exact hq.mul_right _
 have pd:∀q,Irr q→∀m,Dv q (pw b m)→Dv b q:=fun q hq m hq2=>Irr.assoc hq hi (Irr.pw_dv hq m hq2)
 refine ⟨⟨⟨hr0,?_,h.f.ok.snoc hi hm hk fun x hx e=>h.f.nd x hx (e▸hda),?_,U1 h.f.ns ⟨pw b k,h1⟩,?_⟩,hr0',by have:=h.ln; omega,?_,?_⟩,s2,hk⟩
 ·rw [h.f.eq,yy]
  conv=>lhs; rw [h1]
  exact bj [r,pw b k,nw out] rfl
 ·intro x hx
  rcases bn.1 hx with hx | hx
  ·exact fun hq=>h.f.nd x hx (dr _ hq)
  ·simp at hx; subst hx; exact h2
 ·have:=h.f.ln
  simp; omega
 ·intro q hq hqr
  have hqa:Dv q all:=by rw [h3]; exact hqr.mul_right _
  obtain ⟨g1,g2⟩:=h.one q hq hqa;refine ⟨g1,?_⟩;rw [h1] at g2;rcases hq.prime g2 with g | g
  ·exact g
  ·exact absurd ((pd q hq k g).trans hqr) h4
 ·intro q hq hql hqr
  have:=h.two q hq hql (dr q hqr);rw [h3] at this;rcases hq.prime this with g | g
  ·exact g
  ·exact absurd ((pd q hq k' g).trans hqr) h2
theorem JInv.done {a0 a:Fp p} {n:Nat} {out:o9 p} {all:Fp p} (h:JInv a0 n a out all) (hl:all.len<2):FInv a0 (n+1) a out:=by
 refine ⟨h.f.ne,h.f.eq,h.f.ok,h.f.nd,fun q hq hd=>?_,h.f.ln⟩
 have h1:=h.f.ns q hq hd;apply dj;intro hx;have h2:=(h.two q hq (by omega) hd).len h.ne
 have:=hq.len;omega
theorem JInv.init {a0 a:Fp p} {n:Nat} {out:o9 p} (h:FInv a0 n a out) (hn:1≤n) (hn2:n≤12) {fr:Fp p} (hf:fr%a=pw Pol.X (p.toNat^n)%a):JInv a0 n a out (Pol.gcd (fr-Pol.X) a):=by
 have h0:fr-Pol.X≠0∨a≠0:=.inr h.ne;have hm:=Pol.gcd_monic h0;have hd2:=Pol.gcd_dv_right h0
 have key:∀q,Dv q a→(Dv q (fr-Pol.X)↔Dv q (frT p n)):=by
  intro q hq
  have e:Dv q (fr-pw Pol.X (p.toNat^n)):=by
   refine hq.trans ?_;rw [nv,Quo.mk_sub];rw [(Pol.mod_eq_iff h.ne).1 hf,sub_self]
  unfold frT;constructor
  ·intro g
   have:pw Pol.X (p.toNat^n)-Pol.X=(fr-Pol.X)-(fr-pw Pol.X (p.toNat^n)):=bj [pw Pol.X (p.toNat^n),Pol.X,fr] rfl;rw [this]; exact g.sub e
  ·intro g
   have:fr-Pol.X=(pw Pol.X (p.toNat^n)-Pol.X)+(fr-pw Pol.X (p.toNat^n)):=bj [pw Pol.X (p.toNat^n),Pol.X,fr] rfl;rw [this]; exact g.add e
 have hl:=hd2.len h.ne;have hl2:=h.ln;refine ⟨h,hm.2,by omega,fun q hq hd=>?_,fun q hq hql hqa=>?_⟩
 ·have g1:=hd.trans hd2
  have g2:=(key q g1).1 (hd.trans (Pol.gcd_dv_left h0));have g3:=h.ns q hq g1;have g4:=g1.len h.ne;have g5:=D4 hq (d:=q.len-1) (k:=n) (by have:=hq.len; omega) (by have:=tc (p:=p) (n:=q.len-1) (by omega); omega) hn g2
  exact ⟨by omega,g1⟩
 ·have g2:=X8 hq hql (by have:=tc (p:=p) hn2; omega)
  exact Pol.dv_gcd h0 ((key q hqa).2 g2) hqa
noncomputable abbrev pz (x:Fp p×Nat):D:=.st [.leaf,.leaf] [(D.sl .leaf (af .i64 (row x.1))),(D.int .i64 x.2)]
theorem a56 {O:ap} (hw:sd O) (hst:Dg O) (hdg:lg O) {a0:Fp p} {n:Nat} (hn:1≤n) (hn2:n≤12):∀(m:Nat) (a:Fp p) (out:o9 p) (all:Fp p) (cp:Option Nat),all.len≤m→JInv a0 n a out all→∃(a':Fp p) (out':o9 p) (all':List Int) (cp':Option Nat),FInv a0 (n+1) a' out'∧a'.len≤a.len ∧
 dn O 0 (.loop Z14_L1) ⟨[(0,(.d (.int .i64 p))),(1,(.d (.sl .leaf (af .i64 (row a))))),(5,.sl 0 [] 0 out.length cp),(6,(.d (.int .i64 n))),(8,(.d (.sl .leaf (af .i64 (row all)))))],[.sl false nj (out.map pz),.hole,.hole,.hole,.hole]⟩ =
  some (.exit 4,⟨[(0,(.d (.int .i64 p))),(1,(.d (.sl .leaf (af .i64 (row a'))))),(5,.sl 0 [] 0 out'.length cp'),(6,(.d (.int .i64 n))),(8,(.d (.sl .leaf (af .i64 all')))),(52,(.d (.bool false)))],[.sl false nj (out'.map pz),.hole,.hole,.hole,.hole]⟩)
 | m,a,out,all,cp,hm,h=>by
  have hln:=h.ln;have hp:=Pol.len_pos h.ne;have e1:=hdg (row all) (by rw [bi]; omega)
  rw [bi] at e1
  by_cases hl:all.len<2
  ·refine ⟨a,out,row all,cp,h.done hl,bh _,cm ?_⟩
   have h1:¬ (1:Int)<(all.len:Int):=by omega
   simp -implicitDefEqProofs [Z14_L1,aw,e1,h1]
  ·have hlo:=h.f.ln
   obtain ⟨q,q1,q2,q3⟩:=Da all.len all (bh _) (by omega)
   obtain ⟨b,b1,b2,b3,e2⟩:=hw p all n hn hn2 (by omega) h.ne ⟨q,q2,(h.one q q1 q3).1,q3⟩
   obtain ⟨k,r,g1,g2,e3⟩:=hst p a b h.f.ne (by omega) (by omega) (by omega)
   obtain ⟨k',r',g3,g4,e4⟩:=hst p all b h.ne (by omega) (by omega) (by omega)
   obtain ⟨hJ,hlt,hk⟩:=h.step hn b1 b2 b3 g1 g2 g3 g4;cases m with
   | zero=>omega
   | succ m=>
    obtain ⟨a',out',all',cp',i1,i2,e⟩:=a56 hw hst hdg hn hn2 m r (out++[(b,k)]) r' none (by omega) hJ
    have hra:r.len≤a.len:=(show Dv r a from ⟨_,g1⟩).len h.f.ne;refine ⟨a',out',all',cp',i1,by omega,cg ?_ e⟩
    have h1:(1:Int)<(all.len:Int):=by omega
    have h8:(out.length+1)*32≤1099511627776:=by omega
    have ht:(out.map pz).take out.length=out.map pz:=bg (by simp)
    have hL:(out.map pz).length=out.length:=by simp
    have o1:(out++[(b,k)]).map pz=out.map pz++[pz (b,k)]:=by simp
    have o2:(out++[(b,k)]).length=out.length+1:=by simp
    rw [o1,o2];generalize out.map pz=LD at *;simp -implicitDefEqProofs [Z14_L1,aw,e1,e2,e3,e4,h1,h8,ht,hL,List.replicate]
theorem a58 {O:ap} (hpw:Bz O) {a:Fp p} (ha:a≠0) (hal:a.len≤13) {n:Nat} (hn2:n≤1000) {st:V} {hp:Heap} (hst:st.refs=[0]) (hhp:∃b,hp=[b,.hole,.hole,.hole,.hole]):∀(m i:Nat) (fr:Fp p),i+m=n→fr.len≤13→∃fr':Fp p,fr'.len≤13∧fr'%a=pw fr (p.toNat^m)%a ∧
 dn O 0 (.loop Z14_L0) ⟨[(0,(.d (.int .i64 p))),(1,(.d (.sl .leaf (af .i64 (row a))))),(5,st),(6,(.d (.int .i64 n))),(7,(.d (.sl .leaf (af .i64 (row fr))))),(34,(.d (.int .i64 n))),(35,(.d (.int .i64 i)))],hp⟩ =
  some (.exit 2,⟨[(0,(.d (.int .i64 p))),(1,(.d (.sl .leaf (af .i64 (row a))))),(5,st),(6,(.d (.int .i64 n))),(7,(.d (.sl .leaf (af .i64 (row fr'))))),(34,(.d (.int .i64 n))),(35,(.d (.int .i64 n))),(36,(.d (.bool false)))],hp⟩)
 | 0,i,fr,hi,hf=>by
  obtain ⟨b,rfl⟩:=hhp;obtain rfl:i=n:=by omega
  refine ⟨fr,hf,by rw [n5,zt],cm ?_⟩
  simp -implicitDefEqProofs [Z14_L0,aw,hst]
 | m+1,i,fr,hi,hf=>by
  have hP:=IsP.pos (p:=p);have hP7:=IsP.le (p:=p);have e:=hpw p fr p a ha (by omega) (by omega) (by omega) (by omega)
  have hl:=Pol.len_mod (pw fr p.toNat) ha;obtain ⟨fr',g1,g2,g3⟩:=a58 (O:=O) hpw ha hal hn2 hst hhp m (i+1) (pw fr p.toNat%a) (by omega) (by omega)
  obtain ⟨b,rfl⟩:=hhp;have h1:i<n:=by omega
  have w1:IntKind.i64.wrap ((i:Int)+1)=((i+1:Nat):Int):=(w64 (x:=(i:Int)+1) (by omega)).trans (by omega)
  refine ⟨fr',g1,?_,cg ?_ g3⟩
  ·rw [g2,Pol.pow_mod _ ha,wj,mz,qa]
  ·simp -implicitDefEqProofs [Z14_L0,aw,e,h1,w1,hst]
structure FEnd (a0:Fp p) (out:o9 p):Prop where
 ok:FacOk out
 eq:∃c:Zp p,c≠0∧a0=Pol.C c*nw out
 ln:out.length≤12
theorem a3o {O:ap} (hw:sd O) (hst:Dg O) (hdg:lg O) (hpw:Bz O) (hlet:Ad O) (hc:qz O) (hg:Qu O) (hld:lk O) (hinv:g8 O) (hs:wi O) {a0:Fp p}:∀(m n:Nat) (a:Fp p) (out:o9 p) (cp:Option Nat),1≤n→n+m=15→FInv a0 n a out→∃(out':o9 p) (cp':Option Nat) (e:Env),FEnd a0 out'∧((∃x y,e=[(0,(.d (.int .i64 p))),(1,(.d (.sl .leaf (af .i64 x)))),(5,.sl 0 [] 0 out'.length cp'),(6,(.d (.int .i64 y))),(14,(.d (.bool false)))])∨e=[(5,.sl 0 [] 0 out'.length cp')]) ∧
 dn O 0 (.loop Z14_L2) ⟨[(0,(.d (.int .i64 p))),(1,(.d (.sl .leaf (af .i64 (row a))))),(5,.sl 0 [] 0 out.length cp),(6,(.d (.int .i64 n)))],[.sl false nj (out.map pz),.hole,.hole,.hole,.hole]⟩ =
  some (.exit 0,⟨e,[.sl false nj (out'.map pz),.hole,.hole,.hole,.hole]⟩)
 | m,n,a,out,cp,hn,hm,h=>by
  have hp:=IsP.ge (p:=p);have hp7:=IsP.le (p:=p);have hln:=h.ln;have ha:=Pol.len_pos h.ne;have e1:=hdg (row a) (by rw [bi]; omega)
  rw [bi] at e1
  by_cases hl:a.len=1
  ·have h1:¬ (1:Int)<(a.len:Int):=by omega
   obtain ⟨c,hc0,rfl⟩:=ph hl;refine ⟨out,cp,_,⟨h.ok,⟨c,hc0,h.eq⟩,by omega⟩,.inl ⟨row (Pol.C c),n,rfl⟩,cm ?_⟩
   simp -implicitDefEqProofs [Z14_L2,aw,e1,h1]
  ·have h1:(1:Int)<(a.len:Int):=by omega
   have w1:IntKind.i64.wrap (2*(n:Int))=2*(n:Int):=w64 (by omega)
   have h8:(out.length+1)*32≤1099511627776:=by omega
   have ht:(out.map pz).take out.length=out.map pz:=bg (by simp)
   have hL:(out.map pz).length=out.length:=by simp
   by_cases h2:(a.len:Int)-1<2*(n:Int)
   ·have hi:=Aw h.ns (by omega) (by omega)
    have hr:=gr a.ld;have hin:=vd p (rep a.ld);have e2:=hld (row a) (by rw [bi]; omega)
    rw [ua] at e2;have e3:=hinv p (rep a.ld) (by omega) (by omega) hr.1 hr.2
    have e4:=hs p (inv p (rep a.ld)) a (by omega) (by omega) (by omega)
    rw [ry _ (Pol.ld_ne h.ne)] at e4;have e4':ask O F1j [(D.int .i64 p),(D.sl .leaf (af .i64 (row a))),(D.int .i64 (inv p (rep a.ld)))]=some (D.sl .leaf (af .i64 (row (mon a)))):=e4;have o1:(out++[(mon a,1)]).map pz=out.map pz++[pz (mon a,1)]:=by simp
    have o2:(out++[(mon a,1)]).length=out.length+1:=by simp
    refine ⟨out++[(mon a,1)],none,_,⟨h.ok.snoc hi.mon (rh h.ne) (bh 1) fun x hx e=>h.nd x hx (by rw [e,D5 h.ne]; exact .refl a),⟨a.ld,Pol.ld_ne h.ne,?_⟩,by rw [o2]; omega⟩,.inr rfl,cm ?_⟩
    ·rw [yy]
     show a0=Pol.C a.ld*(nw out*pw (mon a) 1);rw [zt,h.eq]
     conv=>lhs; rw [Vw h.ne]
     exact bj [Pol.C a.ld,mon a,nw out] rfl
    ·rw [o1,o2]
     generalize out.map pz=LD at *;simp -implicitDefEqProofs [Z14_L2,aw,e1,h1,h2,w1,e2,e3,e4',h8,ht,hL,List.replicate]
   ·cases m with
    | zero=>omega
    | succ m=>
     have hl2:(Pol.X:Fp p).len≤13:=by rw [Pol.len_X]; omega
     obtain ⟨fr,g1,g2,g3⟩:=a58 (O:=O) hpw h.ne (by omega) (n:=n) (by omega) (st:=.sl 0 [] 0 out.length cp) (hp:=[.sl false nj (out.map pz),.hole,.hole,.hole,.hole]) (by simp [V.refs]) ⟨_,rfl⟩ n 0 Pol.X (cd _) hl2
     have hJ:=JInv.init h hn (by omega) g2
     have hlj:=hJ.ln;obtain ⟨a',out',all',cp',i1,i2,i3⟩:=a56 (O:=O) hw hst hdg hn (by omega) (Pol.gcd (fr-Pol.X) a).len a out _ cp (bh _) hJ
     obtain ⟨out2,cp2,e,j1,j2,j3⟩:=a3o hw hst hdg hpw hlet hc hg hld hinv hs m (n+1) a' out' cp' (by omega) (by omega) i1
     have e2:ask O Fu []=some (D.sl .leaf (af .i64 (row (Pol.X:Fp p)))):=by rw [a3b]; exact hlet
     have e3:=hc p fr Pol.X (by omega) (by omega)
     have hsl:=Pol.len_sub_le (a:=fr) (b:=Pol.X) (n:=13) g1 hl2;have e4:=hg p (fr-Pol.X) a (.inr h.ne) (by omega) (by omega)
     have w2:IntKind.i64.wrap ((n:Int)+1)=((n+1:Nat):Int):=(w64 (x:=(n:Int)+1) (by omega)).trans (by omega)
     have e0:((0:Nat):Int)=0:=rfl;rw [e0] at g3;refine ⟨out2,cp2,e,j1,j2,cg ?_ j3⟩;generalize out.map pz=LD at *;simp -implicitDefEqProofs [Z14_L2,aw,e1,h1,h2,w1,w2,e2,e3,e4,g3,i3]
end
theorem H6 {α β:Type} (f:α→β) {m ds:List β} (h:m.Perm ds):∀l:List α,l.map f=m→∃l':List α,l'.Perm l∧l'.map f=ds:=by
 induction h with
 | nil=>intro l hl; exact ⟨[],by simp at hl; subst hl; exact .refl _,rfl⟩
 | cons x h ih=>
  intro l hl;cases l with
  | nil=>simp at hl
  | cons y l=>
   simp at hl;obtain ⟨l',p,e⟩:=ih l hl.2;exact ⟨y::l',p.cons y,by simp [e,hl.1]⟩
 | swap x y s=>
  intro l hl;cases l with
  | nil=>simp at hl
  | cons a l=>
   cases l with
   | nil=>simp at hl
   | cons b l=>
    simp at hl;exact ⟨b::a::l,List.Perm.swap a b l,by simp [hl]⟩
 | trans _ _ ih1 ih2=>
  intro l hl;obtain ⟨l',p,e⟩:=ih1 l hl;obtain ⟨l'',p2,e2⟩:=ih2 l' e;exact ⟨l'',p2.trans p,e2⟩
section
variable {p:Int} [IsP p]
theorem aaq:∀(n:Nat) {l m:List Int},Can p l→Can p m→l.length=n→m.length=n→Ga l m n=qi (vl p l) (vl p m):=by
 have hp:=IsP.pos (p:=p)
 -- the value of the first coefficients
 have key:∀(k:Nat) (l:List Int),Can p l→k≤l.length→vl p (l.take k)+(if k<l.length then p^k*cf l k else 0)=vl p (l.take (k+1))∧0≤vl p (l.take k)∧vl p (l.take k)<p^k:=by
  intro k l hl hk;have hin:=Ya (p:=p) (l:=l.take k) fun x hx=>hl x (gy hx)
  rw [bv,Nat.min_eq_left hk] at hin;refine ⟨?_,hin⟩
  have app:∀(a b:List Int),vl p (a++b)=vl p a+p^a.length*vl p b:=by
   intro a
   induction a with
   | nil=>intro b; simp [vl]
   | cons x a ih=>
    intro b;rw [gd,vl,ih,vl,c7,gn,ro,jl (p^a.length) p,xf,Int.add_assoc]
  by_cases hlt:k<l.length
  ·rw [if_pos hlt,←Cb hlt,app,bv,Nat.min_eq_left hk,gu hlt]
   simp [vl]
  ·rw [if_neg hlt,bg (by omega),bg (by omega),Int.add_zero]
 intro n l m hl hm hln hmn
 have main:∀k,k≤n→Ga l m k=qi (vl p (l.take k)) (vl p (m.take k)):=by
  intro k
  induction k with
  | zero=>intro _; simp [Ga,qi,vl]
  | succ k ih=>
   intro hk;obtain ⟨a1,a2,a3⟩:=key k l hl (by omega)
   obtain ⟨b1,b2,b3⟩:=key k m hm (by omega)
   rw [if_pos (by omega)] at a1 b1
   rw [←a1,←b1,Ga,ih (by omega)]
   have hpk:=mw (p:=p) k;generalize vl p (l.take k)=u at *;generalize vl p (m.take k)=v at *;generalize cf l k=c at *;generalize cf m k=d at *
   have mono:∀x y:Int,x<y→p^k*x+p^k≤p^k*y:=fun x y h=>by
    have:=cw (show x+1≤y by omega) (Int.le_of_lt hpk)
    rwa [ro,pm] at this
   rcases Int.lt_trichotomy c d with h | h | h
   ·have:=mono c d h
    have e:qi c d=-1:=if_pos h;rw [e,if_pos (by omega)]
    exact (if_pos (by omega)).symm
   ·subst h
    have e:qi c c=0:=by unfold qi; rw [if_neg (by omega),if_neg (by omega)]
    rw [e,if_neg (fun h=>h rfl)]
    unfold qi
    by_cases h1:u<v
    ·rw [if_pos h1,if_pos (by omega)]
    ·rw [if_neg h1]
     by_cases h2:v<u
     ·rw [if_pos h2,if_neg (by omega),if_pos (by omega)]
     ·rw [if_neg h2,if_neg (by omega),if_neg (by omega)]
   ·have:=mono d c h
    have e:qi c d=1:=by unfold qi; rw [if_neg (by omega),if_pos h]
    rw [e,if_pos (by omega)]
    unfold qi;rw [if_neg (by omega),if_pos (by omega)]
 have:=main n (bh n)
 rwa [bg (by omega),bg (by omega)] at this
theorem a3a (a b:Fp p):a90 (row a) (row b)=qi (gt a) (gt b):=by
 unfold a90;rw [bi,bi];rcases km a.len b.len with h | h | h
 ·have:=ur h
  have e:qi (a.len:Int) b.len=-1:=if_pos (by omega)
  rw [e,if_pos (by omega)]
  exact (if_pos this).symm
 ·have e:qi (a.len:Int) b.len=0:=by unfold qi; rw [if_neg (by omega),if_neg (by omega)]
  rw [e,if_neg (fun h=>h rfl)]
  exact aaq a.len (ll a) (ll b) (bi a) (by rw [bi,h])
 ·have:=ur h
  have e:qi (a.len:Int) b.len=1:=by unfold qi; rw [if_neg (by omega),if_pos (by omega)]
  rw [e,if_pos (by omega)]
  unfold qi;rw [if_neg (by omega),if_pos this]
end
def agd (p:Int):D→Int
 | .st _ (.sl _ cs::_)=>vl p (cs.map D.num)
 | _=>0
theorem E9 {p:Int} (x:Fp p×Nat):agd p (pz x)=vl p (row x.1):=by
 show vl p ((af .i64 (row x.1)).map D.num)=_;unfold af;rw [List.map_map];have:(D.num ∘ D.int .i64)=id:=rfl;rw [this,List.map_id]
theorem a7o {p:Int} [IsP p] (hT:T F15=some Z15) (hc:C8 (den T A)) {L:o9 p} (hl:∀x∈L,x.1.len≤1000):CmpOk (den T A) F15 [] [] (agd p) nj (L.map pz):=by
 refine ⟨fun x hx=>by simp at hx,fun x hx=>by simp at hx,fun x hx=>?_,fun x hx=>?_,fun x hx y hy=>?_⟩
 ·obtain ⟨a,_,rfl⟩:=ch.1 hx; rfl
 ·obtain ⟨a,_,rfl⟩:=ch.1 hx; rfl
 ·obtain ⟨a,ha,rfl⟩:=ch.1 hx
  obtain ⟨b,hb,rfl⟩:=ch.1 hy;have h1:=hl a ha;have h2:=hl b hb;have e:=hc (row a.1) (row b.1) (by rw [bi]; omega) (by rw [bi]; omega)
  rw [a3a] at e;have n1:=E9 a;have n2:=E9 b;rw [n1,n2];refine c9 hT rfl ?_;simp -implicitDefEqProofs [Z15,Z15_B,e,gt]
def Eo (O:ap):Prop:=∀(p:Int) [IsP p] (a:Fp p),a≠0→a.len≤13→∃L:o9 p,IsFac a L∧L.length≤12 ∧
 ask O F14 [(D.int .i64 p),(D.sl .leaf (af .i64 (row a)))]=some (.sl nj (L.map pz))
theorem FacOk.perm {p:Int} [IsP p] {L L':o9 p} (h:FacOk L) (hp:L'.Perm L):FacOk L':=
 ⟨fun x hx=>h.irr x (hp.subset hx),(hp.pairwise_iff (fun h e=>h e.symm)).2 h.dis⟩
theorem Ug {p:Int} {L L':o9 p} (hp:L'.Perm L):nw L'=nw L:=Jn (hp.map _)
theorem Ys (hT:T F14=some Z14) (hT1:T F15=some Z15) (hw:sd (den T A)) (hst:Dg (den T A)) (hdg:lg (den T A)) (hpw:Bz (den T A)) (hlet:Ad (den T A)) (hc:qz (den T A)) (hg:Qu (den T A)) (hld:lk (den T A)) (hinv:g8 (den T A)) (hs:wi (den T A)) (hcmp:C8 (den T A)) (hsort:Dc (den T A)):Eo (den T A):=by
 intro p i a ha hal;have h0:FInv a 1 a []:=⟨ha,(Gq.mul_one a).symm,⟨by simp,List.Pairwise.nil⟩,by simp,Ti a,by simpa using hal⟩
 obtain ⟨out,cp,e,j1,j2,j3⟩:=a3o hw hst hdg hpw hlet hc hg hld hinv hs 14 1 a [] (some 0) (bh 1) rfl h0;obtain ⟨c,hc0,hac⟩:=j1.eq;have hP:=A3 j1.ok
 have hlen:∀x∈out,x.1.len≤1000:=fun x hx=>by
  have h1:Dv x.1 a:=by
   obtain ⟨r,h2,_⟩:=Bn j1.ok (show (x.1,x.2)∈out from hx);obtain ⟨k,hk⟩:∃k,x.2=k+1:=⟨x.2-1,by have:=(j1.ok.irr x hx).2.2; omega⟩
   rw [hac,h2,hk,pw];exact (((Dv.refl x.1).mul_left _).mul_right _).mul_left _
  have:=h1.len ha;omega
 obtain ⟨ds,s1,s2,s3⟩:=hsort _ _ _ _ (out.map pz) cp (by simpa using j1.ln) (a7o hT1 hcmp hlen)
 obtain ⟨L,p1,p2⟩:=H6 pz s1.symm out rfl;have ok:=j1.ok.perm p1;subst p2;have hLl:L.length=out.length:=p1.length_eq;refine ⟨L,⟨ok,?_,?_⟩,by rw [hLl]; exact j1.ln,c9 hT rfl ?_⟩
 ·have s4:L.Pairwise fun x y=>gt x.1≤gt y.1:=by
   have:=s2;unfold Asc at this;rw [jm] at this;exact this.imp fun h=>by rw [E9,E9] at h; exact h
  exact (s4.and ok.dis).imp fun {x y} h=>by
   have h1:=h.1;rcases Int.lt_or_eq_of_le h1 with h2 | h2
   ·exact h2
   ·exact absurd (Me h2) h.2
 ·have:a.ld=c:=by
   rw [hac,Pol.ld_mul (Pol.C_ne hc0) hP.2,Pol.ld_C hc0,hP.1,Gq.mul_one]
  rw [this,Ug p1]; exact hac
 ·have e0:(([]:o9 p).length:Nat)=0:=rfl
  have e00:((1:Nat):Int)=1:=rfl;rw [e0,e00,fc] at j3;have hds:(L.map pz).length=out.length:=by rw [ba,hLl]
  have hol:(out.map pz).length=out.length:=by simp
  have htk:(L.map pz).take out.length=L.map pz:=bg (by omega)
  rw [hol] at s3;generalize L.map pz=LD at *;generalize out.map pz=OD at *;rcases j2 with ⟨x,y,rfl⟩ | rfl
  ·simp -implicitDefEqProofs [Z14,Z14_B,j3,s3,hds,htk,List.idxOf,List.findIdx,List.findIdx.go]
  ·simp -implicitDefEqProofs [Z14,Z14_B,j3,s3,hds,htk,List.idxOf,List.findIdx,List.findIdx.go]
end Pe
namespace Pe
open Go Gq
variable {T:Nat→Option Fn} {A:ap}
open Classical in
noncomputable def fac {p:Int} [IsP p] (a:Fp p):o9 p:=if h:∃L,IsFac a L then Classical.choose h else []
theorem a5d {p:Int} [IsP p] {a:Fp p} (ha:a≠0) {L:o9 p} (h:IsFac a L):fac a=L:=by
 have hx:∃L,IsFac a L:=⟨L,h⟩;unfold fac;rw [dif_pos hx];exact IsFac.unique ha (ec hx) h
def a2v (O:ap):Prop:=∀(p:Int) [IsP p] (a:Fp p),a≠0→a.len≤13→IsFac a (fac a)∧(fac a).length≤12 ∧
 ask O F14 [(D.int .i64 p),(D.sl .leaf (af .i64 (row a)))]=some (.sl nj ((fac a).map pz))
theorem afq {O:ap} (h:Eo O):a2v O:=fun p i a ha hl=>by
 obtain ⟨L,h1,h2,h3⟩:=h p a ha hl;rw [a5d ha h1];exact ⟨h1,h2,h3⟩
section
variable {p:Int} [IsP p]
theorem IsFac.len {m:Fp p} (hm:m≠0) {L:o9 p} (h:IsFac m L) {x:Fp p×Nat} (hx:x∈L):2≤x.1.len∧x.1.len≤m.len∧x.2<m.len∧x.1≠0:=by
 obtain ⟨i1,i2,i3⟩:=h.ok.irr x hx;obtain ⟨_,_,_,h4,_⟩:=(O1 hm h.ok h.eq x.1 x.2).1 hx;have h5:=h4.len hm
 have h6:∀n,n<(pw x.1 n).len:=by
  intro n
  induction n with
  | zero=>show 0<(1:Fp p).len; rw [Pol.len_one]; omega
  | succ n ih=>
   have l:=Pol.len_mul (Iu i1.ne n) i1.ne;have:=i1.len;rw [pw]; omega
 have h7:=h6 x.2
 have h8:x.1.len≤(pw x.1 x.2).len:=by
  obtain ⟨k,hk⟩:∃k,x.2=k+1:=⟨x.2-1,by omega⟩
  rw [hk,pw];exact (show Dv x.1 (pw x.1 k*x.1) from ⟨pw x.1 k,Gq.mul_comm _ _⟩).len (Pol.mul_ne (Iu i1.ne k) i1.ne)
 exact ⟨i1.len,by omega,by omega,i1.ne⟩
end
end Pe
namespace Pe
open Go Gq
variable {T:Nat→Option Fn} {A:ap}
theorem a6e {p:Int} (h:isP p=true):IsP p:=⟨by unfold isP at h; simpa using h⟩
theorem a3w {p:Int} [h:IsP p]:isP p=true:=by unfold isP; exact decide_eq_true h.h
theorem a3z {p:Int} [IsP p] {a:Fp p}:xn p (pad (row a))=true:=by
 unfold xn;rw [g9];intro x hx;obtain ⟨i,_,rfl⟩:=ch.1 hx;have:=(ll a).le IsP.pos i
 simpa using this.2
theorem Sy {p:Int} [IsP p] {l:List Int} (hb:gw l) (hl:l.length=64) (h:xn p l=true):∃a:Fp p,a.len≤64∧l=pad (row a):=by
 have hc:Can p l:=fun x hx=>⟨(hb x hx).1,by
  unfold xn at h;rw [g9] at h
  simpa using h x hx⟩
 refine ⟨fe p l,du (Pol.len_le (a6t l)) (by omega),?_⟩
 rw [←re hc]
 symm
 apply Jh hl;intro i hi;rw [re hc,ft,jy,O0 (hc.le IsP.pos i)]
inductive Arg1 (p:Int) (l:List Int):Prop
 | bad (h:k8 p [l]=1) (h2:isP p=true→xn p l=false)
 | good (ip:IsP p) (a:Fp p) (hl:a.len≤64) (e:l=pad (row a))
theorem aka (p:Int) {l:List Int} (hb:gw l) (hl:l.length=64):Arg1 p l:=by
 by_cases h1:isP p=true
 ·by_cases h2:xn p l=true
  ·have ip:=a6e h1
   obtain ⟨a,g1,g2⟩:=Sy hb hl h2;exact .good ip a g1 g2
  ·refine .bad (by simp [k8,h2]) fun _=>by simpa using h2
 ·exact .bad (by simp [k8,h1]) fun h=>absurd h h1
theorem yz {p:Int} [IsP p] (ls:List (Fp p)):k8 p (ls.map fun a=>pad (row a))=0:=by
 unfold k8;rw [if_pos];refine ⟨a3w,?_⟩;rw [List.all_map,g9];intro a _;exact a3z
theorem M4 {p:Int} [IsP p] (a:Fp p):k8 p [pad (row a)]=0:=yz [a]
theorem rl {p:Int} [IsP p] (x:Zp p):rep x=1↔x=1:=⟨fun h=>Be (by rw [h,pt]),fun h=>by rw [h,pt]⟩
theorem uy {p:Int} [IsP p] (a:Fp p):Monic a↔a.ld=1:=⟨fun h=>h.1,fun h=>⟨h,fun h0=>by
 rw [h0] at h;have:(0:Fp p).ld=0:=rfl;rw [this] at h;exact Fd.one_ne h.symm⟩⟩
theorem a2h {p:Int} {l:List Int} {f:Fp p} (h:∀i,cf l i=rep (f.c i)):rp l l.length=f.len:=by
 have e:=congrArg List.length (Ar h);rw [bi] at e;unfold trim at e;rw [bv] at e;have:=Hy l l.length;omega
theorem a55 {O:ap} {l:List Int} (hl:l.length=64):∀n:Nat,n≤64 →
 dn O 0 (.loop Z3i_L0) ⟨[(1,.ptr 0 []),(3,(.d (.int .i64 ((n:Int)-1))))],[.box false (D.arr 64 .leaf (af .u8 l))]⟩ =
  some (.exit 0,⟨[(1,.ptr 0 []),(3,(.d (.int .i64 ((rp l n:Int)-1)))),(11,(.d (.bool false)))],[.box false (D.arr 64 .leaf (af .u8 l))]⟩)
 | 0,_=>cm (by simp -implicitDefEqProofs [Z3i_L0,aw,rp])
 | n+1,hn=>by
  have hlt:n<l.length:=by omega
  have hn64:n<64:=by omega
  have hx:l[n]=cf l n:=(gu hlt).symm;have t0:(((n+1:Nat):Int)-1)=(n:Int):=by omega
  rw [t0];have w1:IntKind.i64.wrap ((n:Int)-1)=(n:Int)-1:=w64 (by omega)
  by_cases h0:cf l n=0
  ·have e:rp l (n+1)=rp l n:=by simp [rp,h0]
   rw [e];refine cg ?_ (a55 hl n (by omega))
   simp -implicitDefEqProofs [Z3i_L0,aw,hlt,hn64,hx,h0,w1]
  ·have e:rp l (n+1)=n+1:=by simp [rp,h0]
   rw [e,t0];refine cm ?_;simp -implicitDefEqProofs [Z3i_L0,aw,hlt,hn64,hx,h0]
def Tu (O:ap):Prop:=∀l:List Int,l.length=64→ask O F3i [(D.arr 64 .leaf (af .u8 l))]=some (D.int .i64 ((rp l 64:Int)-1))
theorem abk (hT:T F3i=some Z3i):Tu (den T A):=by
 intro l hl;have e:=a55 (O:=den T A) hl 64 (bh _);have e0:((64:Nat):Int)-1=63:=rfl;rw [e0] at e;refine c9 hT rfl ?_;simp -implicitDefEqProofs [Z3i,Z3i_B,e]
def iu (O:ap):Prop:=∀(p:Int) [IsP p] (a:Fp p),a.len≤64→ask O F3i [(D.arr 64 .leaf (af .u8 (pad (row a))))]=some (D.int .i64 ((a.len:Int)-1))
theorem abo {O:ap} (h:Tu O):iu O:=fun p i a hl=>by
 have e:=a2h (f:=a) (l:=pad (row a)) fun i=>by rw [Am (by rw [bi]; exact hl),ft]
 rw [c8] at e;rw [h _ (c8 _),e]
def Xk (O:ap):Prop:=∀n a b:Int,ask O F3p [(D.int .i64 n),(D.int .i64 a),(D.int .i64 b)]=some (D.bool (decide (a≤n∧n≤b)))
theorem ag6 (hT:T F3p=some Z3p):Xk (den T A):=by
 intro n a b;refine c9 hT rfl ?_
 by_cases h:a≤n <;> simp -implicitDefEqProofs [Z3p,Z3p_B,h]
def B8 (O:ap):Prop:=∀p:Int,ask O F41 [(D.int .i64 p)]=some (D.bool (isP p))
theorem a1u (hT:T F41=some Z41):B8 (den T A):=by
 intro p;refine c9 hT rfl ?_
 by_cases h2:p=2
 ·simp -implicitDefEqProofs [Z41,Z41_B,h2,isP]
 ·by_cases h3:p=3
  ·simp -implicitDefEqProofs [Z41,Z41_B,h3,isP]
  ·by_cases h5:p=5
   ·simp -implicitDefEqProofs [Z41,Z41_B,h5,isP]
   ·simp -implicitDefEqProofs [Z41,Z41_B,h2,h3,h5,isP]
theorem a9f {O:ap} {p:Int} {l:List Int} (hb:gw l) (hl:l.length=64):∀(m i:Nat),i+m=64 →
 dn O 0 (.loop Z3s_L0) ⟨[(0,(.d (.int .i64 p))),(3,.ptr 0 []),(5,(.d (.int .i64 i)))],[.box false (D.arr 64 .leaf (af .u8 l))]⟩ =
  if (l.drop i).all (fun x=>decide (x<p)) then some (.exit 0,⟨[(0,(.d (.int .i64 p))),(3,.ptr 0 []),(5,(.d (.int .i64 64))),(7,(.d (.bool false)))],[.box false (D.arr 64 .leaf (af .u8 l))]⟩) else some (.ret,⟨[(4,(.d (.bool false)))],[.hole]⟩)
 | 0,i,hi=>by
  obtain rfl:i=64:=by omega
  rw [show l.drop 64=[] from cz (by omega)]
  exact cm (by simp -implicitDefEqProofs [Z3s_L0,aw])
 | m+1,i,hi=>by
  have hlt:i<l.length:=by omega
  have hi64:i<64:=by omega
  have hi64':(i:Int)<64:=by omega
  have hx:l[i]=cf l i:=(gu hlt).symm;have hb':=hb _ (ci hlt);rw [hx] at hb';have w1:IntKind.i64.wrap (cf l i)=cf l i:=w64 (by omega)
  have w4:IntKind.i64.wrap ((i:Int)+1)=((i+1:Nat):Int):=(w64 (x:=(i:Int)+1) (by omega)).trans (by omega)
  rw [bx hlt,List.all_cons,hx]
  by_cases h0:cf l i<p
  ·rw [decide_eq_true h0,Bool.true_and]
   refine cg ?_ (a9f hb hl m (i+1) (by omega))
   have h1:¬ p≤cf l i:=by omega
   simp -implicitDefEqProofs [Z3s_L0,aw,hlt,hi64,hi64',hx,h1,w1,w4]
  ·rw [decide_eq_false h0,Bool.false_and]
   have h1:p≤cf l i:=by omega
   refine lq ?_;simp -implicitDefEqProofs [Z3s_L0,aw,hlt,hi64,hi64',hx,h1,w1]
def Yb (O:ap):Prop:=∀(p:Int) (l:List Int),gw l→l.length=64→ask O F3s [(D.int .i64 p),(D.arr 64 .leaf (af .u8 l))]=some (D.bool (xn p l&&isP p))
theorem afx (hT:T F3s=some Z3s) (hp:B8 (den T A)):Yb (den T A):=by
 intro p l hb hl;have e:=a9f (O:=den T A) (p:=p) hb hl 64 0 (by omega)
 have e0:((0:Nat):Int)=0:=rfl;rw [e0,ef,show (l.all fun x=>decide (x<p))=xn p l from rfl] at e
 have e1:=hp p;refine c9 hT rfl ?_
 by_cases h:xn p l=true
 ·rw [if_pos h] at e
  simp -implicitDefEqProofs [Z3s,Z3s_B,e,e1,h]
 ·rw [if_neg h] at e
  simp -implicitDefEqProofs [Z3s,Z3s_B,e,h]
theorem Xo {O:ap} (hi:Yb O) {p:Int} (hp:isP p=true) {ls:List (List Int)} (h:Tg ls) (hl:ls.length<2000000):∀(m i:Nat),i+m=ls.length →
 dn O 0 (.loop Z3h_L0) ⟨[(0,(.d (.int .i64 p))),(1,.d (.sl (.arr 64 .leaf) (ls.map p7))),(5,(.d (.int .i64 i)))],[]⟩ =
  if (ls.drop i).all (xn p) then some (.exit 0,⟨[(0,(.d (.int .i64 p))),(1,.d (.sl (.arr 64 .leaf) (ls.map p7))),(5,(.d (.int .i64 ls.length))),(12,(.d (.bool false)))],[]⟩) else some (.ret,⟨[(4,(.d (.int .i64 1)))],[]⟩)
 | 0,i,hi'=>by
  obtain rfl:i=ls.length:=by omega
  rw [o8];exact cm (by simp -implicitDefEqProofs [Z3h_L0,aw])
 | m+1,i,hi'=>by
  have hlt:i<ls.length:=by omega
  have h1:=h _ (ci hlt);have e1:=hi p ls[i] h1.2 h1.1;rw [hp,Bool.and_true] at e1;have w4:IntKind.i64.wrap ((i:Int)+1)=((i+1:Nat):Int):=(w64 (x:=(i:Int)+1) (by omega)).trans (by omega)
  rw [bx hlt,List.all_cons]
  by_cases h0:xn p ls[i]=true
  ·rw [h0,Bool.true_and]
   rw [h0] at e1;refine cg ?_ (Xo hi hp h hl m (i+1) (by omega))
   simp -implicitDefEqProofs [Z3h_L0,aw,hlt,e1,w4]
  ·rw [Bool.not_eq_true] at h0
   rw [h0,Bool.false_and];rw [h0] at e1;refine lq ?_;simp -implicitDefEqProofs [Z3h_L0,aw,hlt,e1]
def Ia (O:ap):Prop:=∀(p:Int) (ls:List (List Int)),Tg ls→ls.length<2000000→ask O F3h [(D.int .i64 p),.sl (.arr 64 .leaf) (ls.map p7)]=some (D.int .i64 (k8 p ls))
theorem a84 (hT:T F3h=some Z3h) (hp:B8 (den T A)) (hi:Yb (den T A)):Ia (den T A):=by
 intro p ls h hl;have e1:=hp p;unfold k8;refine c9 hT rfl ?_
 by_cases h1:isP p=true
 ·have e:=Xo hi h1 h hl ls.length 0 (cd _)
  have e0:((0:Nat):Int)=0:=rfl;rw [e0,ef] at e
  by_cases h2:ls.all (xn p)=true
  ·rw [if_pos h2] at e
   rw [if_pos ⟨h1,h2⟩];simp -implicitDefEqProofs [Z3h,Z3h_B,aw,e1,e,h1]
  ·rw [if_neg h2] at e
   rw [if_neg (fun h=>h2 h.2)]
   simp -implicitDefEqProofs [Z3h,Z3h_B,aw,e1,e,h1]
 ·rw [if_neg (fun h=>h1 h.1)]
  simp -implicitDefEqProofs [Z3h,Z3h_B,aw,e1,h1]
open Classical in
def E7 (O:ap):Prop:=∀(p:Int) [IsP p] (a:Fp p),a.len≤64→ask O F3u [(D.arr 64 .leaf (af .u8 (pad (row a))))]=some (D.bool (decide (Monic a)))
open Classical in
theorem a31 (hT:T F3u=some Z3u) (hd:iu (den T A)):E7 (den T A):=by
 intro p i a hl;have e1:=hd p a hl;refine c9 hT rfl ?_
 by_cases h0:a=0
 ·subst h0
  have hm:¬ Monic (0:Fp p):=fun h=>h.2 rfl
  rw [decide_eq_false hm];rw [Pol.len_zero] at e1;simp -implicitDefEqProofs [Z3u,Z3u_B,e1]
 ·have hp:=Pol.len_pos h0
  have hd2:((a.len:Int)-1)=((a.len-1:Nat):Int):=by omega
  rw [hd2] at e1;have hx:(pad (row a))[a.len-1]? = some (rep a.ld):=by rw [ml _ _ (by omega),ft]; rfl
  have h64:a.len-1<64:=by omega
  have e2:decide (rep a.ld=1)=decide (Monic a):=decide_eq_decide.2 (by rw [rl,uy])
  rw [←e2];generalize a.len-1=n at *;generalize pad (row a)=L at *;simp -implicitDefEqProofs [Z3u,Z3u_B,e1,hx,h64]
end Pe
