/-
  A part of the proof: an evaluator for a small form of the code, its soundness, and contracts of functions over it.
-/
import Derived.Test.YtjanjcnncilddaaGreatW1

namespace Pe
open Go
variable {P:Program}
def OpWp (P:Program) (o:Oper) (a:Act) (C:Cx) (φ:Loc) (h:Heap) (v:V) (h':Heap) (K:Nat→Prop):Prop:=
 ∀(next:Act→World→Prop) (Q:Exit→Act→World→Prop),(∀C' φ' u,Step C C' φ φ' h h'→(o.dst=none∨RX C' φ' h' v u)→Keeps C C' φ φ' h h' K→next (a.put o.dst u) C'.w)→o.wp P a C.w next Q
theorem OpGood.wp {o:Oper} {a:Act} {C:Cx} {φ:Loc} {h:Heap} {v:V} {h':Heap} {K:Nat→Prop} (g:OpGood P o a C φ h v h' K):OpWp P o a C φ h v h' K:=by
 obtain ⟨C',φ',u,n,hrun,hn,st,hx,hk⟩:=g
 intro next Q hnext
 unfold Oper.wp
 rw [hrun]
 rcases hn with rfl | ⟨rfl,hd⟩
 ·exact hnext C' φ' u st (.inr hx) hk
 ·exact hnext C' φ' undef st (.inl hd) hk
theorem OpWp.mono {o:Oper} {a:Act} {C:Cx} {φ:Loc} {h:Heap} {v:V} {h':Heap} {K K':Nat→Prop} (g:OpWp P o a C φ h v h' K) (hk:∀i,K i→K' i):OpWp P o a C φ h v h' K':=
 fun next Q hn=>g next Q fun C' φ' u st hx k=>hn C' φ' u st hx (k.mono hk)
def isNilSlice:Operand→Bool
 | .const (.slice none 0 0)=>true
 | _=>false
def opOk (P:Program) (num:Nat→Nat) (p:Op) (o:Oper):Bool:=
 match p,o.op with
 | .mv x,.move y=>argOk num x y
 | .mv x,.assign y=>argOk num x y
 | .chk x,.nilCheck y=>argOk num x y
 | .pick c x y,.pick c' x' y'=>argOk num c c'&&argOk num x x'&&argOk num y y'
 | .nilOwn _ _,.move y=>isNilSlice y
 | .nilOwn _ _,.assign y=>isNilSlice y
 | .box _ _ x,.box _ y=>argOk num x y
 | .box _ _ (.c z),.alloc t=>zeroOk P t z
 | .build _ z ps,.build t qs=>partsOk num ps qs.toList&&zeroOk P t z&&(match z,P.underlying t with
  | .arr n sh _,some (.array n' e)=>n == n'&&tyOk P e sh
  | .st ss _,some (.struct fs)=>fieldsOk P 0 fs.toList ss
  | _,_=>false)
 | .buildSl _ _ sh z n ps,.buildSlice t n' qs=>n == n'&&partsOk num ps qs.toList&&(match P.underlying t with
  | some (.slice e)=>tyOk P e sh&&zeroOk P e z&&Sh.beq z.sh sh&&decide (0<sh.size)&&decide (n*sh.size≤16777216)
  | _=>false)
 | .mkSl _ sh z bytes x y,.makeSlice t x' y'=>argOk num x x'&&argOk num y y'&&(match P.underlying t with
  | some (.slice e)=>tyOk P e sh&&zeroOk P e z&&Sh.beq z.sh sh&&decide (0<sh.size)&&decide (0<bytes)&&(match P.info? e with | some inf=>inf.bytes == bytes | none=>false)
  | _=>false)
 | .load sh x,.load t y=>argOk num x y&&tyOk P t sh
 | .store _ sh x y,.store t x' y'=>argOk num x x'&&argOk num y y'&&tyOk P t sh&&decide (0<sh.size)&&o.dst.isNone
 | .bin op x y,.binOp op' _ x' y' _=>decide (op=op')&&argOk num x x'&&argOk num y y'
 | .eqv neg q x y,.binOp op t x' y' _=>decide (op=if neg then .neq else .eql)&&argOk num x x'&&argOk num y y'&&eqOk P t q&&(match q with | .str=>false | _=>true)&&decide (q.depth≤10000) && !P.eqGuardType P.depth t
 | .un op x,.unOp op' _ x'=>decide (op=op')&&argOk num x x'
 | .conv k x,.convert src dst x'=>argOk num x x'&&(P.underlying src).isSome&&(match P.underlying dst with | some (.int k')=>decide (k'=k) | _=>false)
 | .cut none sh x lo hi mx,.slice t x' lo' hi' mx'=>argOk num x x'&&optOk num lo lo'&&optOk num hi hi'&&optOk num mx mx'&&(!mx.isSome||hi.isSome)&&decide (0<sh.size)&&(match P.underlying t with
  | some (.slice e)=>tyOk P e sh
  | _=>false)
 | .cut (some n) sh x lo hi mx,.slice t x' lo' hi' mx'=>argOk num x x'&&optOk num lo lo'&&optOk num hi hi'&&optOk num mx mx'&&(!mx.isSome||hi.isSome)&&decide (0<sh.size)&&(match P.underlying t with
  | some (.array n' e)=>n' == n&&tyOk P e sh
  | _=>false)
 | .fldA ss x j,.fieldAddr t x' j'=>argOk num x x'&&j == j'&&(match ss[j]? with | some s=>decide (0<s.size) | none=>false)&&(match P.underlying t with
  | some (.struct fs)=>fieldsOk P 0 fs.toList ss
  | _=>false)
 | .fld ss x j,.field t x' j'=>argOk num x x'&&j == j'&&(match P.underlying t with
  | some (.struct fs)=>fieldsOk P 0 fs.toList ss
  | _=>false)
 | .idxA none sh x j,.indexAddr t x' j'=>argOk num x x'&&argOk num j j'&&(match P.underlying t with
  | some (.slice e)=>tyOk P e sh
  | _=>false)
 | .idxA (some n) sh x j,.indexAddr t x' j'=>argOk num x x'&&argOk num j j'&&(match P.underlying t with
  | some (.array n' e)=>n' == n&&tyOk P e sh
  | _=>false)
 | .idx none _ x j,.index t x' j'=>argOk num x x'&&argOk num j j'&&(match P.underlying t with
  | some .string=>true
  | _=>false)
 | .idx (some n) sh x j,.index t x' j'=>argOk num x x'&&argOk num j j'&&(match P.underlying t with
  | some (.array n' e)=>n' == n&&tyOk P e sh
  | _=>false)
 | .ext x j,.extract x' j'=>argOk num x x'&&j == j'
 | .mkFn f xs ys,.makeFunc (.func g) xs' ys'=>g == num f&&argsOk num xs xs'.toList&&argsOk num ys ys'.toList
 | .len str x,.call ⟨.builtin .len,⟨[x']⟩,⟨[t]⟩⟩=>argOk num x x'&&(match P.underlying t,str with
  | some (.slice _),false=>true
  | some .string,true=>true
  | _,_=>false)
 | .maxI x y,.call ⟨.builtin .max,⟨[x',y']⟩,_⟩=>argOk num x x'&&argOk num y y'
 | .minI x y,.call ⟨.builtin .min,⟨[x',y']⟩,_⟩=>argOk num x x'&&argOk num y y'
 | .append sh _ bytes x y,.call ⟨.builtin .append,⟨[x',y']⟩,⟨[t,tx]⟩⟩=>argOk num x x'&&argOk num y y'&&decide (0<sh.size)&&decide (0<bytes) &&
  (match P.underlying tx with | some (.slice _)=>true | _=>false)&&(match P.underlying t with
  | some (.slice e)=>(match P.info? e with
   | some inf=>inf.size == sh.size&&inf.bytes == bytes&&(match inf.zero with | some z=>z.cells.size == sh.size | none=>false)
   | none=>false)
  | _=>false)
 | .call _ news f xs,.call ⟨.value f',xs',_⟩=>argOk num f f'&&argsOk num xs xs'.toList&&decide news.Nodup
 | .nilq neg x,.binOp op t x' y' _=>decide (op=if neg then .neq else .eql)&&argOk num x x'&&isNilSlice y'&&(match P.underlying t with | some (.slice _)=>true | _=>false)
 | .fail,_=>true
 | _,_=>false
theorem toD1_some {h:Heap} {v:V} {d:D} (e:toD1 h v=some d):toD h v=some d∧d.isTup=false:=by
 unfold toD1 at e
 obtain ⟨x,hx,e⟩:=Option.bind_eq_some_iff.1 e
 split at e
 ·cases e
 ·rename_i hn
  obtain rfl:=Option.some.inj e
  exact ⟨hx,by simpa using hn⟩
theorem RXs_append {C:Cx} {φ:Loc} {h:Heap}:∀{vs ws:List V} {us zs:List Value},RXs C φ h vs us→RXs C φ h ws zs→RXs C φ h (vs++ws) (us++zs)
 | [],ws,us,zs,g,g'=>by simp only [RXs] at g; subst g; simpa using g'
 | v::vs,ws,us,zs,g,g'=>by
  simp only [RXs] at g
  obtain ⟨u,r,rfl,h1,h2⟩:=g
  simp only [List.cons_append,RXs]
  exact ⟨u,_,rfl,h1,RXs_append h2 g'⟩
section
variable {C:Cx} {φ:Loc} {s:St} {a:Act} {o:Oper} {K:Nat→Prop}
theorem good_chk (hs:SR C φ s a.tmps) {x:Arg} {y:Operand} (ho:o.op=.nilCheck y) (hok:argOk C.num x y=true) {v:V} (hv:s.e.arg x=some v) (hp:(∃d,v=.d (.ip d))∨∃i p,v=.ptr i p):OpGood P o a C φ s.h v s.h K:=by
 have h1:=arg_sound hs hok hv
 refine good_same hs (u:=a.eval y) ?_ h1
 rcases hp with ⟨d,rfl⟩ | ⟨i,p,rfl⟩
 ·obtain ⟨b,off,us,e,_⟩:=RX_ip h1
  simp [execOp,ho,e]
 ·simp only [RX] at h1
  obtain ⟨B,b,off,q,_,_,_,e⟩:=h1
  simp [execOp,ho,e]
theorem wp_call {f:Nat} {us:List Value} (hexec:(execOp a.eval o).run P C.w=(callFunc (C.num f) us.toArray).run P C.w) {v:V} {h':Heap} (he:Ends P (C.num f) us C φ s.h h' v):OpWp P o a C φ s.h v h' K:=by
 intro next Q hnext
 obtain ⟨⟨fn,hf,hnm,hb⟩,hcall⟩:=he
 unfold Oper.wp
 have:(callFunc (C.num f) us.toArray).run P C.w=.ok (.enter (C.num f) us.toArray) C.w:=by
  have hb':fn.body.isNone=false:=by cases hq:fn.body <;> simp_all
  simp [callFunc,hf,hnm]
  intro e; rw [e] at hb; simp at hb
 rw [hexec,this,Oper.upon_enter]
 refine Calls.mono hcall ?_
 rintro e w' ⟨u,C',φ',rfl,rfl,st,k,hx⟩
 exact hnext C' φ' u st (.inr hx) (k.mono (by simp))
theorem good_call {O:Oracle} (hO:CallOk P C.num O) (hs:SR C φ s a.tmps) {np:Nat} {m:Mode} {news:List Nat} {f:Arg} {xs:List Arg} {f':Operand} {xs':Array Operand} {ts:Array TypeId} (ho:o.op=.call ⟨.value f',xs',ts⟩) (hf:argOk C.num f f'=true) (hx:argsOk C.num xs xs'.toList=true)
 (hnews:news.Nodup) {v:V} {h':Heap} (he:evalOp O np s.e s.h (.call m news f xs)=some (v,h')):OpWp P o a C φ s.h v h' K:=by
 simp only [evalOp] at he
 obtain ⟨fv,hfv,he⟩:=Option.bind_eq_some_iff.1 he
 obtain ⟨⟨g,first,caps⟩,hg,he⟩:=Option.bind_eq_some_iff.1 he
 obtain ⟨vs,hvs,he⟩:=Option.bind_eq_some_iff.1 he
 simp only at he
 have hargs:=args_sound hs hx hvs
 have hfun:=arg_sound hs hf hfv
 have key:∃fs cs:Array Value,a.eval f'=.func (.func (C.num g)) fs cs∧RXs C φ s.h first fs.toList∧RXs C φ s.h caps cs.toList:=by
  unfold callee at hg
  split at hg
  ·rename_i g0 a0 c0
   simp only [Option.some.injEq,Prod.mk.injEq] at hg
   obtain ⟨rfl,rfl,rfl⟩:=hg
   simp only [RX,RV,RD] at hfun
   obtain ⟨h0,us,ws,e,h1,h2⟩:=hfun
   refine ⟨us,ws,?_,RXs_of_RVs h1,RXs_of_RVs h2⟩
   cases hq:a.eval f' <;> simp_all [Value.cells,isAgg,D.isAgg]
  ·rename_i g0 a0 c0
   simp only [Option.some.injEq,Prod.mk.injEq] at hg
   obtain ⟨rfl,rfl,rfl⟩:=hg
   simp only [RX] at hfun
   exact hfun
  ·cases hg
 obtain ⟨fs,cs,e,h1,h2⟩:=key
 have hall:=RXs_append (RXs_append h1 hargs) h2
 have hexec:(execOp a.eval o).run P C.w=(callFunc (C.num g) (fs.toList++xs'.toList.map a.eval++cs.toList).toArray).run P C.w:=by
  have earr:(fs.toList++xs'.toList.map a.eval++cs.toList).toArray=fs++xs'.map a.eval++cs:=by
   apply Array.ext'; simp
  rw [earr]
  simp [execOp,ho,resolve,e,Deferred.ofValue,invoke]
 refine wp_call hexec ?_
 cases m with
 | heap=>
  simp only at he
  exact callHeap_sound hO hs.hr hs.bd hnews hall he
 | flat | data | plain=>
  simp only at he
  exact callPure_sound hO hs.hr hs.bd hall he
theorem op_sound {O:Oracle} (hO:CallOk P C.num O) (hs:SR C φ s a.tmps) {np:Nat} {p:Op} (hok:opOk P C.num p o=true) {v:V} {h':Heap} (he:evalOp O np s.e s.h p=some (v,h')) :
 OpWp P o a C φ s.h v h' (fun i=>p.kill s.e v=some i):=by
 unfold opOk at hok
 split at hok
 case h_1 x y ho=>
  simp only [evalOp] at he
  obtain ⟨u,hu,e⟩:=Option.map_eq_some_iff.1 he
  simp only [Prod.mk.injEq] at e
  obtain ⟨rfl,rfl⟩:=e
  exact (good_mv hs (.inl ho) hok hu).wp
 case h_2 x y ho=>
  simp only [evalOp] at he
  obtain ⟨u,hu,e⟩:=Option.map_eq_some_iff.1 he
  simp only [Prod.mk.injEq] at e
  obtain ⟨rfl,rfl⟩:=e
  exact (good_mv hs (.inr ho) hok hu).wp
 case h_3 x y ho=>
  simp only [evalOp] at he
  split at he <;> simp only [Option.some.injEq,Prod.mk.injEq,reduceCtorEq] at he <;> obtain ⟨rfl,rfl⟩:=he
  ·rename_i d hx
   exact (good_chk hs ho hok hx (.inl ⟨d,rfl⟩)).wp
  ·rename_i i p hx
   exact (good_chk hs ho hok hx (.inr ⟨i,p,rfl⟩)).wp
 case h_4 c x y c' x' y' ho=>
  simp only [Bool.and_eq_true] at hok
  simp only [evalOp] at he
  split at he
  ·rename_i t ht
   obtain ⟨u,hu,e⟩:=Option.map_eq_some_iff.1 he
   simp only [Prod.mk.injEq] at e
   obtain ⟨rfl,rfl⟩:=e
   exact (good_pick hs ho hok.1.1 hok.1.2 hok.2 ht hu).wp
  ·cases he
 case h_5 i sh y ho=>
  simp only [evalOp] at he
  obtain ⟨h1,hp,e⟩:=Option.map_eq_some_iff.1 he
  simp only [Prod.mk.injEq] at e
  obtain ⟨rfl,rfl⟩:=e
  obtain ⟨hi,rfl⟩:=putBlk_some hp
  refine (good_nilOwn hs (.inl ho) ?_ hi).wp
  unfold isNilSlice at hok
  split at hok
  ·rfl
  ·cases hok
 case h_6 i sh y ho=>
  simp only [evalOp] at he
  obtain ⟨h1,hp,e⟩:=Option.map_eq_some_iff.1 he
  simp only [Prod.mk.injEq] at e
  obtain ⟨rfl,rfl⟩:=e
  obtain ⟨hi,rfl⟩:=putBlk_some hp
  refine (good_nilOwn hs (.inr ho) ?_ hi).wp
  unfold isNilSlice at hok
  split at hok
  ·rfl
  ·cases hok
 case h_7 fz i x t y ho=>
  simp only [evalOp] at he
  obtain ⟨u,hu,he⟩:=Option.bind_eq_some_iff.1 he
  obtain ⟨d,hd,he⟩:=Option.bind_eq_some_iff.1 he
  obtain ⟨h1,hf,he⟩:=Option.bind_eq_some_iff.1 he
  obtain ⟨h2,hp,e⟩:=Option.map_eq_some_iff.1 he
  simp only [Prod.mk.injEq] at e
  obtain ⟨rfl,rfl⟩:=e
  obtain ⟨hi,rfl⟩:=putBlk_some hp
  obtain ⟨hd,hnt⟩:=toD1_some hd
  exact (good_box hs ho hok hu hd hnt hf hi).wp
 case h_8 fz i z t ho=>
  simp only [evalOp,Env.arg,Option.bind_some] at he
  obtain ⟨d,hd,he⟩:=Option.bind_eq_some_iff.1 he
  obtain ⟨h1,hf,he⟩:=Option.bind_eq_some_iff.1 he
  obtain ⟨h2,hp,e⟩:=Option.map_eq_some_iff.1 he
  simp only [Prod.mk.injEq] at e
  obtain ⟨rfl,rfl⟩:=e
  obtain ⟨hi,rfl⟩:=putBlk_some hp
  obtain ⟨hd,hnt⟩:=toD1_some hd
  simp only [toD,Option.some.injEq] at hd
  subst hd
  exact (good_alloc hs ho hok hf hi).wp
 case h_9 fz z ps t qs ho=>
  simp only [Bool.and_eq_true] at hok
  simp only [evalOp] at he
  obtain ⟨xs,hx,he⟩:=Option.bind_eq_some_iff.1 he
  obtain ⟨h1,hf,he⟩:=Option.bind_eq_some_iff.1 he
  obtain ⟨⟨hp,hz⟩,hk⟩:=hok
  split at he
  ·rename_i n sh cs
   obtain ⟨cs',hfill,e⟩:=Option.map_eq_some_iff.1 he
   simp only [Prod.mk.injEq] at e
   obtain ⟨rfl,rfl⟩:=e
   split at hk
   ·rename_i n0 sh0 cs0 n' e' hu hz'
    simp only [D.arr.injEq] at hu
    obtain ⟨rfl,rfl,rfl⟩:=hu
    simp only [Bool.and_eq_true,beq_iff_eq] at hk
    obtain ⟨rfl,hk⟩:=hk
    exact (good_build hs ho hp hz hx hf (.inl ⟨_,_,_,_,_,rfl,hfill,rfl,hz',hk⟩)).wp
   ·rename_i hu _; cases hu
   ·cases hk
  ·rename_i ss cs
   obtain ⟨cs',hfill,e⟩:=Option.map_eq_some_iff.1 he
   simp only [Prod.mk.injEq] at e
   obtain ⟨rfl,rfl⟩:=e
   split at hk
   ·rename_i hu _; cases hu
   ·rename_i ss0 cs0 fs hu hz'
    simp only [D.st.injEq] at hu
    obtain ⟨rfl,rfl⟩:=hu
    exact (good_build hs ho hp hz hx hf (.inr ⟨_,_,_,_,rfl,hfill,rfl,hz',hk⟩)).wp
   ·cases hk
  ·cases he
 case h_10 fz i sh z n ps t n' qs ho=>
  simp only [Bool.and_eq_true,beq_iff_eq] at hok
  obtain ⟨⟨rfl,hp⟩,hk⟩:=hok
  simp only [evalOp] at he
  obtain ⟨xs,hx,he⟩:=Option.bind_eq_some_iff.1 he
  obtain ⟨cs,hfill,he⟩:=Option.bind_eq_some_iff.1 he
  obtain ⟨h1,hf,he⟩:=Option.bind_eq_some_iff.1 he
  obtain ⟨h2,hpb,e⟩:=Option.map_eq_some_iff.1 he
  simp only [Prod.mk.injEq] at e
  obtain ⟨rfl,rfl⟩:=e
  obtain ⟨hi,rfl⟩:=putBlk_some hpb
  split at hk
  ·rename_i e ht
   simp only [Bool.and_eq_true,decide_eq_true_eq] at hk
   obtain ⟨⟨⟨⟨k1,k2⟩,k3⟩,k4⟩,k5⟩:=hk
   exact (good_buildSl hs ho ht k1 hp k2 (Sh.beq_eq _ _ k3) k4 k5 hx hf hfill hi).wp
  ·cases hk
 case h_11 i sh z bytes x y t x' y' ho=>
  simp only [Bool.and_eq_true] at hok
  obtain ⟨⟨hx,hy⟩,hk⟩:=hok
  simp only [evalOp] at he
  split at he
  ·rename_i n m hn hm
   split at he
   ·rename_i hc
    obtain ⟨h2,hpb,e⟩:=Option.map_eq_some_iff.1 he
    simp only [Prod.mk.injEq] at e
    obtain ⟨rfl,rfl⟩:=e
    obtain ⟨hi,rfl⟩:=putBlk_some hpb
    split at hk
    ·rename_i e ht
     simp only [Bool.and_eq_true,decide_eq_true_eq] at hk
     obtain ⟨⟨⟨⟨⟨k1,k2⟩,k3⟩,k4⟩,k5⟩,k6⟩:=hk
     split at k6
     ·rename_i inf hinf
      have hb:inf.bytes=bytes:=by simpa using k6
      have hm63:m≤9223372036854775807:=by
       have h1:m*1≤m*bytes:=Nat.mul_le_mul_left m k5
       have:=hc.2
       omega
      exact (good_mkSl hs ho ht k1 ⟨inf,hinf,hb⟩ hx hy k2 (Sh.beq_eq _ _ k3) k4 hn hm hc.1 hc.2 hm63 hi).wp
     ·cases k6
    ·cases hk
   ·cases he
  ·cases he
 case h_12 sh x t y ho=>
  simp only [Bool.and_eq_true] at hok
  simp only [evalOp] at he
  split at he
  ·rename_i d hd
   split at he
   ·rename_i hsh
    simp only [Option.some.injEq,Prod.mk.injEq] at he
    obtain ⟨rfl,rfl⟩:=he
    exact (good_load hs ho hok.1 hok.2 (.inl ⟨hd,Sh.beq_eq _ _ hsh⟩)).wp
   ·cases he
  ·rename_i i p hp
   obtain ⟨d,hd,he⟩:=Option.bind_eq_some_iff.1 he
   obtain ⟨B,hB,hg⟩:=Option.bind_eq_some_iff.1 hd
   split at he
   ·rename_i hsh
    simp only [Option.some.injEq,Prod.mk.injEq] at he
    obtain ⟨rfl,rfl⟩:=he
    exact (good_load hs ho hok.1 hok.2 (.inr ⟨i,p,B,hp,hB,hg,Sh.beq_eq _ _ hsh⟩)).wp
   ·cases he
  ·cases he
 case h_13 fz sh x y t x' y' ho=>
  simp only [Bool.and_eq_true,decide_eq_true_eq] at hok
  obtain ⟨⟨⟨⟨hx,hy⟩,ht⟩,hpos⟩,hdst⟩:=hok
  simp only [evalOp] at he
  obtain ⟨u,hu,he⟩:=Option.bind_eq_some_iff.1 he
  obtain ⟨d,hd,he⟩:=Option.bind_eq_some_iff.1 he
  obtain ⟨h1,hf,he⟩:=Option.bind_eq_some_iff.1 he
  obtain ⟨hd,hnt⟩:=toD1_some hd
  split at he
  ·rename_i i p hp
   split at he
   ·rename_i hsh
    obtain ⟨B,hB,he⟩:=Option.bind_eq_some_iff.1 he
    obtain ⟨B',hset,e⟩:=Option.map_eq_some_iff.1 he
    simp only [Prod.mk.injEq] at e
    obtain ⟨rfl,rfl⟩:=e
    exact (good_store hs ho (by simpa using hdst) hx hy ht hpos hu hd hnt (Sh.beq_eq _ _ hsh) hf hp hB hset).wp
   ·cases he
  ·cases he
 case h_14 op x y op' t x' y' yt ho=>
  simp only [Bool.and_eq_true,decide_eq_true_eq] at hok
  obtain ⟨⟨rfl,hx⟩,hy⟩:=hok
  simp only [evalOp] at he
  split at he
  ·rename_i d1 d2 hd1 hd2
   obtain ⟨r,hr,e⟩:=Option.map_eq_some_iff.1 he
   simp only [Prod.mk.injEq] at e
   obtain ⟨rfl,rfl⟩:=e
   have g1:=arg_sound hs hx hd1
   have g2:=arg_sound hs hy hd2
   unfold binD at hr
   split at hr
   ·exact (good_shift hs ho (RX_int g1) (RX_int g2) hr (.inl rfl)).wp
   ·exact (good_shift hs ho (RX_int g1) (RX_int g2) hr (.inr rfl)).wp
   ·rename_i n1 n2
    split at hr
    ·rename_i hk
     subst hk
     exact (good_binI hs ho (RX_int g1) (RX_int g2) hr ⟨n1,n2⟩).wp
    ·cases hr
   ·exact (good_binS hs ho (RX_str g1) (RX_str g2) hr).wp
   ·cases hr
  ·cases he
 case h_15 neg q x y op t x' y' yt ho=>
  simp only [Bool.and_eq_true,decide_eq_true_eq,Bool.not_eq_true'] at hok
  obtain ⟨⟨⟨⟨⟨⟨rfl,hx⟩,hy⟩,hq⟩,hns⟩,hd⟩,hg⟩:=hok
  simp only [evalOp] at he
  split at he
  ·rename_i d1 d2 hd1 hd2
   obtain ⟨r,hr,e⟩:=Option.map_eq_some_iff.1 he
   simp only [Prod.mk.injEq] at e
   obtain ⟨rfl,rfl⟩:=e
   exact (good_eqv hs ho hx hy hq (by rintro rfl; simp at hns) hd hg hd1 hd2 hr).wp
  ·cases he
 case h_16 op x op' t x' ho=>
  simp only [Bool.and_eq_true,decide_eq_true_eq] at hok
  obtain ⟨rfl,hx⟩:=hok
  simp only [evalOp] at he
  split at he
  ·rename_i d hd
   obtain ⟨r,hr,e⟩:=Option.map_eq_some_iff.1 he
   simp only [Prod.mk.injEq] at e
   obtain ⟨rfl,rfl⟩:=e
   exact (good_un hs ho hx hd hr).wp
  ·cases he
 case h_17 k x src dst x' ho=>
  simp only [Bool.and_eq_true] at hok
  obtain ⟨⟨hx,hsrc⟩,hk⟩:=hok
  simp only [evalOp] at he
  split at he
  ·rename_i q n hn
   simp only [Option.some.injEq,Prod.mk.injEq] at he
   obtain ⟨rfl,rfl⟩:=he
   split at hk
   ·rename_i k' hk'
    have:k'=k:=by simpa using hk
    subst this
    exact (good_conv hs ho hx hsrc hk' hn).wp
   ·cases hk
  ·cases he
 case h_18 sh x lo hi mx t x' lo' hi' mx' ho=>
  simp only [Bool.and_eq_true,decide_eq_true_eq] at hok
  obtain ⟨⟨⟨⟨⟨⟨hx,h1⟩,h2⟩,h3⟩,hmh⟩,hpos⟩,hk⟩:=hok
  have hmh':mx.isSome=true→hi.isSome=true:=by
   intro h; simpa [h] using hmh
  split at hk
  ·rename_i e ht
   simp only [evalOp] at he
   split at he
   ·rename_i sh' cs hcs
    obtain ⟨m,hm,he⟩:=Option.bind_eq_some_iff.1 he
    obtain ⟨b,hb,he⟩:=Option.bind_eq_some_iff.1 he
    obtain ⟨l,hl,he⟩:=Option.bind_eq_some_iff.1 he
    split at he
    ·rename_i hc
     simp only [Option.some.injEq,Prod.mk.injEq] at he
     obtain ⟨rfl,rfl⟩:=he
     obtain rfl:=Sh.beq_eq _ _ hc.1
     exact (good_cut hs ho hx h1 h2 h3 hmh' hk hpos hm hb hl hc.2.1 hc.2.2.1 hc.2.2.2 (.inl ⟨ht,.inl ⟨cs,hcs,rfl,rfl⟩⟩)).wp
    ·cases he
   ·rename_i i p off n cap hcs
    obtain ⟨⟨sh',cs⟩,hq,he⟩:=Option.bind_eq_some_iff.1 he
    obtain ⟨B,hB,hE⟩:=Option.bind_eq_some_iff.1 hq
    obtain ⟨m,hm,he⟩:=Option.bind_eq_some_iff.1 he
    obtain ⟨b,hb,he⟩:=Option.bind_eq_some_iff.1 he
    obtain ⟨l,hl,he⟩:=Option.bind_eq_some_iff.1 he
    split at he
    ·rename_i hc
     simp only [Option.some.injEq,Prod.mk.injEq] at he
     obtain ⟨rfl,rfl⟩:=he
     obtain rfl:=Sh.beq_eq _ _ hc.1
     exact (good_cut hs ho hx h1 h2 h3 hmh' hk hpos hm hb hl hc.2.1 hc.2.2.1 hc.2.2.2 (.inl ⟨ht,.inr ⟨i,p,off,cap,B,cs,hcs,hB,hE,by cases mx <;> rfl⟩⟩)).wp
    ·cases he
   ·cases he
  ·cases hk
 case h_19 n sh x lo hi mx t x' lo' hi' mx' ho=>
  simp only [Bool.and_eq_true,decide_eq_true_eq] at hok
  obtain ⟨⟨⟨⟨⟨⟨hx,h1⟩,h2⟩,h3⟩,hmh⟩,hpos⟩,hk⟩:=hok
  have hmh':mx.isSome=true→hi.isSome=true:=by
   intro h; simpa [h] using hmh
  split at hk
  ·rename_i n' e ht
   simp only [Bool.and_eq_true,beq_iff_eq] at hk
   obtain ⟨rfl,hk⟩:=hk
   simp only [evalOp] at he
   split at he
   ·rename_i i p hp
    obtain ⟨y,hy,he⟩:=Option.bind_eq_some_iff.1 he
    obtain ⟨B,hB,hE⟩:=Option.bind_eq_some_iff.1 hy
    split at he
    ·rename_i n2 sh' cs
     obtain ⟨m,hm,he⟩:=Option.bind_eq_some_iff.1 he
     obtain ⟨b,hb,he⟩:=Option.bind_eq_some_iff.1 he
     obtain ⟨l,hl,he⟩:=Option.bind_eq_some_iff.1 he
     split at he
     ·rename_i hc
      simp only [Option.some.injEq,Prod.mk.injEq] at he
      obtain ⟨rfl,rfl⟩:=he
      obtain ⟨rfl,hc1,hc2⟩:=hc
      obtain rfl:=Sh.beq_eq _ _ hc1
      exact (good_cut hs ho hx h1 h2 h3 hmh' hk hpos hm hb hl hc2.1 hc2.2.1 hc2.2.2 (.inr ⟨ht,.inl ⟨i,p,B,cs,hp,hB,hE,rfl⟩⟩)).wp
     ·cases he
    ·cases he
   ·rename_i n2 sh' cs hcs
    obtain ⟨m,hm,he⟩:=Option.bind_eq_some_iff.1 he
    obtain ⟨b,hb,he⟩:=Option.bind_eq_some_iff.1 he
    obtain ⟨l,hl,he⟩:=Option.bind_eq_some_iff.1 he
    split at he
    ·rename_i hc
     simp only [Option.some.injEq,Prod.mk.injEq] at he
     obtain ⟨rfl,rfl⟩:=he
     obtain ⟨rfl,hc1,hc2⟩:=hc
     obtain rfl:=Sh.beq_eq _ _ hc1
     exact (good_cut hs ho hx h1 h2 h3 hmh' hk hpos hm hb hl hc2.1 hc2.2.1 hc2.2.2 (.inr ⟨ht,.inr ⟨cs,hcs,rfl⟩⟩)).wp
    ·cases he
   ·cases he
  ·cases hk
 case h_20 ss x j t x' j' ho=>
  simp only [Bool.and_eq_true,beq_iff_eq] at hok
  obtain ⟨⟨⟨hx,rfl⟩,hj⟩,hk⟩:=hok
  have hj':∃sh,ss[j]? = some sh∧0<sh.size:=by
   split at hj
   ·rename_i sh hsh; exact ⟨sh,hsh,by simpa using hj⟩
   ·cases hj
  split at hk
  ·rename_i fs ht
   simp only [evalOp] at he
   split at he
   ·rename_i i p hp
    obtain ⟨y,hy,he⟩:=Option.bind_eq_some_iff.1 he
    obtain ⟨B,hB,hE⟩:=Option.bind_eq_some_iff.1 hy
    split at he
    ·rename_i hc
     simp only [Option.some.injEq,Prod.mk.injEq] at he
     obtain ⟨rfl,rfl⟩:=he
     exact (good_fldA hs ho hx ht hk hj' (.inl ⟨i,p,B,y,hp,hB,hE,Sh.beq_eq _ _ hc,rfl⟩)).wp
    ·cases he
   ·rename_i ts cs hcs
    split at he
    ·rename_i hc
     obtain ⟨c,hc1,e⟩:=Option.map_eq_some_iff.1 he
     simp only [Prod.mk.injEq] at e
     obtain ⟨rfl,rfl⟩:=e
     obtain rfl:=Sh.beqs_eq _ _ hc
     exact (good_fldA hs ho hx ht hk hj' (.inr ⟨cs,c,hcs,hc1,rfl⟩)).wp
    ·cases he
   ·cases he
  ·cases hk
 case h_21 ss x j t x' j' ho=>
  simp only [Bool.and_eq_true,beq_iff_eq] at hok
  obtain ⟨⟨hx,rfl⟩,hk⟩:=hok
  split at hk
  ·rename_i fs ht
   simp only [evalOp] at he
   split at he
   ·rename_i ts cs hcs
    split at he
    ·rename_i hc
     obtain ⟨c,hc1,e⟩:=Option.map_eq_some_iff.1 he
     simp only [Prod.mk.injEq] at e
     obtain ⟨rfl,rfl⟩:=e
     obtain rfl:=Sh.beqs_eq _ _ hc
     exact (good_fld hs ho hx ht hk hcs hc1).wp
    ·cases he
   ·cases he
  ·cases hk
 case h_22 sh x j t x' j' ho=>
  simp only [Bool.and_eq_true] at hok
  obtain ⟨⟨hx,hj⟩,hk⟩:=hok
  split at hk
  ·rename_i e ht
   simp only [evalOp] at he
   split at he
   ·rename_i i p off n cap k hp hkk
    obtain ⟨⟨sh',q⟩,hq,he⟩:=Option.bind_eq_some_iff.1 he
    obtain ⟨B,hB,hE⟩:=Option.bind_eq_some_iff.1 hq
    split at he
    ·rename_i hc
     simp only [Option.some.injEq,Prod.mk.injEq] at he
     obtain ⟨rfl,rfl⟩:=he
     obtain rfl:=Sh.beq_eq _ _ hc.1
     exact (good_idxA hs ho hx hj hk hkk (.inl ⟨ht,.inl ⟨i,p,off,n,cap,q,B,hp,hB,hE,hc.2,rfl⟩⟩)).wp
    ·cases he
   ·rename_i sh' cs k hcs hkk
    split at he
    ·rename_i hc
     obtain ⟨c,hc1,e⟩:=Option.map_eq_some_iff.1 he
     simp only [Prod.mk.injEq] at e
     obtain ⟨rfl,rfl⟩:=e
     obtain rfl:=Sh.beq_eq _ _ hc
     exact (good_idxA hs ho hx hj hk hkk (.inl ⟨ht,.inr ⟨cs,c,hcs,hc1,rfl⟩⟩)).wp
    ·cases he
   ·cases he
  ·cases hk
 case h_23 n sh x j t x' j' ho=>
  simp only [Bool.and_eq_true] at hok
  obtain ⟨⟨hx,hj⟩,hk⟩:=hok
  split at hk
  ·rename_i n' e ht
   simp only [Bool.and_eq_true,beq_iff_eq] at hk
   obtain ⟨rfl,hk⟩:=hk
   simp only [evalOp] at he
   split at he
   ·rename_i i p k hp hkk
    obtain ⟨y,hy,he⟩:=Option.bind_eq_some_iff.1 he
    obtain ⟨B,hB,hE⟩:=Option.bind_eq_some_iff.1 hy
    split at he
    ·rename_i n2 sh' cs
     split at he
     ·rename_i hc
      simp only [Option.some.injEq,Prod.mk.injEq] at he
      obtain ⟨rfl,rfl⟩:=he
      obtain ⟨rfl,hc1,hc2⟩:=hc
      obtain rfl:=Sh.beq_eq _ _ hc1
      exact (good_idxA hs ho hx hj hk hkk (.inr ⟨_,ht,.inl ⟨i,p,B,cs,hp,hB,hE,hc2,rfl⟩⟩)).wp
     ·cases he
    ·cases he
   ·rename_i n2 sh' cs k hcs hkk
    split at he
    ·rename_i hc
     obtain ⟨c,hc1,e⟩:=Option.map_eq_some_iff.1 he
     simp only [Prod.mk.injEq] at e
     obtain ⟨rfl,rfl⟩:=e
     obtain ⟨rfl,hc2⟩:=hc
     obtain rfl:=Sh.beq_eq _ _ hc2
     exact (good_idxA hs ho hx hj hk hkk (.inr ⟨_,ht,.inr ⟨cs,c,hcs,hc1,rfl⟩⟩)).wp
    ·cases he
   ·cases he
  ·cases hk
 case h_24 sh x j t x' j' ho=>
  simp only [Bool.and_eq_true] at hok
  obtain ⟨⟨hx,hj⟩,hk⟩:=hok
  split at hk
  ·rename_i ht
   simp only [evalOp] at he
   split at he
   ·rename_i b k hb hkk
    obtain ⟨c,hc1,e⟩:=Option.map_eq_some_iff.1 he
    simp only [Prod.mk.injEq] at e
    obtain ⟨rfl,rfl⟩:=e
    exact (good_idxS hs ho hx hj ht hb hkk hc1).wp
   ·cases he
  ·cases hk
 case h_25 n sh x j t x' j' ho=>
  simp only [Bool.and_eq_true] at hok
  obtain ⟨⟨hx,hj⟩,hk⟩:=hok
  split at hk
  ·rename_i n' e ht
   simp only [Bool.and_eq_true,beq_iff_eq] at hk
   obtain ⟨rfl,hk⟩:=hk
   simp only [evalOp] at he
   split at he
   ·rename_i n2 sh' cs k hcs hkk
    split at he
    ·rename_i hc
     obtain ⟨c,hc1,e⟩:=Option.map_eq_some_iff.1 he
     simp only [Prod.mk.injEq] at e
     obtain ⟨rfl,rfl⟩:=e
     obtain ⟨hn,hc2⟩:=hc
     obtain rfl:=Sh.beq_eq _ _ hc2
     exact (good_idx hs ho hx hj ht hk hcs hn hkk hc1).wp
    ·cases he
   ·cases he
  ·cases hk
 case h_26 x j x' j' ho=>
  simp only [Bool.and_eq_true,beq_iff_eq] at hok
  obtain ⟨hx,rfl⟩:=hok
  simp only [evalOp] at he
  split at he
  ·rename_i ds hds
   obtain ⟨c,hc1,e⟩:=Option.map_eq_some_iff.1 he
   simp only [Prod.mk.injEq] at e
   obtain ⟨rfl,rfl⟩:=e
   exact (good_ext hs ho hx (.inl ⟨ds,c,hds,hc1,rfl⟩)).wp
  ·rename_i vs hvs
   obtain ⟨c,hc1,e⟩:=Option.map_eq_some_iff.1 he
   simp only [Prod.mk.injEq] at e
   obtain ⟨rfl,rfl⟩:=e
   exact (good_ext hs ho hx (.inr ⟨vs,hvs,hc1⟩)).wp
  ·cases he
 case h_27 f xs ys g xs' ys' ho=>
  simp only [Bool.and_eq_true,beq_iff_eq] at hok
  obtain ⟨⟨rfl,hx⟩,hy⟩:=hok
  simp only [evalOp] at he
  obtain ⟨us,hus,he⟩:=Option.bind_eq_some_iff.1 he
  obtain ⟨vs,hvs,e⟩:=Option.map_eq_some_iff.1 he
  simp only [Prod.mk.injEq] at e
  obtain ⟨rfl,rfl⟩:=e
  exact (good_mkFn hs ho hx hy hus hvs).wp
 case h_28 str x x' t ho=>
  simp only [Bool.and_eq_true] at hok
  obtain ⟨hx,hk⟩:=hok
  split at hk
  ·rename_i e ht
   simp only [evalOp] at he
   split at he
   ·rename_i sh cs hcs
    simp only [Option.some.injEq,Prod.mk.injEq] at he
    obtain ⟨rfl,rfl⟩:=he
    exact (good_len hs ho hx (.inl ⟨⟨e,ht⟩,.inl ⟨sh,cs,hcs,rfl⟩⟩)).wp
   ·rename_i i p off n cap hcs
    simp only [Option.some.injEq,Prod.mk.injEq] at he
    obtain ⟨rfl,rfl⟩:=he
    exact (good_len hs ho hx (.inl ⟨⟨e,ht⟩,.inr ⟨i,p,off,cap,hcs⟩⟩)).wp
   ·cases he
  ·rename_i ht
   simp only [evalOp] at he
   split at he
   ·rename_i b hb
    simp only [Option.some.injEq,Prod.mk.injEq] at he
    obtain ⟨rfl,rfl⟩:=he
    exact (good_len hs ho hx (.inr ⟨ht,b,hb,rfl⟩)).wp
   ·cases he
  ·cases hk
 case h_29 x y x' y' ts ho=>
  simp only [Bool.and_eq_true] at hok
  simp only [evalOp] at he
  split at he
  ·rename_i k m k' n hm hn
   split at he
   ·rename_i hk
    subst hk
    simp only [Option.some.injEq,Prod.mk.injEq] at he
    obtain ⟨rfl,rfl⟩:=he
    exact (good_max hs ho hok.1 hok.2 hm hn).wp
   ·cases he
  ·cases he
 case h_30 x y x' y' ts ho=>
  simp only [Bool.and_eq_true] at hok
  simp only [evalOp] at he
  split at he
  ·rename_i k m k' n hm hn
   split at he
   ·rename_i hk
    subst hk
    simp only [Option.some.injEq,Prod.mk.injEq] at he
    obtain ⟨rfl,rfl⟩:=he
    exact (good_min hs ho hok.1 hok.2 hm hn).wp
   ·cases he
  ·cases he
 case h_31 sh i bytes x y x' y' t tx ho=>
  simp only [Bool.and_eq_true,decide_eq_true_eq] at hok
  obtain ⟨⟨⟨⟨⟨hx,hy⟩,hpos⟩,hby⟩,htx⟩,hk⟩:=hok
  have htx':∃e',P.underlying tx=some (.slice e'):=by
   split at htx
   ·rename_i e' h; exact ⟨e',h⟩
   ·cases htx
  simp only [evalOp] at he
  obtain ⟨w,hw,he⟩:=Option.bind_eq_some_iff.1 he
  obtain ⟨d,hd,he⟩:=Option.bind_eq_some_iff.1 he
  split at he
  ·rename_i sh1 ys j off n cap hxe
   split at he
   ·rename_i fr sh2 cs hB
    split at he
    ·rename_i hc
     obtain ⟨c1,c2,c3,c4⟩:=hc
     obtain rfl:=Sh.beq_eq _ _ c1
     obtain rfl:=Sh.beq_eq _ _ c2
     split at hk
     ·rename_i e ht
      split at hk
      ·rename_i inf hinf
       simp only [Bool.and_eq_true,beq_iff_eq] at hk
       obtain ⟨⟨hs1,hs2⟩,hk⟩:=hk
       split at hk
       ·rename_i z hz
        have hzs:z.cells.size=sh2.size:=by simpa using hk
        have hlen:n+ys.length≤1099511627776:=by
         have h1:(n+ys.length)*1≤(n+ys.length)*bytes:=Nat.mul_le_mul_left _ hby
         omega
        obtain ⟨ad,c,e1,_,e3⟩:=src_sound hs.hr hd (arg_sound hs hy hw)
        have app:AppIn P C φ s a sh2 t tx x' y' j off n cap fr cs ys:=⟨⟨e,inf,z,bytes,ht,hinf,hz,hs1,hs2,hzs,c4⟩,htx',hpos,hlen,arg_sound hs hx hxe,hB,c3,ad,c,e1,e3⟩
        split at he
        ·rename_i hfr
         simp only [Option.some.injEq,Prod.mk.injEq] at he
         obtain ⟨rfl,rfl⟩:=he
         obtain ⟨rfl,_⟩:=hfr
         refine (good_append_own hs ho app).wp.mono ?_
         rintro i' rfl
         simp [Op.kill,hxe]
        ·split at he
         ·rename_i hcap
          obtain ⟨h2,hpb,e⟩:=Option.map_eq_some_iff.1 he
          simp only [Prod.mk.injEq] at e
          obtain ⟨rfl,rfl⟩:=e
          obtain ⟨hi,rfl⟩:=putBlk_some hpb
          obtain ⟨rfl,hys⟩:=hcap
          exact (good_append_new hs ho app hys hi).wp
         ·cases he
       ·cases hk
      ·cases hk
     ·cases hk
    ·cases he
   ·cases he
  ·rename_i sh1 y1 ys sh2 hxe
   split at he
   ·rename_i hc
    obtain ⟨c1,c2,c3⟩:=hc
    obtain rfl:=Sh.beq_eq _ _ c1
    obtain rfl:=Sh.beq_eq _ _ c2
    obtain ⟨h2,hpb,e⟩:=Option.map_eq_some_iff.1 he
    simp only [Prod.mk.injEq] at e
    obtain ⟨rfl,rfl⟩:=e
    obtain ⟨hi,rfl⟩:=putBlk_some hpb
    split at hk
    ·rename_i e ht
     split at hk
     ·rename_i inf hinf
      simp only [Bool.and_eq_true,beq_iff_eq] at hk
      obtain ⟨⟨hs1,hs2⟩,hk⟩:=hk
      split at hk
      ·rename_i z hz
       have hzs:z.cells.size=sh2.size:=by simpa using hk
       have hlen:0+(y1::ys).length≤1099511627776:=by
        have h1:(ys.length+1)*1≤(ys.length+1)*bytes:=Nat.mul_le_mul_left _ hby
        simp only [List.length_cons]; omega
       obtain ⟨ad,c,e1,_,e3⟩:=src_sound hs.hr hd (arg_sound hs hy hw)
       have hnil:a.eval x'=.slice none 0 0:=by
        have:=arg_sound hs hx hxe
        simp only [RX,RV,RD] at this
        cases hq:a.eval x' <;> simp_all [Value.cells,isAgg,D.isAgg]
       have:=good_append_nil hs ho hnil hi ⟨e,inf,z,bytes,ht,hinf,hz,hs1,hs2,hzs,by simpa using c3⟩ htx' hpos hlen ⟨ad,c,e1,e3⟩
       simp only [List.length_cons,Nat.zero_add] at this
       exact this.wp.mono (by simp)
      ·cases hk
     ·cases hk
    ·cases hk
   ·cases he
  ·cases he
 case h_32 m news f xs f' xs' ts ho=>
  simp only [Bool.and_eq_true,decide_eq_true_eq] at hok
  exact good_call hO hs ho hok.1.1 hok.1.2 hok.2 he
 case h_33 neg x op t x' y' yt ho=>
  simp only [Bool.and_eq_true,decide_eq_true_eq] at hok
  obtain ⟨⟨⟨rfl,hx⟩,hy⟩,hk⟩:=hok
  have hy':a.eval y'=.slice none 0 0:=by
   unfold isNilSlice at hy
   split at hy
   ·rfl
   ·cases hy
  split at hk
  ·rename_i e ht
   simp only [evalOp] at he
   split at he
   ·rename_i sh c cs hcs
    simp only [Option.some.injEq,Prod.mk.injEq] at he
    obtain ⟨rfl,rfl⟩:=he
    exact (good_nilq hs ho hx ht hy' (.inl ⟨sh,c,cs,hcs⟩)).wp
   ·rename_i i p off n cap hcs
    simp only [Option.some.injEq,Prod.mk.injEq] at he
    obtain ⟨rfl,rfl⟩:=he
    exact (good_nilq hs ho hx ht hy' (.inr ⟨i,p,off,n,cap,hcs⟩)).wp
   ·cases he
  ·cases hk
 case h_34=>simp [evalOp] at he
 case h_35=>cases hok
end
end Pe

namespace Pe
open Go
variable {P:Program} {num:Nat→Nat}
structure Runs (np:Nat) (C C':Cx) (φ φ':Loc) (h h':Heap):Prop where
 st:Step C C' φ φ' h h'
 kp:Keeps C C' φ φ' h h' (np≤·)
theorem Runs.trans {np:Nat} {C C' C'':Cx} {φ φ' φ'':Loc} {h h' h'':Heap} (a:Runs np C C' φ φ' h h') (b:Runs np C' C'' φ' φ'' h' h''):Runs np C C'' φ φ'' h h'':=
 ⟨a.st.trans b.st,a.kp.trans b.kp⟩
theorem Runs.refl (np:Nat) {C:Cx} {φ:Loc} {h:Heap} (hr:HR C φ h) (hb:∀b,C.I b→b<C.w.heap.size):Runs np C C φ φ h h:=⟨.refl hr hb,Keeps.refl _ _ _ _⟩
theorem kill_np {O:Oracle} {np:Nat} {e:Env} {h h':Heap} {p:Op} {v:V} {j:Nat} (he:evalOp O np e h p=some (v,h')) (hk:p.kill e v=some j):np≤j:=by
 cases p <;> simp only [Op.kill,reduceCtorEq] at hk
 rename_i sh i bytes x y
 simp only [evalOp] at he
 obtain ⟨w,hw,he⟩:=Option.bind_eq_some_iff.1 he
 obtain ⟨d,hd,he⟩:=Option.bind_eq_some_iff.1 he
 split at he
 ·rename_i sh1 ys j' off n cap hxe
  rw [hxe] at hk
  split at he
  ·split at he
   ·split at he
    ·rename_i hfr
     simp only [Option.some.injEq,Prod.mk.injEq] at he
     obtain ⟨rfl,rfl⟩:=he
     simp at hk
     omega
    ·split at he
     ·obtain ⟨h2,hpb,e⟩:=Option.map_eq_some_iff.1 he
      simp only [Prod.mk.injEq] at e
      obtain ⟨rfl,rfl⟩:=e
      simp at hk
      omega
     ·cases he
   ·cases he
  ·cases he
 ·rename_i hxe
  rw [hxe] at hk
  cases hk
 ·cases he
theorem get_filter (p:Nat→Bool):∀(e:Env) (n:Nat),Env.get (e.filter fun q=>p q.1) n=if p n then e.get n else none
 | [],n=>by simp [Env.get]
 | (m,v)::e,n=>by
  have ih:=get_filter p e n
  by_cases hm:p m=true
  ·rw [List.filter_cons_of_pos (by simpa using hm)]
   simp only [Env.get]
   by_cases hmn:m=n
   ·subst hmn; simp [hm]
   ·rw [if_neg hmn,if_neg hmn]; exact ih
  ·rw [List.filter_cons_of_neg (by simpa using hm),ih]
   simp only [Env.get]
   by_cases hmn:m=n
   ·subst hmn; simp [hm]
   ·rw [if_neg hmn]
theorem kill_get {e:Env} {k:Option Nat} {n:Nat} {v:V} (h:(e.kill k).get n=some v):e.get n=some v∧∀j,k=some j→j ∉ v.refs:=by
 cases k with
 | none=>exact ⟨h,by simp⟩
 | some j=>
  simp only [Env.kill] at h
  rw [get_filter (e.clear j) e n] at h
  split at h
  ·rename_i hp
   unfold Env.clear at hp
   rw [h] at hp
   refine ⟨h,fun j' hj=>?_⟩
   simp only [Option.some.injEq] at hj
   subst hj
   intro hm
   simp at hp
   exact hp j hm rfl
  ·cases h
def insOk (P:Program) (num:Nat→Nat) (ops:Array Oper) (N:Nat) (i:Ins) (o:Oper):Bool:=
 decide (i.dst=o.dst)&&(match o.dst with | some d=>decide (d<N) | none=>true)&&opOk P num i.op o &&
 (match i.guard,o.guard with
  | none,none=>true
  | some (n,b),some (g,b')=>b == b'&&decide ((ops[g]?).bind (·.dst)=some n)
  | _,_=>false)
theorem act_get {a:Act} {d n:Nat} {v:Value} (hd:d<a.tmps.size):(a.put (some d) v).tmps[n]? = if n=d then some v else a.tmps[n]?:=by
 simp only [Act.put,Array.getElem?_setIfInBounds]
 by_cases h:d=n
 ·subst h; simp [hd]
 ·rw [if_neg h,if_neg (Ne.symm h)]
theorem put_size (a:Act) (d:Option Nat) (v:Value):(a.put d v).tmps.size=a.tmps.size:=by
 cases d <;> simp [Act.put]
theorem eval_exec {O:Oracle} {np:Nat} {s s':St} {i:Ins} (h:evalIns O np s i=some s'):execIns O np s i=some s':=by
 unfold evalIns at h
 split at h
 ·exact h
 ·cases h
theorem ins_sound {O:Oracle} {C:Cx} {φ:Loc} {s s':St} {a:Act} {ops:Array Oper} {N np:Nat} {i:Ins} {o:Oper} {j:Nat} {K:Act→World→Prop} {Q:Exit→Act→World→Prop}
 (hO:CallOk P C.num O) (hs:SR C φ s a.tmps) (hN:N≤a.tmps.size) (hok:insOk P C.num ops N i o=true) (hj:ops[j]? = some o) (he:execIns O np s i=some s')
 (hK:∀C' φ' u,Runs np C C' φ φ' s.h s'.h→SR C' φ' s' (a.put o.dst u).tmps→K (a.put o.dst u) C'.w):wpOp P ops Q j K a C.w:=by
 unfold insOk at hok
 simp only [Bool.and_eq_true,decide_eq_true_eq] at hok
 obtain ⟨⟨⟨hdst,hdN⟩,hop⟩,hguard⟩:=hok
 have hdN':∀d,o.dst=some d→d<a.tmps.size:=by
  intro d hd
  have h1:=hdN
  simp [hd] at h1
  exact Nat.lt_of_lt_of_le h1 hN
 -- the guard
 have hwant:∀t,i.on s.e=some t→Region.wanted o (yielded ops a.tmps)=t:=by
  intro t ht
  unfold Ins.on at ht
  unfold Region.wanted
  cases hg:i.guard with
  | none=>
   rw [hg] at hguard ht
   cases hg':o.guard with
   | none=>simpa using ht
   | some x=>rw [hg'] at hguard; cases hguard
  | some q=>
   obtain ⟨n,b⟩:=q
   rw [hg] at hguard ht
   cases hg':o.guard with
   | none=>rw [hg'] at hguard; cases hguard
   | some x=>
    obtain ⟨g,b'⟩:=x
    rw [hg'] at hguard
    simp only [Bool.and_eq_true,beq_iff_eq,decide_eq_true_eq] at hguard
    obtain ⟨rfl,hgn⟩:=hguard
    simp only at ht ⊢
    split at ht
    ·rename_i t' hn
     obtain ⟨u,hu,hx⟩:=hs.env n _ hn
     have hub:=RX_bool hx
     subst hub
     have hy:yielded ops a.tmps g=some t':=by
      unfold yielded
      rw [hgn]
      simp [hu]
     rw [hy]
     simp only [Option.some.injEq] at ht
     rw [←ht]
     cases t' <;> cases b <;> rfl
    ·rename_i hn
     obtain ⟨u,hu,hx⟩:=hs.env n _ hn
     simp only [RX,RXs] at hx
     obtain ⟨us,rfl,-⟩:=hx
     have hy:yielded ops a.tmps g=none:=by
      unfold yielded
      rw [hgn]
      simp [hu]
     rw [hy]
     simp only [Option.some.injEq] at ht
     rw [←ht]
     rfl
    ·cases ht
 unfold execIns at he
 unfold wpOp
 simp only [hj]
 split at he
 ·rename_i hg
  rw [hwant true hg,if_pos rfl]
  ·obtain ⟨⟨v,h'⟩,hev,rfl⟩:=Option.map_eq_some_iff.1 he
   left
   refine op_sound hO hs hop hev K Q fun C' φ' u st hx k=>hK C' φ' u ⟨st,k.mono fun i hi=>kill_np hev hi⟩ ⟨st.hr,st.bd,fun n w hn=>?_⟩
   simp only at hn
   have old:∀w,((s.e.kill (i.op.kill s.e v)).get n=some w)→∃u0,a.tmps[n]? = some u0∧RX C' φ' h' w u0:=by
    intro w hw
    obtain ⟨g1,g2⟩:=kill_get hw
    obtain ⟨u0,h1,h2⟩:=hs.env n w g1
    exact ⟨u0,h1,k w u0 (fun j hj hk=>g2 j hk hj) h2⟩
   cases hd:o.dst with
   | none=>
    rw [hdst,hd] at hn
    simp only [Env.putO] at hn
    exact old w hn
   | some d=>
    rw [hdst,hd] at hn
    simp only [Env.putO,Env.get] at hn
    rw [act_get (hdN' d hd)]
    by_cases hdn:d=n
    ·subst hdn
     simp only [if_true,Option.some.injEq] at hn
     subst hn
     refine ⟨u,if_pos rfl,?_⟩
     rcases hx with hx | hx
     ·rw [hd] at hx; cases hx
     ·exact hx
    ·rw [if_neg hdn] at hn
     rw [if_neg (Ne.symm hdn)]
     exact old w hn
 ·rename_i hg
  rw [hwant false hg,if_neg (by simp)]
  obtain rfl:=Option.some.inj he
  refine hK C φ undef (.refl np hs.hr hs.bd) ⟨hs.hr,hs.bd,fun n w hn=>?_⟩
  cases hd:o.dst with
  | none=>
   rw [hdst,hd] at hn
   exact hs.env n w hn
  | some d=>
   rw [hdst,hd] at hn
   simp only [Env.putO,Env.get] at hn
   rw [act_get (hdN' d hd)]
   by_cases hdn:d=n
   ·subst hdn
    simp only [if_true,Option.some.injEq] at hn
    subst hn
    exact ⟨undef,if_pos rfl,by simp [RX,RXs,undef]⟩
   ·rw [if_neg hdn] at hn
    rw [if_neg (Ne.symm hdn)]
    exact hs.env n w hn
 ·cases he
theorem keep_get {e:Env}:∀{ks:List Nat} {n:Nat} {v:V},(e.keep ks).get n=some v→e.get n=some v
 | [],n,v,h=>by simp [Env.keep,Env.get] at h
 | k::ks,n,v,h=>by
  simp only [Env.keep] at h
  split at h
  ·rename_i u hu
   simp only [Env.get] at h
   by_cases hk:k=n
   ·subst hk
    simp only [if_true,Option.some.injEq] at h
    subst h; exact hu
   ·rw [if_neg hk] at h; exact keep_get h
  ·exact keep_get h
theorem clean_get (e:Env) (np:Nat):∀(j:Nat) (h:Heap) (i:Nat),(clean e np j h)[i]? = (h[i]?).map fun b=>if j+i<np∨e.refd (j+i) then b else .hole
 | j,[],i=>by simp [clean]
 | j,b::bs,i=>by
  simp only [clean]
  cases i with
  | zero=>simp
  | succ i=>
   simp only [List.getElem?_cons_succ]
   rw [clean_get e np (j+1) bs i]
   rw [show j+1+i=j+(i+1) by omega]
theorem get_refd {e:Env} {n i:Nat} {v:V} (h:e.get n=some v) (hi:i∈v.refs):e.refd i=true:=by
 induction e with
 | nil=>simp [Env.get] at h
 | cons q e ih=>
  obtain ⟨m,u⟩:=q
  simp only [Env.get] at h
  simp only [Env.refd,List.any_cons,Bool.or_eq_true] at ih ⊢
  by_cases hm:m=n
  ·rw [if_pos hm,Option.some.injEq] at h
   subst h
   left
   simpa using hi
  ·rw [if_neg hm] at h
   exact .inr (ih h)
theorem region_end {C:Cx} {φ:Loc} {s:St} {tmps:Array Value} (np:Nat) (hs:SR C φ s tmps) (ks:List Nat) :
 Runs np C C φ φ s.h (clean (s.e.keep ks) np 0 s.h)∧SR C φ ⟨s.e.keep ks,clean (s.e.keep ks) np 0 s.h⟩ tmps:=by
 obtain ⟨st,k⟩:=step_drop (h':=clean (s.e.keep ks) np 0 s.h) hs.hr hs.bd (fun i B hB=>by
  rw [clean_get] at hB
  obtain ⟨b,hb,e⟩:=Option.map_eq_some_iff.1 hB
  split at e
  ·subst e; exact .inr hb
  ·exact .inl e.symm) (fun i B hB=>by
  rw [clean_get,hB]
  refine ⟨_,rfl,?_⟩
  split
  ·exact .inr rfl
  ·exact .inl rfl)
 have hold:∀v u,RX C φ s.h v u→(∀i∈v.refs,i<np∨(s.e.keep ks).refd i=true)→RX C φ (clean (s.e.keep ks) np 0 s.h) v u:=by
  intro v u g hi
  refine k v u (fun i hiv hh=>?_) g
  obtain ⟨B,hB,hn⟩:=RX.refs v u g i hiv
  have hh:(clean (s.e.keep ks) np 0 s.h)[i]? = some Blk.hole:=hh
  rw [clean_get,hB,Option.map_some,Nat.zero_add,if_pos (hi i hiv)] at hh
  exact hn (Option.some.inj hh)
 refine ⟨⟨st,fun v u hv g=>hold v u g fun i hi=>.inl (by have:=hv i hi; omega)⟩,⟨st.hr,st.bd,fun n v hn=>?_⟩⟩
 obtain ⟨u,h1,h2⟩:=hs.env n v (keep_get hn)
 exact ⟨u,h1,hold v u h2 fun i hi=>.inr (get_refd hn hi)⟩
def insOks (P:Program) (num:Nat→Nat) (ops:Array Oper) (N:Nat):List Ins→List Oper→Bool
 | [],[]=>true
 | i::is,o::os=>insOk P num ops N i o&&insOks P num ops N is os
 | _,_=>false
theorem insOks_get {num:Nat→Nat} {ops:Array Oper} {N:Nat}:∀{is:List Ins} {os:List Oper},insOks P num ops N is os=true→is.length=os.length∧∀(k:Nat) i o,is[k]? = some i→os[k]? = some o→insOk P num ops N i o=true
 | [],[],_=>by simp
 | i::is,o::os,h=>by
  simp only [insOks,Bool.and_eq_true] at h
  obtain ⟨h1,h2⟩:=insOks_get h.2
  refine ⟨by simp [h1],fun k i' o' hi ho=>?_⟩
  cases k with
  | zero=>
   simp only [List.getElem?_cons_zero,Option.some.injEq] at hi ho
   subst hi; subst ho; exact h.1
  | succ k=>exact h2 k i' o' (by simpa using hi) (by simpa using ho)
 | [],_::_,h=>by simp [insOks] at h
 | _::_,[],h=>by simp [insOks] at h
theorem ops_sound {O:Oracle} {ops:Array Oper} {N np:Nat} {Q:Exit→Act→World→Prop} {is:List Ins} (hok:insOks P num ops N is ops.toList=true) (hO:CallOk P num O) :
 ∀(m k:Nat),k+m=is.length→∀(C:Cx) (φ:Loc) (s s':St) (a:Act),C.num=num→SR C φ s a.tmps→N≤a.tmps.size→evalList O np (is.drop k) s=some s' →
 (∀C' φ' a',C'.num=num→Runs np C C' φ φ' s.h s'.h→SR C' φ' s' a'.tmps→a'.tmps.size=a.tmps.size→a'.defers=a.defers→Q .normal a' C'.w)→wpOps P ops Q (List.range' k m) a C.w
 | 0,k,hk,C,φ,s,s',a,hC,hs,hN,he,hQ=>by
  rw [List.drop_eq_nil_of_le (by omega)] at he
  simp only [evalList,Option.some.injEq] at he
  subst he
  simp only [List.range'_zero,wpOps]
  exact hQ C φ a hC (.refl np hs.hr hs.bd) hs rfl rfl
 | m+1,k,hk,C,φ,s,s',a,hC,hs,hN,he,hQ=>by
  obtain ⟨hl,hget⟩:=insOks_get hok
  have hkl:k<is.length:=by omega
  have hi:is[k]? = some is[k]:=List.getElem?_eq_getElem hkl
  have hko:k<ops.toList.length:=by omega
  have ho:ops.toList[k]? = some ops.toList[k]:=List.getElem?_eq_getElem hko
  rw [List.drop_eq_getElem_cons hkl] at he
  simp only [evalList] at he
  obtain ⟨s1,h1,he⟩:=Option.bind_eq_some_iff.1 he
  rw [List.range'_succ,wpOps_cons]
  have ho':ops[k]? = some ops.toList[k]:=by simp
  refine ins_sound (hC▸hO) hs hN (hC▸hget k _ _ hi ho) ho' (eval_exec h1) fun C' φ' u rn hs'=>?_
  have hC':C'.num=num:=rn.st.le.num.trans hC
  refine ops_sound hok hO m (k+1) (by omega) C' φ' s1 s' _ hC' hs' (by rw [put_size]; exact hN) he fun C2 φ2 a2 h2 rn2 hs2 e2 d2=>?_
  refine hQ C2 φ2 a2 h2 (rn.trans rn2) hs2 (by rw [e2,put_size]) ?_
  rw [d2]
  cases ops.toList[k].dst <;> rfl
end Pe

namespace Pe
open Go
def Le (ns:List Nat) (e e':Env):Prop:=∀n∈ns,∀v,e.get n=some v→e'.get n=some v
theorem Le.sub {ns ms:List Nat} {e e':Env} (h:Le ns e e') (hs:∀n∈ms,n∈ns):Le ms e e':=fun n hn v hv=>h n (hs n hn) v hv
theorem arg_mono {e e':Env} {x:Arg} (h:Le x.temps e e') {v:V} (hv:e.arg x=some v):e'.arg x=some v:=by
 cases x with
 | t n=>exact h n (by simp [Arg.temps]) v hv
 | c d=>exact hv
 | f f=>exact hv
theorem args_mono {e e':Env}:∀{xs:List Arg},Le (temps1 xs) e e'→∀{vs:List V},e.args xs=some vs→e'.args xs=some vs
 | [],_,vs,hv=>hv
 | x::xs,h,vs,hv=>by
  simp only [Env.args] at hv ⊢
  obtain ⟨v,h1,hv⟩:=Option.bind_eq_some_iff.1 hv
  obtain ⟨r,h2,rfl⟩:=Option.map_eq_some_iff.1 hv
  rw [arg_mono (h.sub fun n hn=>by simp [temps1,hn]) h1,Option.bind_some,args_mono (h.sub fun n hn=>by simp [temps1,hn]) h2,Option.map_some]
theorem nat_mono {e e':Env} {x:Arg} (h:Le x.temps e e') {k:Nat} (hv:(e.arg x).bind V.nat? = some k):(e'.arg x).bind V.nat? = some k:=by
 obtain ⟨v,h1,h2⟩:=Option.bind_eq_some_iff.1 hv
 rw [arg_mono h h1,Option.bind_some,h2]
theorem opt_mono {e e':Env} {x:Option Arg} (h:Le (temps0 x) e e') {m k:Nat} (hv:optNat e x m=some k):optNat e' x m=some k:=by
 cases x with
 | none=>exact hv
 | some a=>exact nat_mono h hv
theorem parts_mono {e e':Env} {h:Heap}:∀{ps:List (Nat×Arg)},Le (temps2 ps) e e'→∀{xs:List (Nat×D)},partsD e h ps=some xs→partsD e' h ps=some xs∧partsRefs e' ps=partsRefs e ps
 | [],_,xs,hv=>⟨hv,rfl⟩
 | (i,a)::r,hl,xs,hv=>by
  simp only [partsD] at hv ⊢
  obtain ⟨v,h1,hv⟩:=Option.bind_eq_some_iff.1 hv
  obtain ⟨x,h2,hv⟩:=Option.bind_eq_some_iff.1 hv
  split at hv
  ·cases hv
  ·rename_i hx
   obtain ⟨ys,h3,rfl⟩:=Option.map_eq_some_iff.1 hv
   have h1':=arg_mono (hl.sub fun n hn=>by simp [temps2,hn]) h1
   obtain ⟨g1,g2⟩:=parts_mono (hl.sub fun n hn=>by simp [temps2,hn]) h3
   refine ⟨?_,by simp only [partsRefs,h1',h1,g2]⟩
   rw [h1',Option.bind_some,h2,Option.bind_some,if_neg hx,g1,Option.map_some]
theorem op_mono {O:Oracle} {np:Nat} {e e':Env} {h:Heap} {p:Op} {r:V×Heap} (hl:Le p.temps e e') (he:evalOp O np e h p=some r):evalOp O np e' h p=some r∧p.kill e' r.1=p.kill e r.1:=by
 cases p with
 | mv x=>
  simp only [evalOp] at he ⊢
  obtain ⟨v,hv,e1⟩:=Option.map_eq_some_iff.1 he
  rw [arg_mono hl hv]; exact ⟨e1▸rfl,rfl⟩
 | chk x=>
  simp only [evalOp] at he ⊢
  split at he
  ·rename_i hx; rw [arg_mono hl hx]; exact ⟨he,rfl⟩
  ·rename_i hx; rw [arg_mono hl hx]; exact ⟨he,rfl⟩
  ·cases he
 | pick c a b=>
  simp only [evalOp] at he ⊢
  split at he
  ·rename_i t hc
   obtain ⟨v,hv,e1⟩:=Option.map_eq_some_iff.1 he
   rw [arg_mono (hl.sub fun n hn=>by simp [Op.temps,hn]) hc]
   simp only
   have:e'.arg (if t then a else b)=some v:=arg_mono (hl.sub fun n hn=>by cases t <;> simp_all [Op.temps]) hv
   rw [this]; exact ⟨e1▸rfl,rfl⟩
  ·cases he
 | nilOwn i s=>exact ⟨he,rfl⟩
 | box fz i x=>
  simp only [evalOp] at he ⊢
  obtain ⟨v,hv,he⟩:=Option.bind_eq_some_iff.1 he
  rw [arg_mono hl hv]; exact ⟨he,rfl⟩
 | build fz z ps=>
  simp only [evalOp] at he ⊢
  obtain ⟨v,hv,he⟩:=Option.bind_eq_some_iff.1 he
  obtain ⟨g1,g2⟩:=parts_mono hl hv
  rw [g1,g2]; exact ⟨he,rfl⟩
 | buildSl fz i s z n ps=>
  simp only [evalOp] at he ⊢
  obtain ⟨v,hv,he⟩:=Option.bind_eq_some_iff.1 he
  obtain ⟨g1,g2⟩:=parts_mono hl hv
  rw [g1,g2]; exact ⟨he,rfl⟩
 | mkSl i s z bytes x y=>
  simp only [evalOp] at he ⊢
  split at he
  ·rename_i n m hn hm
   rw [nat_mono (hl.sub fun n hn=>by simp [Op.temps,hn]) hn,nat_mono (hl.sub fun n hn=>by simp [Op.temps,hn]) hm]
   exact ⟨he,rfl⟩
  ·cases he
 | load s x=>
  simp only [evalOp] at he ⊢
  split at he
  ·rename_i hx; rw [arg_mono hl hx]; exact ⟨he,rfl⟩
  ·rename_i hx; rw [arg_mono hl hx]; exact ⟨he,rfl⟩
  ·cases he
 | store fz s x y=>
  simp only [evalOp] at he ⊢
  obtain ⟨v,hv,he⟩:=Option.bind_eq_some_iff.1 he
  obtain ⟨d,hd,he⟩:=Option.bind_eq_some_iff.1 he
  obtain ⟨h1,hf,he⟩:=Option.bind_eq_some_iff.1 he
  rw [arg_mono (hl.sub fun n hn=>by simp [Op.temps,hn]) hv,Option.bind_some,hd,Option.bind_some,hf,Option.bind_some]
  split at he
  ·rename_i hx; rw [arg_mono (hl.sub fun n hn=>by simp [Op.temps,hn]) hx]; exact ⟨he,rfl⟩
  ·cases he
 | bin o x y=>
  simp only [evalOp] at he ⊢
  split at he
  ·rename_i hx hy
   rw [arg_mono (hl.sub fun n hn=>by simp [Op.temps,hn]) hx,arg_mono (hl.sub fun n hn=>by simp [Op.temps,hn]) hy]
   exact ⟨he,rfl⟩
  ·cases he
 | eqv neg q x y=>
  simp only [evalOp] at he ⊢
  split at he
  ·rename_i hx hy
   rw [arg_mono (hl.sub fun n hn=>by simp [Op.temps,hn]) hx,arg_mono (hl.sub fun n hn=>by simp [Op.temps,hn]) hy]
   exact ⟨he,rfl⟩
  ·cases he
 | un o x=>
  simp only [evalOp] at he ⊢
  split at he
  ·rename_i hx; rw [arg_mono hl hx]; exact ⟨he,rfl⟩
  ·cases he
 | conv k x=>
  simp only [evalOp] at he ⊢
  split at he
  ·rename_i hx; rw [arg_mono hl hx]; exact ⟨he,rfl⟩
  ·cases he
 | cut ar s x lo hi mx=>
  have l1:Le x.temps e e':=hl.sub fun n hn=>by simp [Op.temps,hn]
  have l2:Le (temps0 lo) e e':=hl.sub fun n hn=>by simp [Op.temps,hn]
  have l3:Le (temps0 hi) e e':=hl.sub fun n hn=>by simp [Op.temps,hn]
  have l4:Le (temps0 mx) e e':=hl.sub fun n hn=>by simp [Op.temps,hn]
  cases ar with
  | none=>
   simp only [evalOp] at he ⊢
   split at he
   ·rename_i hx
    obtain ⟨m,hm,he⟩:=Option.bind_eq_some_iff.1 he
    obtain ⟨b,hb,he⟩:=Option.bind_eq_some_iff.1 he
    obtain ⟨a,ha,he⟩:=Option.bind_eq_some_iff.1 he
    simp only [arg_mono l1 hx,opt_mono l4 hm,opt_mono l3 hb,opt_mono l2 ha,Option.bind_some]
    exact ⟨he,rfl⟩
   ·rename_i hx
    obtain ⟨q,hq,he⟩:=Option.bind_eq_some_iff.1 he
    obtain ⟨m,hm,he⟩:=Option.bind_eq_some_iff.1 he
    obtain ⟨b,hb,he⟩:=Option.bind_eq_some_iff.1 he
    obtain ⟨a,ha,he⟩:=Option.bind_eq_some_iff.1 he
    simp only [arg_mono l1 hx,hq,opt_mono l4 hm,opt_mono l3 hb,opt_mono l2 ha,Option.bind_some]
    exact ⟨he,rfl⟩
   ·cases he
  | some n=>
   simp only [evalOp] at he ⊢
   split at he
   ·rename_i hx
    obtain ⟨q,hq,he⟩:=Option.bind_eq_some_iff.1 he
    rw [arg_mono l1 hx]
    simp only [hq,Option.bind_some]
    split at he
    ·obtain ⟨m,hm,he⟩:=Option.bind_eq_some_iff.1 he
     obtain ⟨b,hb,he⟩:=Option.bind_eq_some_iff.1 he
     obtain ⟨a,ha,he⟩:=Option.bind_eq_some_iff.1 he
     simp only [opt_mono l4 hm,opt_mono l3 hb,opt_mono l2 ha,Option.bind_some]
     exact ⟨he,rfl⟩
    ·cases he
   ·rename_i hx
    obtain ⟨m,hm,he⟩:=Option.bind_eq_some_iff.1 he
    obtain ⟨b,hb,he⟩:=Option.bind_eq_some_iff.1 he
    obtain ⟨a,ha,he⟩:=Option.bind_eq_some_iff.1 he
    simp only [arg_mono l1 hx,opt_mono l4 hm,opt_mono l3 hb,opt_mono l2 ha,Option.bind_some]
    exact ⟨he,rfl⟩
   ·cases he
 | fldA ss x j=>
  simp only [evalOp] at he ⊢
  split at he
  ·rename_i hx; rw [arg_mono hl hx]; exact ⟨he,rfl⟩
  ·rename_i hx; rw [arg_mono hl hx]; exact ⟨he,rfl⟩
  ·cases he
 | fld ss x j=>
  simp only [evalOp] at he ⊢
  split at he
  ·rename_i hx; rw [arg_mono hl hx]; exact ⟨he,rfl⟩
  ·cases he
 | idxA ar s x j=>
  have l1:Le x.temps e e':=hl.sub fun n hn=>by simp [Op.temps,hn]
  have l2:Le j.temps e e':=hl.sub fun n hn=>by simp [Op.temps,hn]
  cases ar <;> simp only [evalOp] at he ⊢ <;> split at he <;> first
   | cases he; done
   | (rename_i hx hj; rw [arg_mono l1 hx,nat_mono l2 hj]; exact ⟨he,rfl⟩)
 | idx ar s x j=>
  have l1:Le x.temps e e':=hl.sub fun n hn=>by simp [Op.temps,hn]
  have l2:Le j.temps e e':=hl.sub fun n hn=>by simp [Op.temps,hn]
  cases ar <;> simp only [evalOp] at he ⊢ <;> split at he <;> first
   | cases he; done
   | (rename_i hx hj; rw [arg_mono l1 hx,nat_mono l2 hj]; exact ⟨he,rfl⟩)
 | ext x j=>
  simp only [evalOp] at he ⊢
  split at he
  ·rename_i hx; rw [arg_mono hl hx]; exact ⟨he,rfl⟩
  ·rename_i hx; rw [arg_mono hl hx]; exact ⟨he,rfl⟩
  ·cases he
 | mkFn f xs ys=>
  simp only [evalOp] at he ⊢
  obtain ⟨us,hu,he⟩:=Option.bind_eq_some_iff.1 he
  obtain ⟨vs,hv,he⟩:=Option.map_eq_some_iff.1 he
  rw [args_mono (hl.sub fun n hn=>by simp [Op.temps,hn]) hu,args_mono (hl.sub fun n hn=>by simp [Op.temps,hn]) hv]
  exact ⟨congrArg some he,rfl⟩
 | len str x=>
  cases str <;> simp only [evalOp] at he ⊢ <;> split at he <;> first
   | cases he; done
   | (rename_i hx; rw [arg_mono hl hx]; exact ⟨he,rfl⟩)
 | maxI x y=>
  simp only [evalOp] at he ⊢
  split at he
  ·rename_i hx hy
   rw [arg_mono (hl.sub fun n hn=>by simp [Op.temps,hn]) hx,arg_mono (hl.sub fun n hn=>by simp [Op.temps,hn]) hy]
   exact ⟨he,rfl⟩
  ·cases he
 | minI x y=>
  simp only [evalOp] at he ⊢
  split at he
  ·rename_i hx hy
   rw [arg_mono (hl.sub fun n hn=>by simp [Op.temps,hn]) hx,arg_mono (hl.sub fun n hn=>by simp [Op.temps,hn]) hy]
   exact ⟨he,rfl⟩
  ·cases he
 | append s i bytes x y=>
  simp only [evalOp] at he ⊢
  obtain ⟨w,hw,he⟩:=Option.bind_eq_some_iff.1 he
  obtain ⟨d,hd,he⟩:=Option.bind_eq_some_iff.1 he
  rw [arg_mono (hl.sub fun n hn=>by simp [Op.temps,hn]) hw,Option.bind_some,hd,Option.bind_some]
  split at he
  ·rename_i hx
   have hx':=arg_mono (hl.sub fun n hn=>by simp [Op.temps,hn]) hx
   simp only [hx',Op.kill,hx]
   exact ⟨he,trivial⟩
  ·rename_i hx
   have hx':=arg_mono (hl.sub fun n hn=>by simp [Op.temps,hn]) hx
   simp only [hx',Op.kill,hx]
   exact ⟨he,trivial⟩
  ·cases he
 | copy s x y=>
  simp only [evalOp] at he ⊢
  obtain ⟨w,hw,he⟩:=Option.bind_eq_some_iff.1 he
  obtain ⟨d,hd,he⟩:=Option.bind_eq_some_iff.1 he
  rw [arg_mono (hl.sub fun n hn=>by simp [Op.temps,hn]) hw,Option.bind_some,hd,Option.bind_some]
  split at he
  ·rename_i hx
   have hx':=arg_mono (hl.sub fun n hn=>by simp [Op.temps,hn]) hx
   simp only [hx']
   exact ⟨he,rfl⟩
  ·cases he
 | call m news f xs=>
  simp only [evalOp] at he ⊢
  obtain ⟨w,hw,he⟩:=Option.bind_eq_some_iff.1 he
  obtain ⟨g,hg,he⟩:=Option.bind_eq_some_iff.1 he
  obtain ⟨vs,hv,he⟩:=Option.bind_eq_some_iff.1 he
  rw [arg_mono (hl.sub fun n hn=>by simp [Op.temps,hn]) hw,Option.bind_some,hg,Option.bind_some,args_mono (hl.sub fun n hn=>by simp [Op.temps,hn]) hv,Option.bind_some]
  exact ⟨he,rfl⟩
 | nilq neg x=>
  simp only [evalOp] at he ⊢
  split at he
  ·rename_i hx; rw [arg_mono hl hx]; exact ⟨he,rfl⟩
  ·rename_i hx; rw [arg_mono hl hx]; exact ⟨he,rfl⟩
  ·cases he
 | fail=>simp [evalOp] at he
mutual
theorem toD_congr {h h2:Heap}:∀(v:V),(∀i∈v.refs,h2[i]? = h[i]?)→toD h2 v=toD h v
 | .d x,_=>by simp [toD]
 | .sl i p off len cap,g=>by simp only [toD]; rw [g i (by simp [V.refs])]
 | .ptr i p,g=>by simp only [toD]; rw [g i (by simp [V.refs])]
 | .fn f first caps,g=>by
  simp only [toD]
  rw [toDs_congr first fun i hi=>g i (by simp [V.refs,hi]),toDs_congr caps fun i hi=>g i (by simp [V.refs,hi])]
 | .tup vs,g=>by
  simp only [toD]
  rw [toDs_congr vs fun i hi=>g i (by simpa [V.refs] using hi)]
theorem toDs_congr {h h2:Heap}:∀(vs:List V),(∀i∈V.refss vs,h2[i]? = h[i]?)→toDs h2 vs=toDs h vs
 | [],_=>by simp [toDs]
 | v::vs,g=>by
  simp only [toDs]
  rw [toD_congr v fun i hi=>g i (by simp [V.refss,hi]),toDs_congr vs fun i hi=>g i (by simp [V.refss,hi])]
end
inductive Cls where
 | z | r | a | s | w | x
 deriving DecidableEq
def Op.cls:Op→Cls
 | .mv _ | .chk _ | .pick _ _ _ | .bin _ _ _ | .eqv _ _ _ _ | .un _ _ | .conv _ _ | .fld _ _ _ | .idx _ _ _ _ | .ext _ _ | .mkFn _ _ _ | .len _ _ | .maxI _ _ | .minI _ _ | .nilq _ _ | .fail=>.z
 | .load _ _ | .cut _ _ _ _ _ _ | .fldA _ _ _ | .idxA _ _ _ _ | .build false _ _ | .call .flat _ _ _ | .call .plain _ _ _=>.r
 | .nilOwn _ _ | .box false _ _ | .buildSl false _ _ _ _ _ | .mkSl _ _ _ _ _ _=>.a
 | .store false _ _ _=>.s
 | .store true _ _ _ | .box true _ _ | .build true _ _ | .buildSl true _ _ _ _ _ | .copy _ _ _ | .call .data _ _ _ | .call .heap _ _ _ | .append _ _ _ _ _=>.w
theorem refsOf_mem {e:Env} {ns:List Nat} {n i:Nat} {v:V} (hn:n∈ns) (hv:e.get n=some v) (hi:i∈v.refs):i∈e.refsOf ns:=by
 induction ns with
 | nil=>simp at hn
 | cons m ns ih=>
  simp only [Env.refsOf,List.mem_append]
  rcases List.mem_cons.1 hn with rfl | hn
  ·left; simp [hv,hi]
  ·exact .inr (ih hn)
theorem mem_refsOf {e:Env} {ns:List Nat} {i:Nat} (h:i∈e.refsOf ns):∃n∈ns,∃v,e.get n=some v∧i∈v.refs:=by
 induction ns with
 | nil=>simp [Env.refsOf] at h
 | cons m ns ih=>
  simp only [Env.refsOf,List.mem_append] at h
  rcases h with h | h
  ·split at h
   ·rename_i v hv; exact ⟨m,by simp,v,hv,h⟩
   ·simp at h
  ·obtain ⟨n,hn,q⟩:=ih h
   exact ⟨n,by simp [hn],q⟩
theorem refsOf_sub {e:Env} {ns ms:List Nat} (hs:∀n∈ns,n∈ms) {i:Nat} (h:i∈e.refsOf ns):i∈e.refsOf ms:=by
 obtain ⟨n,hn,v,hv,hi⟩:=mem_refsOf h
 exact refsOf_mem (hs n hn) hv hi
theorem arg_refs {e:Env} {x:Arg} {v:V} (hv:e.arg x=some v) {i:Nat} (hi:i∈v.refs):i∈e.refsOf x.temps:=by
 cases x with
 | t n=>exact refsOf_mem (by simp [Arg.temps]) hv hi
 | c d=>simp only [Env.arg,Option.some.injEq] at hv; subst hv; simp [V.refs] at hi
 | f f=>simp only [Env.arg,Option.some.injEq] at hv; subst hv; simp [V.refs] at hi
theorem refsOf_append (e:Env) (ns ms:List Nat):e.refsOf (ns++ms)=e.refsOf ns++e.refsOf ms:=by
 induction ns with
 | nil=>rfl
 | cons n ns ih=>simp [Env.refsOf,ih,List.append_assoc]
theorem args_refs {e:Env}:∀{xs:List Arg} {vs:List V},e.args xs=some vs→∀{i:Nat},i∈V.refss vs→i∈e.refsOf (temps1 xs)
 | [],vs,hv,i,hi=>by simp only [Env.args,Option.some.injEq] at hv; subst hv; simp [V.refss] at hi
 | x::xs,vs,hv,i,hi=>by
  simp only [Env.args] at hv
  obtain ⟨v,h1,hv⟩:=Option.bind_eq_some_iff.1 hv
  obtain ⟨r,h2,rfl⟩:=Option.map_eq_some_iff.1 hv
  simp only [V.refss,List.mem_append] at hi
  simp only [temps1,refsOf_append,List.mem_append]
  rcases hi with hi | hi
  ·exact .inl (arg_refs h1 hi)
  ·exact .inr (args_refs h2 hi)
theorem parts_congr {e:Env} {h h2:Heap}:∀{ps:List (Nat×Arg)},(∀i∈e.refsOf (temps2 ps),h2[i]? = h[i]?)→partsD e h2 ps=partsD e h ps
 | [],_=>rfl
 | (i,a)::r,g=>by
  simp only [partsD]
  cases ha:e.arg a with
  | none=>rfl
  | some v=>
   simp only [Option.bind_some]
   rw [toD_congr v fun j hj=>g j (by simp only [temps2,refsOf_append,List.mem_append]; exact .inl (arg_refs ha hj)),parts_congr fun j hj=>g j (by simp only [temps2,refsOf_append,List.mem_append]; exact .inr hj)]
end Pe

namespace Pe
open Go
theorem refss_get:∀{vs:List V} {j:Nat} {v:V},vs[j]? = some v→∀i∈v.refs,i∈V.refss vs
 | [],j,v,h,i,_=>by simp at h
 | w::vs,0,v,h,i,hi=>by simp at h; subst h; simp [V.refss,hi]
 | w::vs,j+1,v,h,i,hi=>by
  simp only [V.refss,List.mem_append]
  exact .inr (refss_get (by simpa using h) i hi)
theorem op_z {O:Oracle} {np:Nat} {e:Env} {h h':Heap} {p:Op} {v:V} (hc:p.cls=.z) (he:evalOp O np e h p=some (v,h')) :
 h'=h∧(∀h2,evalOp O np e h2 p=some (v,h2))∧∀i∈v.refs,i∈e.refsOf p.temps:=by
 cases p with
 | mv x=>
  simp only [evalOp] at he ⊢
  obtain ⟨u,hu,e1⟩:=Option.map_eq_some_iff.1 he
  simp only [Prod.mk.injEq] at e1
  obtain ⟨rfl,rfl⟩:=e1
  exact ⟨rfl,fun h2=>by rw [hu]; rfl,fun i hi=>arg_refs hu hi⟩
 | chk x=>
  simp only [evalOp] at he ⊢
  split at he
  ·rename_i hx
   simp only [Option.some.injEq,Prod.mk.injEq] at he
   obtain ⟨rfl,rfl⟩:=he
   exact ⟨rfl,fun h2=>rfl,fun i hi=>arg_refs hx hi⟩
  ·rename_i hx
   simp only [Option.some.injEq,Prod.mk.injEq] at he
   obtain ⟨rfl,rfl⟩:=he
   exact ⟨rfl,fun h2=>rfl,fun i hi=>arg_refs hx hi⟩
  ·cases he
 | pick c a b=>
  simp only [evalOp] at he ⊢
  split at he
  ·rename_i t hc
   obtain ⟨u,hu,e1⟩:=Option.map_eq_some_iff.1 he
   simp only [Prod.mk.injEq] at e1
   obtain ⟨rfl,rfl⟩:=e1
   refine ⟨rfl,fun h2=>by rw [hu]; rfl,fun i hi=>?_⟩
   simp only [Op.temps,refsOf_append,List.mem_append]
   cases t
   ·exact .inr (arg_refs hu hi)
   ·exact .inl (.inr (arg_refs hu hi))
  ·cases he
 | bin o x y=>
  simp only [evalOp] at he ⊢
  split at he
  ·rename_i hx hy
   obtain ⟨u,hu,e1⟩:=Option.map_eq_some_iff.1 he
   simp only [Prod.mk.injEq] at e1
   obtain ⟨rfl,rfl⟩:=e1
   exact ⟨rfl,fun h2=>by rw [hu]; rfl,fun i hi=>by simp [V.refs] at hi⟩
  ·cases he
 | eqv neg q x y=>
  simp only [evalOp] at he ⊢
  split at he
  ·rename_i hx hy
   obtain ⟨u,hu,e1⟩:=Option.map_eq_some_iff.1 he
   simp only [Prod.mk.injEq] at e1
   obtain ⟨rfl,rfl⟩:=e1
   exact ⟨rfl,fun h2=>by rw [hu]; rfl,fun i hi=>by simp [V.refs] at hi⟩
  ·cases he
 | un o x=>
  simp only [evalOp] at he ⊢
  split at he
  ·obtain ⟨u,hu,e1⟩:=Option.map_eq_some_iff.1 he
   simp only [Prod.mk.injEq] at e1
   obtain ⟨rfl,rfl⟩:=e1
   exact ⟨rfl,fun h2=>by rw [hu]; rfl,fun i hi=>by simp [V.refs] at hi⟩
  ·cases he
 | conv k x=>
  simp only [evalOp] at he ⊢
  split at he
  ·simp only [Option.some.injEq,Prod.mk.injEq] at he
   obtain ⟨rfl,rfl⟩:=he
   exact ⟨rfl,fun h2=>rfl,fun i hi=>by simp [V.refs] at hi⟩
  ·cases he
 | fld ss x j=>
  simp only [evalOp] at he ⊢
  split at he
  ·split at he
   ·rename_i hs
    obtain ⟨u,hu,e1⟩:=Option.map_eq_some_iff.1 he
    simp only [Prod.mk.injEq] at e1
    obtain ⟨rfl,rfl⟩:=e1
    exact ⟨rfl,fun h2=>by rw [if_pos hs,hu]; rfl,fun i hi=>by simp [V.refs] at hi⟩
   ·cases he
  ·cases he
 | idx ar s x j=>
  cases ar with
  | none=>
   simp only [evalOp] at he ⊢
   split at he
   ·obtain ⟨u,hu,e1⟩:=Option.map_eq_some_iff.1 he
    simp only [Prod.mk.injEq] at e1
    obtain ⟨rfl,rfl⟩:=e1
    exact ⟨rfl,fun h2=>by rw [hu]; rfl,fun i hi=>by simp [V.refs] at hi⟩
   ·cases he
  | some n=>
   simp only [evalOp] at he ⊢
   split at he
   ·split at he
    ·rename_i hs
     obtain ⟨u,hu,e1⟩:=Option.map_eq_some_iff.1 he
     simp only [Prod.mk.injEq] at e1
     obtain ⟨rfl,rfl⟩:=e1
     exact ⟨rfl,fun h2=>by rw [if_pos hs,hu]; rfl,fun i hi=>by simp [V.refs] at hi⟩
    ·cases he
   ·cases he
 | ext x j=>
  simp only [evalOp] at he ⊢
  split at he
  ·obtain ⟨u,hu,e1⟩:=Option.map_eq_some_iff.1 he
   simp only [Prod.mk.injEq] at e1
   obtain ⟨rfl,rfl⟩:=e1
   exact ⟨rfl,fun h2=>by rw [hu]; rfl,fun i hi=>by simp [V.refs] at hi⟩
  ·rename_i vs hx
   obtain ⟨u,hu,e1⟩:=Option.map_eq_some_iff.1 he
   simp only [Prod.mk.injEq] at e1
   obtain ⟨rfl,rfl⟩:=e1
   exact ⟨rfl,fun h2=>by rw [hu]; rfl,fun i hi=>arg_refs hx (by simpa [V.refs] using refss_get hu i hi)⟩
  ·cases he
 | mkFn f xs ys=>
  simp only [evalOp] at he ⊢
  obtain ⟨us,hu,he⟩:=Option.bind_eq_some_iff.1 he
  obtain ⟨vs,hv,e1⟩:=Option.map_eq_some_iff.1 he
  simp only [Prod.mk.injEq] at e1
  obtain ⟨rfl,rfl⟩:=e1
  refine ⟨rfl,fun h2=>by rw [hu,Option.bind_some,hv]; rfl,fun i hi=>?_⟩
  simp only [V.refs,List.mem_append] at hi
  simp only [Op.temps,refsOf_append,List.mem_append]
  exact hi.imp (args_refs hu) (args_refs hv)
 | len str x=>
  cases str <;> simp only [evalOp] at he ⊢ <;> split at he <;> first
   | cases he; done
   | (simp only [Option.some.injEq,Prod.mk.injEq] at he
      obtain ⟨rfl,rfl⟩:=he
      exact ⟨rfl,fun h2=>rfl,fun i hi=>by simp [V.refs] at hi⟩)
 | maxI x y=>
  simp only [evalOp] at he ⊢
  split at he
  ·split at he
   ·rename_i hk
    simp only [Option.some.injEq,Prod.mk.injEq] at he
    obtain ⟨rfl,rfl⟩:=he
    exact ⟨rfl,fun h2=>by rw [if_pos hk],fun i hi=>by simp [V.refs] at hi⟩
   ·cases he
  ·cases he
 | minI x y=>
  simp only [evalOp] at he ⊢
  split at he
  ·split at he
   ·rename_i hk
    simp only [Option.some.injEq,Prod.mk.injEq] at he
    obtain ⟨rfl,rfl⟩:=he
    exact ⟨rfl,fun h2=>by rw [if_pos hk],fun i hi=>by simp [V.refs] at hi⟩
   ·cases he
  ·cases he
 | nilq neg x=>
  simp only [evalOp] at he ⊢
  split at he
  ·simp only [Option.some.injEq,Prod.mk.injEq] at he
   obtain ⟨rfl,rfl⟩:=he
   exact ⟨rfl,fun h2=>rfl,fun i hi=>by simp [V.refs] at hi⟩
  ·simp only [Option.some.injEq,Prod.mk.injEq] at he
   obtain ⟨rfl,rfl⟩:=he
   exact ⟨rfl,fun h2=>rfl,fun i hi=>by simp [V.refs] at hi⟩
  ·cases he
 | fail=>simp [evalOp] at he
 | call m news f xs=>cases m <;> simp [Op.cls] at hc
 | box fz i x=>cases fz <;> simp [Op.cls] at hc
 | build fz z ps=>cases fz <;> simp [Op.cls] at hc
 | buildSl fz i s z n ps=>cases fz <;> simp [Op.cls] at hc
 | store fz s x y=>cases fz <;> simp [Op.cls] at hc
 | nilOwn _ _=>simp [Op.cls] at hc
 | mkSl _ _ _ _ _ _=>simp [Op.cls] at hc
 | load _ _=>simp [Op.cls] at hc
 | cut _ _ _ _ _ _=>simp [Op.cls] at hc
 | fldA _ _ _=>simp [Op.cls] at hc
 | idxA _ _ _ _=>simp [Op.cls] at hc
 | append _ _ _ _ _=>simp [Op.cls] at hc
 | copy _ _ _=>simp [Op.cls] at hc
theorem callee_refs {e:Env} {f:Arg} {fv:V} {g:Nat×List V×List V} (hf:e.arg f=some fv) (hg:callee fv=some g):∀i,i∈V.refss g.2.1∨i∈V.refss g.2.2→i∈e.refsOf f.temps:=by
 have hd:∀ds:List D,V.refss (ds.map .d)=[]:=by
  intro ds
  induction ds with
  | nil=>simp [V.refss]
  | cons d ds ih=>simp [V.refss,V.refs,ih]
 intro i hi
 unfold callee at hg
 split at hg
 ·simp only [Option.some.injEq] at hg
  subst hg
  simp only [hd] at hi
  simp at hi
 ·simp only [Option.some.injEq] at hg
  subst hg
  exact arg_refs hf (by simpa [V.refs] using hi)
 ·cases hg
theorem refss_append (vs ws:List V):V.refss (vs++ws)=V.refss vs++V.refss ws:=by
 induction vs with
 | nil=>simp [V.refss]
 | cons v vs ih=>simp [V.refss,ih,List.append_assoc]
theorem op_r {O:Oracle} {np:Nat} {e:Env} {h h':Heap} {p:Op} {v:V} (hc:p.cls=.r) (he:evalOp O np e h p=some (v,h')) :
 h'=h∧(∀h2,(∀i∈e.refsOf p.temps,h2[i]? = h[i]?)→evalOp O np e h2 p=some (v,h2))∧∀i∈v.refs,i∈e.refsOf p.temps:=by
 have one:∀{x:Arg} {u:V} {i:Nat} {ts:List Nat},e.arg x=some u→i∈u.refs→(∀n∈x.temps,n∈ts)→i∈e.refsOf ts:=fun hu hi hs=>refsOf_sub hs (arg_refs hu hi)
 cases p with
 | load s x=>
  simp only [evalOp] at he ⊢
  split at he
  ·split at he
   ·rename_i hs
    simp only [Option.some.injEq,Prod.mk.injEq] at he
    obtain ⟨rfl,rfl⟩:=he
    exact ⟨rfl,fun h2 _=>by rw [if_pos hs],fun i hi=>by simp [V.refs] at hi⟩
   ·cases he
  ·rename_i i p hx
   obtain ⟨d,hd,he⟩:=Option.bind_eq_some_iff.1 he
   split at he
   ·rename_i hs
    simp only [Option.some.injEq,Prod.mk.injEq] at he
    obtain ⟨rfl,rfl⟩:=he
    exact ⟨rfl,fun h2 g=>by rw [g i (one hx (by simp [V.refs]) (fun n hn=>hn)),hd,Option.bind_some,if_pos hs],fun i hi=>by simp [V.refs] at hi⟩
   ·cases he
  ·cases he
 | cut ar s x lo hi mx=>
  have hxs:∀n∈x.temps,n∈(Op.cut ar s x lo hi mx).temps:=fun n hn=>by simp [Op.temps,hn]
  cases ar with
  | none=>
   simp only [evalOp] at he ⊢
   split at he
   ·obtain ⟨m,hm,he⟩:=Option.bind_eq_some_iff.1 he
    obtain ⟨b,hb,he⟩:=Option.bind_eq_some_iff.1 he
    obtain ⟨a,ha,he⟩:=Option.bind_eq_some_iff.1 he
    split at he
    ·rename_i hcc
     simp only [Option.some.injEq,Prod.mk.injEq] at he
     obtain ⟨rfl,rfl⟩:=he
     exact ⟨rfl,fun h2 _=>by simp only [hm,hb,ha,Option.bind_some]; rw [if_pos hcc],fun i hi=>by simp [V.refs] at hi⟩
    ·cases he
   ·rename_i i p off n cap hx
    obtain ⟨q,hq,he⟩:=Option.bind_eq_some_iff.1 he
    obtain ⟨m,hm,he⟩:=Option.bind_eq_some_iff.1 he
    obtain ⟨b,hb,he⟩:=Option.bind_eq_some_iff.1 he
    obtain ⟨a,ha,he⟩:=Option.bind_eq_some_iff.1 he
    split at he
    ·rename_i hcc
     simp only [Option.some.injEq,Prod.mk.injEq] at he
     obtain ⟨rfl,rfl⟩:=he
     have hii:=one hx (i:=i) (by simp [V.refs]) hxs
     exact ⟨rfl,fun h2 g=>by simp only [g i hii,hq,hm,hb,ha,Option.bind_some]; rw [if_pos hcc],fun j hj=>by simp only [V.refs,List.mem_singleton] at hj; subst hj; exact hii⟩
    ·cases he
   ·cases he
  | some n=>
   simp only [evalOp] at he ⊢
   split at he
   ·rename_i i p hx
    obtain ⟨q,hq,he⟩:=Option.bind_eq_some_iff.1 he
    split at he
    ·obtain ⟨m,hm,he⟩:=Option.bind_eq_some_iff.1 he
     obtain ⟨b,hb,he⟩:=Option.bind_eq_some_iff.1 he
     obtain ⟨a,ha,he⟩:=Option.bind_eq_some_iff.1 he
     split at he
     ·rename_i hcc
      simp only [Option.some.injEq,Prod.mk.injEq] at he
      obtain ⟨rfl,rfl⟩:=he
      have hii:=one hx (i:=i) (by simp [V.refs]) hxs
      exact ⟨rfl,fun h2 g=>by simp only [g i hii,hq,hm,hb,ha,Option.bind_some]; rw [if_pos hcc],fun j hj=>by simp only [V.refs,List.mem_singleton] at hj; subst hj; exact hii⟩
     ·cases he
    ·cases he
   ·obtain ⟨m,hm,he⟩:=Option.bind_eq_some_iff.1 he
    obtain ⟨b,hb,he⟩:=Option.bind_eq_some_iff.1 he
    obtain ⟨a,ha,he⟩:=Option.bind_eq_some_iff.1 he
    split at he
    ·rename_i hcc
     simp only [Option.some.injEq,Prod.mk.injEq] at he
     obtain ⟨rfl,rfl⟩:=he
     exact ⟨rfl,fun h2 _=>by simp only [hm,hb,ha,Option.bind_some]; rw [if_pos hcc],fun i hi=>by simp [V.refs] at hi⟩
    ·cases he
   ·cases he
 | fldA ss x j=>
  simp only [evalOp] at he ⊢
  split at he
  ·rename_i i p hx
   obtain ⟨d,hd,he⟩:=Option.bind_eq_some_iff.1 he
   have hii:=one hx (i:=i) (ts:=x.temps) (by simp [V.refs]) (fun n hn=>hn)
   split at he
   ·rename_i hs
    simp only [Option.some.injEq,Prod.mk.injEq] at he
    obtain ⟨rfl,rfl⟩:=he
    exact ⟨rfl,fun h2 g=>by rw [g i hii,hd,Option.bind_some,if_pos hs],fun j hj=>by simp only [V.refs,List.mem_singleton] at hj; subst hj; exact hii⟩
   ·cases he
  ·split at he
   ·rename_i hs
    obtain ⟨u,hu,e1⟩:=Option.map_eq_some_iff.1 he
    simp only [Prod.mk.injEq] at e1
    obtain ⟨rfl,rfl⟩:=e1
    exact ⟨rfl,fun h2 _=>by rw [if_pos hs,hu]; rfl,fun i hi=>by simp [V.refs] at hi⟩
   ·cases he
  ·cases he
 | idxA ar s x j=>
  have hxs:∀n∈x.temps,n∈(Op.idxA ar s x j).temps:=fun n hn=>by simp [Op.temps,hn]
  cases ar with
  | none=>
   simp only [evalOp] at he ⊢
   split at he
   ·rename_i i p off n cap k hx hk
    obtain ⟨d,hd,he⟩:=Option.bind_eq_some_iff.1 he
    have hii:=one hx (i:=i) (by simp [V.refs]) hxs
    split at he
    ·rename_i hs
     simp only [Option.some.injEq,Prod.mk.injEq] at he
     obtain ⟨rfl,rfl⟩:=he
     exact ⟨rfl,fun h2 g=>by rw [g i hii,hd,Option.bind_some,if_pos hs],fun j hj=>by simp only [V.refs,List.mem_singleton] at hj; subst hj; exact hii⟩
    ·cases he
   ·split at he
    ·rename_i hs
     obtain ⟨u,hu,e1⟩:=Option.map_eq_some_iff.1 he
     simp only [Prod.mk.injEq] at e1
     obtain ⟨rfl,rfl⟩:=e1
     exact ⟨rfl,fun h2 _=>by rw [if_pos hs,hu]; rfl,fun i hi=>by simp [V.refs] at hi⟩
    ·cases he
   ·cases he
  | some n=>
   simp only [evalOp] at he ⊢
   split at he
   ·rename_i i p k hx hk
    obtain ⟨d,hd,he⟩:=Option.bind_eq_some_iff.1 he
    have hii:=one hx (i:=i) (by simp [V.refs]) hxs
    split at he
    ·split at he
     ·rename_i hs
      simp only [Option.some.injEq,Prod.mk.injEq] at he
      obtain ⟨rfl,rfl⟩:=he
      exact ⟨rfl,fun h2 g=>by rw [g i hii,hd]; simp only [Option.bind_some]; rw [if_pos hs],fun j hj=>by simp only [V.refs,List.mem_singleton] at hj; subst hj; exact hii⟩
     ·cases he
    ·cases he
   ·split at he
    ·rename_i hs
     obtain ⟨u,hu,e1⟩:=Option.map_eq_some_iff.1 he
     simp only [Prod.mk.injEq] at e1
     obtain ⟨rfl,rfl⟩:=e1
     exact ⟨rfl,fun h2 _=>by rw [if_pos hs,hu]; rfl,fun i hi=>by simp [V.refs] at hi⟩
    ·cases he
   ·cases he
 | build fz z ps=>
  cases fz with
  | true=>simp [Op.cls] at hc
  | false=>
   simp only [evalOp] at he ⊢
   obtain ⟨xs,hx,he⟩:=Option.bind_eq_some_iff.1 he
   obtain ⟨h1,hf,he'⟩:=Option.bind_eq_some_iff.1 he
   clear he
   have hh:∀h2,freezeIf false h2 (partsRefs e ps)=some h2:=by
    intro h2
    unfold freezeIf at hf ⊢
    simp only [Bool.false_eq_true,if_false] at hf ⊢
    split at hf
    ·rename_i hr; rw [if_pos hr]
    ·cases hf
   have heq:h1=h:=Option.some.inj (hf.symm.trans (hh h))
   rw [heq] at he'
   split at he'
   ·obtain ⟨cs,hcs,e1⟩:=Option.map_eq_some_iff.1 he'
    simp only [Prod.mk.injEq] at e1
    obtain ⟨rfl,rfl⟩:=e1
    exact ⟨rfl,fun h2 g=>by rw [parts_congr g,hx,Option.bind_some,hh h2,Option.bind_some]; simp only [hcs,Option.map_some],fun i hi=>by simp [V.refs] at hi⟩
   ·obtain ⟨cs,hcs,e1⟩:=Option.map_eq_some_iff.1 he'
    simp only [Prod.mk.injEq] at e1
    obtain ⟨rfl,rfl⟩:=e1
    exact ⟨rfl,fun h2 g=>by rw [parts_congr g,hx,Option.bind_some,hh h2,Option.bind_some]; simp only [hcs,Option.map_some],fun i hi=>by simp [V.refs] at hi⟩
   ·cases he'
 | call m news f xs=>
  simp only [evalOp] at he ⊢
  obtain ⟨fv,hf,he⟩:=Option.bind_eq_some_iff.1 he
  obtain ⟨g,hg,he⟩:=Option.bind_eq_some_iff.1 he
  obtain ⟨vs,hv,he⟩:=Option.bind_eq_some_iff.1 he
  have hr:∀i∈V.refss (g.2.1++vs++g.2.2),i∈e.refsOf (Op.call m news f xs).temps:=by
   intro i hi
   simp only [refss_append,List.mem_append] at hi
   simp only [Op.temps,refsOf_append,List.mem_append]
   rcases hi with (hi | hi) | hi
   ·exact .inl (callee_refs hf hg i (.inl hi))
   ·exact .inr (args_refs hv hi)
   ·exact .inl (callee_refs hf hg i (.inr hi))
  cases m with
  | flat=>
   simp only [callPure] at he ⊢
   obtain ⟨ds,hds,he⟩:=Option.bind_eq_some_iff.1 he
   obtain ⟨ans,hans,he⟩:=Option.bind_eq_some_iff.1 he
   obtain ⟨x,hx,he⟩:=Option.bind_eq_some_iff.1 he
   split at he
   ·rename_i hfl
    simp only [Option.some.injEq,Prod.mk.injEq] at he
    obtain ⟨rfl,rfl⟩:=he
    refine ⟨rfl,fun h2 gg=>?_,fun i hi=>by simp [V.refs] at hi⟩
    simp only [hf,hg,hv,Option.bind_some]
    rw [toDs_congr _ fun i hi=>gg i (hr i hi),hds,Option.bind_some,hans,Option.bind_some,hx,Option.bind_some,if_pos hfl]
   ·cases he
  | plain=>
   simp only [callPure] at he ⊢
   obtain ⟨ds,hds,he⟩:=Option.bind_eq_some_iff.1 he
   obtain ⟨ans,hans,he⟩:=Option.bind_eq_some_iff.1 he
   obtain ⟨x,hx,he⟩:=Option.bind_eq_some_iff.1 he
   split at he
   ·rename_i hfl
    simp only [Option.some.injEq,Prod.mk.injEq] at he
    obtain ⟨rfl,rfl⟩:=he
    refine ⟨rfl,fun h2 gg=>?_,fun i hi=>by simp [V.refs] at hi⟩
    simp only [hf,hg,hv,Option.bind_some]
    rw [toDs_congr _ fun i hi=>gg i (hr i hi),hds,Option.bind_some,hans,Option.bind_some,hx,Option.bind_some,if_pos hfl]
   ·cases he
  | data=>simp [Op.cls] at hc
  | heap=>simp [Op.cls] at hc
 | box fz i x=>cases fz <;> simp [Op.cls] at hc
 | buildSl fz i s z n ps=>cases fz <;> simp [Op.cls] at hc
 | store fz s x y=>cases fz <;> simp [Op.cls] at hc
 | _=>simp [Op.cls] at hc
end Pe

namespace Pe
open Go
theorem freezeIf_false {h h1:Heap} {is:List Nat} (hf:freezeIf false h is=some h1):is=[]∧h1=h:=by
 unfold freezeIf at hf
 simp only [Bool.false_eq_true,if_false] at hf
 split at hf
 ·rename_i he
  exact ⟨by simpa using he,(Option.some.inj hf).symm⟩
 ·cases hf
theorem partsRefs_sub {e:Env}:∀{ps:List (Nat×Arg)} {i:Nat},i∈partsRefs e ps→i∈e.refsOf (temps2 ps)
 | [],i,h=>by simp [partsRefs] at h
 | (k,a)::r,i,h=>by
  simp only [partsRefs,List.mem_append] at h
  simp only [temps2,refsOf_append,List.mem_append]
  refine h.imp (fun h=>?_) partsRefs_sub
  split at h
  ·rename_i v hv; exact arg_refs hv h
  ·simp at h
theorem parts_nil {e:Env} {h h2:Heap}:∀{ps:List (Nat×Arg)},partsRefs e ps=[]→partsD e h2 ps=partsD e h ps
 | [],_=>rfl
 | (k,a)::r,g=>by
  simp only [partsRefs,List.append_eq_nil_iff] at g
  simp only [partsD]
  cases ha:e.arg a with
  | none=>rfl
  | some v=>
   have hv:v.refs=[]:=by simpa [ha] using g.1
   simp only [Option.bind_some]
   rw [toD_congr v (h:=h) (h2:=h2) (by simp [hv]),parts_nil g.2]
theorem op_a {O:Oracle} {np:Nat} {e:Env} {h h':Heap} {p:Op} {v:V} (hc:p.cls=.a) (he:evalOp O np e h p=some (v,h')) :
 ∃j b,p.news=[j]∧h[np+j]? = some .hole∧b≠Blk.hole∧h'=h.set (np+j) b∧(∀h2:Heap,h2[np+j]? = some .hole→evalOp O np e h2 p=some (v,h2.set (np+j) b))∧∀i∈v.refs,i=np+j:=by
 have put:∀{h2:Heap} {i:Nat} {b:Blk},h2[i]? = some .hole→putBlk h2 i b=some (h2.set i b):=fun hh=>by simp [putBlk,hh]
 cases p with
 | nilOwn i s=>
  simp only [evalOp] at he ⊢
  obtain ⟨h1,hp,e1⟩:=Option.map_eq_some_iff.1 he
  simp only [Prod.mk.injEq] at e1
  obtain ⟨rfl,rfl⟩:=e1
  obtain ⟨hi,rfl⟩:=putBlk_some hp
  exact ⟨i,_,rfl,hi,by simp,rfl,fun h2 hh=>by rw [put hh]; rfl,fun j hj=>by simpa [V.refs] using hj⟩
 | mkSl i s z bytes x y=>
  simp only [evalOp] at he ⊢
  split at he
  ·split at he
   ·rename_i hcc
    obtain ⟨h1,hp,e1⟩:=Option.map_eq_some_iff.1 he
    simp only [Prod.mk.injEq] at e1
    obtain ⟨rfl,rfl⟩:=e1
    obtain ⟨hi,rfl⟩:=putBlk_some hp
    exact ⟨i,_,rfl,hi,by simp,rfl,fun h2 hh=>by rw [if_pos hcc,put hh]; rfl,fun j hj=>by simpa [V.refs] using hj⟩
   ·cases he
  ·cases he
 | box fz i x=>
  cases fz with
  | true=>simp [Op.cls] at hc
  | false=>
   simp only [evalOp] at he ⊢
   obtain ⟨u,hu,he1⟩:=Option.bind_eq_some_iff.1 he
   obtain ⟨d,hd,he2⟩:=Option.bind_eq_some_iff.1 he1
   obtain ⟨h1,hf,he3⟩:=Option.bind_eq_some_iff.1 he2
   obtain ⟨h2,hp,e1⟩:=Option.map_eq_some_iff.1 he3
   clear he he1 he2 he3
   simp only [Prod.mk.injEq] at e1
   obtain ⟨rfl,rfl⟩:=e1
   obtain ⟨hr,rfl⟩:=freezeIf_false hf
   obtain ⟨hi,rfl⟩:=putBlk_some hp
   refine ⟨i,_,rfl,hi,by simp,rfl,fun h2 hh=>?_,fun j hj=>by simpa [V.refs] using hj⟩
   have:toD1 h2 u=some d:=by
    unfold toD1 at hd ⊢
    rw [toD_congr u (h:=h1) (h2:=h2) (by simp [hr])]; exact hd
   rw [hu,Option.bind_some,this,Option.bind_some,hr]
   simp only [freezeIf,Bool.false_eq_true,if_false,List.isEmpty_nil,if_true,Option.bind_some]
   rw [put hh]; rfl
 | buildSl fz i s z n ps=>
  cases fz with
  | true=>simp [Op.cls] at hc
  | false=>
   simp only [evalOp] at he ⊢
   obtain ⟨xs,hx,he1⟩:=Option.bind_eq_some_iff.1 he
   obtain ⟨cs,hcs,he2⟩:=Option.bind_eq_some_iff.1 he1
   obtain ⟨h1,hf,he3⟩:=Option.bind_eq_some_iff.1 he2
   obtain ⟨h2,hp,e1⟩:=Option.map_eq_some_iff.1 he3
   clear he he1 he2 he3
   simp only [Prod.mk.injEq] at e1
   obtain ⟨rfl,rfl⟩:=e1
   obtain ⟨hr,rfl⟩:=freezeIf_false hf
   obtain ⟨hi,rfl⟩:=putBlk_some hp
   refine ⟨i,_,rfl,hi,by simp,rfl,fun h2 hh=>?_,fun j hj=>by simpa [V.refs] using hj⟩
   rw [parts_nil (h:=h1) (h2:=h2) hr,hx,Option.bind_some,hcs,Option.bind_some,hr]
   simp only [freezeIf,Bool.false_eq_true,if_false,List.isEmpty_nil,if_true,Option.bind_some]
   rw [put hh]; rfl
 | build fz _ _=>cases fz <;> simp [Op.cls] at hc
 | store fz _ _ _=>cases fz <;> simp [Op.cls] at hc
 | call m _ _ _=>cases m <;> simp [Op.cls] at hc
 | _=>simp [Op.cls] at hc
theorem Blk.set_nh {b b':Blk} {p:List Nat} {d:D} (h:b.set p d=some b'):b'≠.hole:=by
 cases b with
 | hole=>simp [Blk.set] at h
 | box fr x=>
  cases fr
  ·simp only [Blk.set] at h
   obtain ⟨y,_,rfl⟩:=Option.map_eq_some_iff.1 h
   simp
  ·simp [Blk.set] at h
 | sl fr s cs=>
  cases fr
  ·cases p with
   | nil=>simp [Blk.set] at h
   | cons i p=>
    simp only [Blk.set] at h
    obtain ⟨c,_,h⟩:=Option.bind_eq_some_iff.1 h
    obtain ⟨y,_,rfl⟩:=Option.map_eq_some_iff.1 h
    simp
  ·cases p <;> simp [Blk.set] at h
theorem op_s {O:Oracle} {np:Nat} {e:Env} {h h':Heap} {p:Op} {v:V} (hc:p.cls=.s) (he:evalOp O np e h p=some (v,h')) :
 ∃i b,i∈e.refsOf p.temps∧b≠Blk.hole∧h'=h.set i b∧(∀h2:Heap,(∀i∈e.refsOf p.temps,h2[i]? = h[i]?)→evalOp O np e h2 p=some (v,h2.set i b))∧v.refs=[]:=by
 cases p with
 | store fz s x y=>
  cases fz with
  | true=>simp [Op.cls] at hc
  | false=>
   simp only [evalOp] at he ⊢
   obtain ⟨u,hu,he1⟩:=Option.bind_eq_some_iff.1 he
   obtain ⟨d,hd,he2⟩:=Option.bind_eq_some_iff.1 he1
   obtain ⟨h1,hf,he3⟩:=Option.bind_eq_some_iff.1 he2
   clear he he1 he2
   obtain ⟨hr,rfl⟩:=freezeIf_false hf
   split at he3
   ·rename_i i p hp
    split at he3
    ·rename_i hs
     obtain ⟨b,hb,he4⟩:=Option.bind_eq_some_iff.1 he3
     obtain ⟨b',hb',e1⟩:=Option.map_eq_some_iff.1 he4
     simp only [Prod.mk.injEq] at e1
     obtain ⟨rfl,rfl⟩:=e1
     have hi:i∈e.refsOf (Op.store false s x y).temps:=by
      simp only [Op.temps,refsOf_append,List.mem_append]
      exact .inl (arg_refs hp (by simp [V.refs]))
     refine ⟨i,b',hi,Blk.set_nh hb',rfl,fun h2 g=>?_,by simp [V.refs,V.refss]⟩
     have hd2:toD1 h2 u=some d:=by
      unfold toD1 at hd ⊢
      rw [toD_congr u (h:=h1) (h2:=h2) (by simp [hr])]; exact hd
     rw [hu,Option.bind_some,hd2,Option.bind_some,hr]
     simp only [freezeIf,Bool.false_eq_true,if_false,List.isEmpty_nil,if_true,Option.bind_some]
     rw [g i hi,hb,Option.bind_some,hb',if_pos hs]; rfl
    ·cases he3
   ·cases he3
 | box fz _ _=>cases fz <;> simp [Op.cls] at hc
 | buildSl fz _ _ _ _ _=>cases fz <;> simp [Op.cls] at hc
 | build fz _ _=>cases fz <;> simp [Op.cls] at hc
 | call m _ _ _=>cases m <;> simp [Op.cls] at hc
 | _=>simp [Op.cls] at hc
def Laid (h:Heap) (i:Nat):Prop:=∃B:Blk,h[i]? = some B∧B≠.hole
theorem Laid.set {h:Heap} {i j:Nat} {b:Blk} (hb:b≠.hole) (g:Laid h i):Laid (h.set j b) i:=by
 obtain ⟨B,hB,hn⟩:=g
 by_cases hij:j=i
 ·subst hij
  exact ⟨b,List.getElem?_set_self (List.getElem?_eq_some_iff.1 hB).1,hb⟩
 ·exact ⟨B,by rw [List.getElem?_set_ne hij]; exact hB,hn⟩
theorem Laid.new {h:Heap} {j:Nat} {b:Blk} (hb:b≠.hole) (g:h[j]? = some .hole):Laid (h.set j b) j:=
 ⟨b,List.getElem?_set_self (List.getElem?_eq_some_iff.1 g).1,hb⟩
theorem Laid.freeze {h:Heap} {i:Nat} (is:List Nat) (g:Laid h i):Laid (freeze h is) i:=by
 obtain ⟨B,hB,hn⟩:=g
 by_cases hi:i∈is
 ·exact ⟨B.freeze,by rw [freeze_get,if_pos hi,hB]; rfl,fun e=>hn (Blk.freeze_hole e)⟩
 ·exact ⟨B,by rw [freeze_get,if_neg hi]; exact hB,hn⟩
theorem Laid.freezeIf {h h1:Heap} {i:Nat} {fz:Bool} {is:List Nat} (hf:freezeIf fz h is=some h1) (g:Laid h i):Laid h1 i:=by
 cases fz with
 | false=>rw [(freezeIf_false hf).2]; exact g
 | true=>
  simp only [Pe.freezeIf,if_true,Option.some.injEq] at hf
  subst hf; exact g.freeze is
theorem put_laid:∀{is:List Nat} {bs:Heap} {h h':Heap},h.put is bs=some h'→∀i,Laid h i→Laid h' i
 | [],[],h,h',e,i,g=>by simp only [Heap.put,Option.some.injEq] at e; subst e; exact g
 | j::is,b::bs,h,h',e,i,g=>by
  simp only [Heap.put] at e
  split at e
  ·cases e
  ·rename_i hb
   exact put_laid e i (g.set (by rintro rfl; simp [Blk.isHole] at hb))
 | [],_::_,_,_,e,_,_=>by simp [Heap.put] at e
 | _::_,[],_,_,e,_,_=>by simp [Heap.put] at e
theorem putNews_laid:∀{is:List Nat} {bs:Heap} {h h':Heap},putNews h is bs=some h'→bs.length≤is.length∧(∀i,Laid h i→Laid h' i)∧∀(k j:Nat),k<bs.length→is[k]? = some j→Laid h' j
 | is,[],h,h',e=>by
  cases is <;> simp only [putNews,Option.some.injEq] at e <;> subst e <;> exact ⟨by simp,fun _ g=>g,fun k j hk=>by simp at hk⟩
 | j::is,b::bs,h,h',e=>by
  simp only [putNews] at e
  split at e
  ·cases e
  ·rename_i hb
   have hb':b≠.hole:=by rintro rfl; simp [Blk.isHole] at hb
   obtain ⟨h0,e0,e⟩:=Option.bind_eq_some_iff.1 e
   obtain ⟨hj,rfl⟩:=putBlk_some e0
   obtain ⟨h1,h2,h3⟩:=putNews_laid e
   refine ⟨by simpa using h1,fun i g=>h2 i (g.set hb'),fun k i hk hi=>?_⟩
   cases k with
   | zero=>
    simp only [List.getElem?_cons_zero,Option.some.injEq] at hi
    subst hi
    exact h2 _ (.new hb' hj)
   | succ k=>exact h3 k i (by simpa using hk) (by simpa using hi)
 | [],_::_,_,_,e=>by simp [putNews] at e
theorem op_laid_x {O:Oracle} {np:Nat} {e:Env} {h h':Heap} {p:Op} {v:V} (hc:p.cls=.x∨p.cls=.w) (he:evalOp O np e h p=some (v,h')) (hp:∀i∈e.refsOf p.temps,Laid h i) :
 (∀i,Laid h i→Laid h' i)∧∀i∈v.refs,Laid h' i:=by
 cases p with
 | box fz i x=>
  simp only [evalOp] at he
  obtain ⟨u,hu,he⟩:=Option.bind_eq_some_iff.1 he
  obtain ⟨d,hd,he⟩:=Option.bind_eq_some_iff.1 he
  obtain ⟨h1,hf,he⟩:=Option.bind_eq_some_iff.1 he
  obtain ⟨h2,hpb,e1⟩:=Option.map_eq_some_iff.1 he
  simp only [Prod.mk.injEq] at e1
  obtain ⟨rfl,rfl⟩:=e1
  obtain ⟨hi,rfl⟩:=putBlk_some hpb
  refine ⟨fun _ g=>(g.freezeIf hf).set (by simp),fun j hj=>?_⟩
  simp only [V.refs,List.mem_singleton] at hj
  subst hj
  exact .new (by simp) hi
 | build fz z ps=>
  simp only [evalOp] at he
  obtain ⟨xs,hx,he⟩:=Option.bind_eq_some_iff.1 he
  obtain ⟨h1,hf,he⟩:=Option.bind_eq_some_iff.1 he
  split at he
  ·obtain ⟨cs,hcs,e1⟩:=Option.map_eq_some_iff.1 he
   simp only [Prod.mk.injEq] at e1
   obtain ⟨rfl,rfl⟩:=e1
   exact ⟨fun _ g=>g.freezeIf hf,fun j hj=>by simp [V.refs] at hj⟩
  ·obtain ⟨cs,hcs,e1⟩:=Option.map_eq_some_iff.1 he
   simp only [Prod.mk.injEq] at e1
   obtain ⟨rfl,rfl⟩:=e1
   exact ⟨fun _ g=>g.freezeIf hf,fun j hj=>by simp [V.refs] at hj⟩
  ·cases he
 | buildSl fz i s z n ps=>
  simp only [evalOp] at he
  obtain ⟨xs,hx,he⟩:=Option.bind_eq_some_iff.1 he
  obtain ⟨cs,hcs,he⟩:=Option.bind_eq_some_iff.1 he
  obtain ⟨h1,hf,he⟩:=Option.bind_eq_some_iff.1 he
  obtain ⟨h2,hpb,e1⟩:=Option.map_eq_some_iff.1 he
  simp only [Prod.mk.injEq] at e1
  obtain ⟨rfl,rfl⟩:=e1
  obtain ⟨hi,rfl⟩:=putBlk_some hpb
  refine ⟨fun _ g=>(g.freezeIf hf).set (by simp),fun j hj=>?_⟩
  simp only [V.refs,List.mem_singleton] at hj
  subst hj
  exact .new (by simp) hi
 | store fz s x y=>
  simp only [evalOp] at he
  obtain ⟨u,hu,he⟩:=Option.bind_eq_some_iff.1 he
  obtain ⟨d,hd,he⟩:=Option.bind_eq_some_iff.1 he
  obtain ⟨h1,hf,he⟩:=Option.bind_eq_some_iff.1 he
  split at he
  ·split at he
   ·obtain ⟨b,hb,he⟩:=Option.bind_eq_some_iff.1 he
    obtain ⟨b',hb',e1⟩:=Option.map_eq_some_iff.1 he
    simp only [Prod.mk.injEq] at e1
    obtain ⟨rfl,rfl⟩:=e1
    exact ⟨fun _ g=>(g.freezeIf hf).set (Blk.set_nh hb'),fun j hj=>by simp [V.refs,V.refss] at hj⟩
   ·cases he
  ·cases he
 | append s i bytes x y=>
  simp only [evalOp] at he
  obtain ⟨w,hw,he⟩:=Option.bind_eq_some_iff.1 he
  obtain ⟨d,hd,he⟩:=Option.bind_eq_some_iff.1 he
  split at he
  ·rename_i sh1 ys j off n cap hxe
   split at he
   ·rename_i fr sh2 cs hB
    split at he
    ·split at he
     ·simp only [Option.some.injEq,Prod.mk.injEq] at he
      obtain ⟨rfl,rfl⟩:=he
      refine ⟨fun _ g=>g.set (by simp),fun k hk=>?_⟩
      simp only [V.refs,List.mem_singleton] at hk
      subst hk
      exact Laid.set (by simp) ⟨_,hB,by simp⟩
     ·split at he
      ·obtain ⟨h2,hpb,e1⟩:=Option.map_eq_some_iff.1 he
       simp only [Prod.mk.injEq] at e1
       obtain ⟨rfl,rfl⟩:=e1
       obtain ⟨hi,rfl⟩:=putBlk_some hpb
       refine ⟨fun _ g=>g.set (by simp),fun k hk=>?_⟩
       simp only [V.refs,List.mem_singleton] at hk
       subst hk
       exact .new (by simp) hi
      ·cases he
    ·cases he
   ·cases he
  ·split at he
   ·obtain ⟨h2,hpb,e1⟩:=Option.map_eq_some_iff.1 he
    simp only [Prod.mk.injEq] at e1
    obtain ⟨rfl,rfl⟩:=e1
    obtain ⟨hi,rfl⟩:=putBlk_some hpb
    refine ⟨fun _ g=>g.set (by simp),fun k hk=>?_⟩
    simp only [V.refs,List.mem_singleton] at hk
    subst hk
    exact .new (by simp) hi
   ·cases he
  ·cases he
 | copy s x y=>
  simp only [evalOp] at he
  obtain ⟨w,hw,he⟩:=Option.bind_eq_some_iff.1 he
  obtain ⟨d,hd,he⟩:=Option.bind_eq_some_iff.1 he
  split at he
  ·split at he
   ·split at he
    ·simp only [Option.some.injEq,Prod.mk.injEq] at he
     obtain ⟨rfl,rfl⟩:=he
     exact ⟨fun _ g=>g.set (by simp),fun k hk=>by simp [V.refs] at hk⟩
    ·cases he
   ·cases he
  ·cases he
 | call m news f xs=>
  simp only [evalOp] at he
  obtain ⟨fv,hf,he⟩:=Option.bind_eq_some_iff.1 he
  obtain ⟨g,hg,he⟩:=Option.bind_eq_some_iff.1 he
  obtain ⟨vs,hv,he⟩:=Option.bind_eq_some_iff.1 he
  have hr:∀i∈V.refss (g.2.1++vs++g.2.2),Laid h i:=by
   intro i hi
   apply hp
   simp only [refss_append,List.mem_append] at hi
   simp only [Op.temps,refsOf_append,List.mem_append]
   rcases hi with (hi | hi) | hi
   ·exact .inl (callee_refs hf hg i (.inl hi))
   ·exact .inr (args_refs hv hi)
   ·exact .inl (callee_refs hf hg i (.inr hi))
  cases m with
  | flat=>simp [Op.cls] at hc
  | plain=>simp [Op.cls] at hc
  | data=>
   simp only [callPure] at he
   obtain ⟨ds,hds,he⟩:=Option.bind_eq_some_iff.1 he
   obtain ⟨ans,hans,he⟩:=Option.bind_eq_some_iff.1 he
   obtain ⟨x,hx,he⟩:=Option.bind_eq_some_iff.1 he
   simp only [Option.some.injEq,Prod.mk.injEq] at he
   obtain ⟨rfl,rfl⟩:=he
   exact ⟨fun _ g=>g.freeze _,fun k hk=>by simp [V.refs] at hk⟩
  | heap=>
   simp only [callHeap] at he
   obtain ⟨bs,hbs,he⟩:=Option.bind_eq_some_iff.1 he
   obtain ⟨ans,hans,he⟩:=Option.bind_eq_some_iff.1 he
   obtain ⟨h1,hh1,he⟩:=Option.bind_eq_some_iff.1 he
   obtain ⟨h2,hh2,he⟩:=Option.bind_eq_some_iff.1 he
   split at he
   case isFalse=>cases he
   rename_i hall
   simp only [Option.some.injEq,Prod.mk.injEq] at he
   obtain ⟨rfl,rfl⟩:=he
   obtain ⟨n1,n2,n3⟩:=putNews_laid hh2
   refine ⟨fun i g=>n2 i (put_laid hh1 i g),fun i hi=>?_⟩
   rw [V.ren_refs,List.mem_map] at hi
   obtain ⟨k,hk,rfl⟩:=hi
   have hkl:=List.all_eq_true.1 hall k hk
   simp only [decide_eq_true_eq] at hkl
   by_cases h0:k<(once (V.refss (g.2.1++vs++g.2.2))).length
   ·rw [if_pos h0]
    have hm:(once (V.refss (g.2.1++vs++g.2.2))).getD k 0∈once (V.refss (g.2.1++vs++g.2.2)):=by
     rw [List.getD_eq_getElem?_getD,List.getElem?_eq_getElem h0]; exact List.getElem_mem h0
    exact n2 _ (put_laid hh1 _ (hr _ (once_mem.1 hm)))
   ·rw [if_neg h0]
    have h2:k-(once (V.refss (g.2.1++vs++g.2.2))).length<ans.2.2.length:=by omega
    refine n3 _ _ h2 ?_
    rw [List.getD_eq_getElem?_getD,List.getElem?_eq_getElem (by omega)]
    rfl
 | _=>simp [Op.cls] at hc
theorem op_laid {O:Oracle} {np:Nat} {e:Env} {h h':Heap} {p:Op} {v:V} (he:evalOp O np e h p=some (v,h')) (hp:∀i∈e.refsOf p.temps,Laid h i) :
 (∀i,Laid h i→Laid h' i)∧∀i∈v.refs,Laid h' i:=by
 cases hc:p.cls with
 | z=>
  obtain ⟨rfl,_,h3⟩:=op_z hc he
  exact ⟨fun _ g=>g,fun i hi=>hp i (h3 i hi)⟩
 | r=>
  obtain ⟨rfl,_,h3⟩:=op_r hc he
  exact ⟨fun _ g=>g,fun i hi=>hp i (h3 i hi)⟩
 | a=>
  obtain ⟨j,b,_,hj,hb,rfl,_,h3⟩:=op_a hc he
  exact ⟨fun _ g=>g.set hb,fun i hi=>by rw [h3 i hi]; exact .new hb hj⟩
 | s=>
  obtain ⟨j,b,_,hb,rfl,_,h3⟩:=op_s hc he
  exact ⟨fun _ g=>g.set hb,fun i hi=>by rw [h3] at hi; simp at hi⟩
 | w=>exact op_laid_x (.inr hc) he hp
 | x=>exact op_laid_x (.inl hc) he hp
end Pe

namespace Pe
open Go
structure Par (W:List Nat) (h h2 g g2:Heap):Prop where
 on:∀i∈W,g2[i]? = g[i]?
 off1:∀i,i ∉ W→g[i]? = h[i]?
 off2:∀i,i ∉ W→g2[i]? = h2[i]?
 len:g.length=h.length
theorem Par.start {W:List Nat} {h h2:Heap} (a:∀i∈W,h2[i]? = h[i]?):Par W h h2 h h2:=⟨a,fun _ _=>rfl,fun _ _=>rfl,rfl⟩
theorem freeze_len:∀(is:List Nat) (h:Heap),(freeze h is).length=h.length
 | [],_=>rfl
 | i::is,h=>by
  unfold freeze
  rw [freeze_len is,List.length_modify]
theorem Par.freeze {W is:List Nat} {h h2 g g2:Heap} (p:Par W h h2 g g2) (hs:∀i∈is,i∈W):Par W h h2 (Pe.freeze g is) (Pe.freeze g2 is) where
 on i hi:=by rw [freeze_get,freeze_get,p.on i hi]
 off1 i hi:=by rw [freeze_get,if_neg fun k=>hi (hs i k),p.off1 i hi]
 off2 i hi:=by rw [freeze_get,if_neg fun k=>hi (hs i k),p.off2 i hi]
 len:=(freeze_len is g).trans p.len
theorem lt_iff_of {g g2:Heap} {j:Nat} (h:g2[j]? = g[j]?):j<g2.length↔j<g.length:=by
 have h1:=List.getElem?_eq_none_iff (l:=g) (i:=j)
 have h2:=List.getElem?_eq_none_iff (l:=g2) (i:=j)
 rw [h] at h2
 have h3:=h1.symm.trans h2
 omega
theorem Par.set {W:List Nat} {h h2 g g2:Heap} (p:Par W h h2 g g2) {j:Nat} (hj:j∈W) (b:Blk):Par W h h2 (g.set j b) (g2.set j b) where
 on i hi:=by
  by_cases hij:j=i
  ·subst hij
   have hl:=lt_iff_of (p.on j hj)
   by_cases hk:j<g.length
   ·rw [List.getElem?_set_self hk,List.getElem?_set_self (hl.2 hk)]
   ·rw [List.getElem?_eq_none (by rw [List.length_set]; omega),List.getElem?_eq_none (by rw [List.length_set]; omega)]
  ·rw [List.getElem?_set_ne hij,List.getElem?_set_ne hij,p.on i hi]
 off1 i hi:=by rw [List.getElem?_set_ne (by rintro rfl; exact hi hj),p.off1 i hi]
 off2 i hi:=by rw [List.getElem?_set_ne (by rintro rfl; exact hi hj),p.off2 i hi]
 len:=by rw [List.length_set,p.len]
theorem put_of_hole {g:Heap} {i:Nat} {b:Blk} (hh:g[i]? = some .hole):putBlk g i b=some (g.set i b):=by simp [putBlk,hh]
theorem Par.put {W:List Nat} {h h2:Heap}:∀{is:List Nat} {bs g g2 g1:Heap},Par W h h2 g g2→(∀i∈is,i∈W)→g.put is bs=some g1→∃g3,g2.put is bs=some g3∧Par W h h2 g1 g3
 | [],[],g,g2,g1,p,_,e=>by
  simp only [Heap.put,Option.some.injEq] at e ⊢
  subst e
  exact ⟨_,rfl,p⟩
 | i::is,b::bs,g,g2,g1,p,hs,e=>by
  simp only [Heap.put] at e ⊢
  split at e
  ·cases e
  ·rename_i hb
   rw [if_neg hb]
   exact Par.put (p.set (hs i (by simp)) b) (fun j hj=>hs j (by simp [hj])) e
 | [],_::_,_,_,_,_,_,e=>by simp [Heap.put] at e
 | _::_,[],_,_,_,_,_,e=>by simp [Heap.put] at e
theorem Par.putNews {W:List Nat} {h h2:Heap}:∀{is:List Nat} {bs g g2 g1:Heap},Par W h h2 g g2→(∀i∈is.take bs.length,i∈W)→putNews g is bs=some g1→∃g3,putNews g2 is bs=some g3∧Par W h h2 g1 g3
 | is,[],g,g2,g1,p,_,e=>by
  cases is <;> simp only [Pe.putNews,Option.some.injEq] at e ⊢ <;> subst e <;> exact ⟨_,rfl,p⟩
 | i::is,b::bs,g,g2,g1,p,hs,e=>by
  simp only [Pe.putNews] at e ⊢
  split at e
  ·cases e
  ·rename_i hb
   rw [if_neg hb]
   obtain ⟨g0,e0,e⟩:=Option.bind_eq_some_iff.1 e
   obtain ⟨hj,rfl⟩:=putBlk_some e0
   have hi:i∈W:=hs i (by simp)
   rw [put_of_hole ((p.on i hi).trans hj),Option.bind_some]
   exact Par.putNews (p.set hi b) (fun j hj=>hs j (by simp [hj])) e
 | [],_::_,_,_,_,_,_,e=>by simp [Pe.putNews] at e
theorem hole_set {g:Heap} {i j:Nat} {b:Blk} (hb:b≠.hole) (h:(g.set i b)[j]? = some .hole):g[j]? = some .hole:=by
 by_cases hij:i=j
 ·subst hij
  have hl:i<g.length:=by
   have:=(List.getElem?_eq_some_iff.1 h).1
   rwa [List.length_set] at this
  rw [List.getElem?_set_self hl] at h
  exact absurd (Option.some.inj h) hb
 ·rwa [List.getElem?_set_ne hij] at h
theorem put_hole:∀{is:List Nat} {bs g g1:Heap},g.put is bs=some g1→∀j:Nat,g1[j]? = some Blk.hole→g[j]? = some Blk.hole
 | [],[],g,g1,e,j,h=>by simp only [Heap.put,Option.some.injEq] at e; subst e; exact h
 | i::is,b::bs,g,g1,e,j,h=>by
  simp only [Heap.put] at e
  split at e
  ·cases e
  ·rename_i hb
   exact hole_set (by rintro rfl; simp [Blk.isHole] at hb) (put_hole e j h)
 | [],_::_,_,_,e,_,_=>by simp [Heap.put] at e
 | _::_,[],_,_,e,_,_=>by simp [Heap.put] at e
theorem putNews_hole:∀{is:List Nat} {bs g g1:Heap},putNews g is bs=some g1→∀j∈is.take bs.length,g[j]? = some Blk.hole
 | is,[],_,_,_,j,h=>by simp at h
 | i::is,b::bs,g,g1,e,j,h=>by
  simp only [putNews] at e
  split at e
  ·cases e
  ·rename_i hb
   obtain ⟨g0,e0,e⟩:=Option.bind_eq_some_iff.1 e
   obtain ⟨hi,rfl⟩:=putBlk_some e0
   rw [List.length_cons,List.take_succ_cons] at h
   rcases List.mem_cons.1 h with rfl | h
   ·exact hi
   ·exact hole_set (by rintro rfl; simp [Blk.isHole] at hb) (putNews_hole e j h)
 | [],_::_,_,_,e,_,_=>by simp [putNews] at e
theorem hole_freeze {h:Heap} {is:List Nat} {j:Nat} (g:(freeze h is)[j]? = some .hole):h[j]? = some .hole:=by
 rw [freeze_get] at g
 split at g
 ·obtain ⟨B,hB,e⟩:=Option.map_eq_some_iff.1 g
  rw [hB,Blk.freeze_hole e]
 ·exact g
theorem pick_congr {h h2:Heap}:∀{is:List Nat},(∀i∈is,h2[i]? = h[i]?)→h2.pick is=h.pick is
 | [],_=>rfl
 | i::is,a=>by
  simp only [Heap.pick]
  rw [a i (by simp),pick_congr fun j hj=>a j (by simp [hj])]
theorem freezeIf_true {h h1:Heap} {is:List Nat} (hf:freezeIf true h is=some h1):h1=freeze h is:=by
 simp only [freezeIf,if_true,Option.some.injEq] at hf
 exact hf.symm
theorem toD1_congr {h h2:Heap} (u:V) (g:∀i∈u.refs,h2[i]? = h[i]?):toD1 h2 u=toD1 h u:=by
 unfold toD1
 rw [toD_congr u g]
theorem op_w {O:Oracle} {np:Nat} {e:Env} {h h':Heap} {p:Op} {v:V} (hc:p.cls=.w) (he:evalOp O np e h p=some (v,h')) :
 ∃N:List Nat,(∀i∈N,h[i]? = some .hole∧Laid h' i)∧∀h2:Heap,(∀i∈e.refsOf p.temps++N,h2[i]? = h[i]?)→∃h3,evalOp O np e h2 p=some (v,h3)∧Par (e.refsOf p.temps++N) h h2 h' h3:=by
 cases p with
 | box fz i x=>
  cases fz with
  | false=>simp [Op.cls] at hc
  | true=>
   simp only [evalOp] at he ⊢
   obtain ⟨u,hu,he1⟩:=Option.bind_eq_some_iff.1 he
   obtain ⟨d,hd,he2⟩:=Option.bind_eq_some_iff.1 he1
   obtain ⟨h1,hf,he3⟩:=Option.bind_eq_some_iff.1 he2
   obtain ⟨g,hp,e1⟩:=Option.map_eq_some_iff.1 he3
   clear he he1 he2 he3
   simp only [Prod.mk.injEq] at e1
   obtain ⟨rfl,rfl⟩:=e1
   obtain rfl:=freezeIf_true hf
   obtain ⟨hi,rfl⟩:=putBlk_some hp
   refine ⟨[np+i],fun j hj=>?_,fun h2 a=>?_⟩
   ·obtain rfl:=List.mem_singleton.1 hj
    exact ⟨hole_freeze hi,.new (by simp) hi⟩
   ·have hs:∀j∈u.refs,j∈e.refsOf (Op.box true i x).temps++[np+i]:=fun j hj=>List.mem_append_left _ (arg_refs hu hj)
    have hn:np+i∈e.refsOf (Op.box true i x).temps++[np+i]:=by simp
    have p1:=(Par.start a).freeze hs
    refine ⟨_,?_,p1.set hn _⟩
    rw [hu,Option.bind_some,toD1_congr u fun j hj=>a j (hs j hj),hd,Option.bind_some]
    simp only [freezeIf,if_true,Option.bind_some]
    rw [put_of_hole ((p1.on _ hn).trans hi),Option.map_some]
 | build fz z ps=>
  cases fz with
  | false=>simp [Op.cls] at hc
  | true=>
   simp only [evalOp] at he ⊢
   obtain ⟨xs,hx,he1⟩:=Option.bind_eq_some_iff.1 he
   obtain ⟨h1,hf,he2⟩:=Option.bind_eq_some_iff.1 he1
   clear he he1
   obtain rfl:=freezeIf_true hf
   refine ⟨[],by simp,fun h2 a=>?_⟩
   have hs:∀j∈partsRefs e ps,j∈e.refsOf (Op.build true z ps).temps++[]:=fun j hj=>List.mem_append_left _ (partsRefs_sub hj)
   have p1:=(Par.start a).freeze hs
   have hpc:partsD e h2 ps=some xs:=by
    rw [parts_congr fun j hj=>a j (List.mem_append_left _ hj)]; exact hx
   split at he2
   ·obtain ⟨cs,hcs,e1⟩:=Option.map_eq_some_iff.1 he2
    simp only [Prod.mk.injEq] at e1
    obtain ⟨rfl,rfl⟩:=e1
    refine ⟨_,?_,p1⟩
    rw [hpc]
    simp only [freezeIf,if_true,Option.bind_some,hcs,Option.map_some]
   ·obtain ⟨cs,hcs,e1⟩:=Option.map_eq_some_iff.1 he2
    simp only [Prod.mk.injEq] at e1
    obtain ⟨rfl,rfl⟩:=e1
    refine ⟨_,?_,p1⟩
    rw [hpc]
    simp only [freezeIf,if_true,Option.bind_some,hcs,Option.map_some]
   ·cases he2
 | buildSl fz i s z n ps=>
  cases fz with
  | false=>simp [Op.cls] at hc
  | true=>
   simp only [evalOp] at he ⊢
   obtain ⟨xs,hx,he1⟩:=Option.bind_eq_some_iff.1 he
   obtain ⟨cs,hcs,he2⟩:=Option.bind_eq_some_iff.1 he1
   obtain ⟨h1,hf,he3⟩:=Option.bind_eq_some_iff.1 he2
   obtain ⟨g,hp,e1⟩:=Option.map_eq_some_iff.1 he3
   clear he he1 he2 he3
   simp only [Prod.mk.injEq] at e1
   obtain ⟨rfl,rfl⟩:=e1
   obtain rfl:=freezeIf_true hf
   obtain ⟨hi,rfl⟩:=putBlk_some hp
   refine ⟨[np+i],fun j hj=>?_,fun h2 a=>?_⟩
   ·obtain rfl:=List.mem_singleton.1 hj
    exact ⟨hole_freeze hi,.new (by simp) hi⟩
   ·have hs:∀j∈partsRefs e ps,j∈e.refsOf (Op.buildSl true i s z n ps).temps++[np+i]:=fun j hj=>List.mem_append_left _ (partsRefs_sub hj)
    have hn:np+i∈e.refsOf (Op.buildSl true i s z n ps).temps++[np+i]:=by simp
    have p1:=(Par.start a).freeze hs
    have hpc:partsD e h2 ps=some xs:=by
     rw [parts_congr fun j hj=>a j (List.mem_append_left _ hj)]; exact hx
    refine ⟨_,?_,p1.set hn _⟩
    rw [hpc,Option.bind_some,hcs,Option.bind_some]
    simp only [freezeIf,if_true,Option.bind_some]
    rw [put_of_hole ((p1.on _ hn).trans hi),Option.map_some]
 | store fz s x y=>
  cases fz with
  | false=>simp [Op.cls] at hc
  | true=>
   simp only [evalOp] at he ⊢
   obtain ⟨u,hu,he1⟩:=Option.bind_eq_some_iff.1 he
   obtain ⟨d,hd,he2⟩:=Option.bind_eq_some_iff.1 he1
   obtain ⟨h1,hf,he3⟩:=Option.bind_eq_some_iff.1 he2
   clear he he1 he2
   obtain rfl:=freezeIf_true hf
   refine ⟨[],by simp,fun h2 a=>?_⟩
   have hs:∀j∈u.refs,j∈e.refsOf (Op.store true s x y).temps++[]:=fun j hj=>List.mem_append_left _ (by
    simp only [Op.temps,refsOf_append,List.mem_append]; exact .inr (arg_refs hu hj))
   have p1:=(Par.start a).freeze hs
   split at he3
   ·rename_i i p hp
    split at he3
    ·rename_i hss
     obtain ⟨b,hb,he4⟩:=Option.bind_eq_some_iff.1 he3
     obtain ⟨b',hb',e1⟩:=Option.map_eq_some_iff.1 he4
     simp only [Prod.mk.injEq] at e1
     obtain ⟨rfl,rfl⟩:=e1
     have hi:i∈e.refsOf (Op.store true s x y).temps++[]:=List.mem_append_left _ (by
      simp only [Op.temps,refsOf_append,List.mem_append]; exact .inl (arg_refs hp (by simp [V.refs])))
     refine ⟨_,?_,p1.set hi _⟩
     rw [hu,Option.bind_some,toD1_congr u fun j hj=>a j (hs j hj),hd,Option.bind_some]
     simp only [freezeIf,if_true,Option.bind_some]
     rw [if_pos hss,p1.on i hi,hb,Option.bind_some,hb',Option.map_some]
    ·cases he3
   ·cases he3
 | copy s x y=>
  simp only [evalOp] at he ⊢
  obtain ⟨w,hw,he1⟩:=Option.bind_eq_some_iff.1 he
  obtain ⟨d,hd,he2⟩:=Option.bind_eq_some_iff.1 he1
  clear he he1
  refine ⟨[],by simp,fun h2 a=>?_⟩
  have hs:∀j∈w.refs,j∈e.refsOf (Op.copy s x y).temps++[]:=fun j hj=>List.mem_append_left _ (by
   simp only [Op.temps,refsOf_append,List.mem_append]; exact .inr (arg_refs hw hj))
  have hd2:toD h2 w=some d:=by rw [toD_congr w fun j hj=>a j (hs j hj)]; exact hd
  split at he2
  ·rename_i t ys j off n cap hx
   have hj:j∈e.refsOf (Op.copy s x y).temps++[]:=List.mem_append_left _ (by
    simp only [Op.temps,refsOf_append,List.mem_append]; exact .inl (arg_refs hx (by simp [V.refs])))
   split at he2
   ·rename_i t' cs hB
    split at he2
    ·rename_i hcc
     simp only [Option.some.injEq,Prod.mk.injEq] at he2
     obtain ⟨rfl,rfl⟩:=he2
     refine ⟨_,?_,(Par.start a).set hj _⟩
     rw [hw,Option.bind_some,hd2,Option.bind_some]
     simp only [hx,a j hj,hB]
     rw [if_pos hcc]
    ·cases he2
   ·cases he2
  ·cases he2
 | call m news f xs=>
  simp only [evalOp] at he ⊢
  obtain ⟨fv,hf,he1⟩:=Option.bind_eq_some_iff.1 he
  obtain ⟨g,hg,he2⟩:=Option.bind_eq_some_iff.1 he1
  obtain ⟨vs,hv,he3⟩:=Option.bind_eq_some_iff.1 he2
  clear he he1 he2
  have hr:∀i∈V.refss (g.2.1++vs++g.2.2),i∈e.refsOf (Op.call m news f xs).temps:=by
   intro i hi
   simp only [refss_append,List.mem_append] at hi
   simp only [Op.temps,refsOf_append,List.mem_append]
   rcases hi with (hi | hi) | hi
   ·exact .inl (callee_refs hf hg i (.inl hi))
   ·exact .inr (args_refs hv hi)
   ·exact .inl (callee_refs hf hg i (.inr hi))
  cases m with
  | flat=>simp [Op.cls] at hc
  | plain=>simp [Op.cls] at hc
  | data=>
   simp only [callPure] at he3 ⊢
   obtain ⟨ds,hds,he4⟩:=Option.bind_eq_some_iff.1 he3
   obtain ⟨ans,hans,he5⟩:=Option.bind_eq_some_iff.1 he4
   obtain ⟨x,hx,he6⟩:=Option.bind_eq_some_iff.1 he5
   clear he3 he4 he5
   simp only [Option.some.injEq,Prod.mk.injEq] at he6
   obtain ⟨rfl,rfl⟩:=he6
   refine ⟨[],by simp,fun h2 a=>?_⟩
   have hs:∀i∈V.refss (g.2.1++vs++g.2.2),i∈e.refsOf (Op.call Mode.data news f xs).temps++[]:=fun i hi=>List.mem_append_left _ (hr i hi)
   refine ⟨_,?_,(Par.start a).freeze hs⟩
   simp only [hf,hg,hv,Option.bind_some]
   rw [toDs_congr _ fun i hi=>a i (hs i hi),hds,Option.bind_some,hans,Option.bind_some,hx,Option.bind_some]
  | heap=>
   simp only [callHeap] at he3 ⊢
   obtain ⟨bs,hbs,he4⟩:=Option.bind_eq_some_iff.1 he3
   obtain ⟨ans,hans,he5⟩:=Option.bind_eq_some_iff.1 he4
   obtain ⟨h1,hh1,he6⟩:=Option.bind_eq_some_iff.1 he5
   obtain ⟨h2',hh2,he7⟩:=Option.bind_eq_some_iff.1 he6
   clear he3 he4 he5 he6
   split at he7
   case isFalse=>cases he7
   rename_i hall
   simp only [Option.some.injEq,Prod.mk.injEq] at he7
   obtain ⟨rfl,rfl⟩:=he7
   obtain ⟨n1,n2,n3⟩:=putNews_laid hh2
   refine ⟨(news.map (np + ·)).take ans.2.2.length,fun j hj=>⟨put_hole hh1 j (putNews_hole hh2 j hj),?_⟩,fun h2 a=>?_⟩
   ·obtain ⟨k,hk,e1⟩:=List.getElem_of_mem hj
    have hk':k<ans.2.2.length:=by rw [List.length_take] at hk; omega
    refine n3 k j hk' ?_
    rw [List.getElem_take] at e1
    rw [←e1]
    exact List.getElem?_eq_getElem (by rw [List.length_take] at hk; omega)
   ·have hs:∀i∈once (V.refss (g.2.1++vs++g.2.2)),i∈e.refsOf (Op.call Mode.heap news f xs).temps++(news.map (np + ·)).take ans.2.2.length:=fun i hi=>List.mem_append_left _ (hr i (once_mem.1 hi))
    obtain ⟨g3,q1,q2⟩:=(Par.start a).put hs hh1
    obtain ⟨g4,q3,q4⟩:=q2.putNews (fun i hi=>List.mem_append_right _ hi) hh2
    refine ⟨g4,?_,q4⟩
    simp only [hf,hg,hv,Option.bind_some]
    rw [pick_congr fun i hi=>a i (hs i hi),hbs,Option.bind_some,hans,Option.bind_some,q1,Option.bind_some,q3,Option.bind_some,if_pos hall]
 | append s i bytes x y=>
  simp only [evalOp] at he ⊢
  obtain ⟨w,hw,he1⟩:=Option.bind_eq_some_iff.1 he
  obtain ⟨d,hd,he2⟩:=Option.bind_eq_some_iff.1 he1
  clear he he1
  have hwr:∀j∈w.refs,j∈e.refsOf (Op.append s i bytes x y).temps:=fun j hj=>by
   simp only [Op.temps,refsOf_append,List.mem_append]
   exact .inr (arg_refs hw hj)
  split at he2
  ·rename_i t ys j off n cap hx
   have hjr:j∈e.refsOf (Op.append s i bytes x y).temps:=by
    simp only [Op.temps,refsOf_append,List.mem_append]
    exact .inl (arg_refs hx (by simp [V.refs]))
   split at he2
   ·rename_i fr t' cs hj
    split at he2
    ·rename_i hC
     split at he2
     ·rename_i hF
      simp only [Option.some.injEq,Prod.mk.injEq] at he2
      obtain ⟨rfl,rfl⟩:=he2
      refine ⟨[],by simp,fun h2 a=>?_⟩
      have aj:=a j (List.mem_append_left _ hjr)
      refine ⟨_,?_,(Par.start a).set (List.mem_append_left _ hjr) _⟩
      simp only [hw,Option.bind_some,toD_congr w fun j hj=>a j (List.mem_append_left _ (hwr j hj)),hd,hx,aj,hj]
      rw [if_pos hC,if_pos hF]
     ·rename_i hF
      split at he2
      ·rename_i hG
       obtain ⟨g,hp,e1⟩:=Option.map_eq_some_iff.1 he2
       simp only [Prod.mk.injEq] at e1
       obtain ⟨rfl,rfl⟩:=e1
       obtain ⟨hi,rfl⟩:=putBlk_some hp
       refine ⟨[np+i],fun j hj=>?_,fun h2 a=>?_⟩
       ·obtain rfl:=List.mem_singleton.1 hj
        exact ⟨hi,.new (by simp) hi⟩
       ·have aj:=a j (List.mem_append_left _ hjr)
        have ai:=a (np+i) (by simp)
        refine ⟨_,?_,(Par.start a).set (by simp) _⟩
        simp only [hw,Option.bind_some,toD_congr w fun j hj=>a j (List.mem_append_left _ (hwr j hj)),hd,hx,aj,hj]
        rw [if_pos hC,if_neg hF,if_pos hG,put_of_hole (ai.trans hi)]
        rfl
      ·cases he2
    ·cases he2
   ·cases he2
  ·rename_i t y' ys t' hx
   split at he2
   ·rename_i hC
    obtain ⟨g,hp,e1⟩:=Option.map_eq_some_iff.1 he2
    simp only [Prod.mk.injEq] at e1
    obtain ⟨rfl,rfl⟩:=e1
    obtain ⟨hi,rfl⟩:=putBlk_some hp
    refine ⟨[np+i],fun j hj=>?_,fun h2 a=>?_⟩
    ·obtain rfl:=List.mem_singleton.1 hj
     exact ⟨hi,.new (by simp) hi⟩
    ·have ai:=a (np+i) (by simp)
     refine ⟨_,?_,(Par.start a).set (by simp) _⟩
     simp only [hw,Option.bind_some,toD_congr w fun j hj=>a j (List.mem_append_left _ (hwr j hj)),hd,hx]
     rw [if_pos hC,put_of_hole (ai.trans hi)]
     rfl
   ·cases he2
  ·cases he2
 | _=>simp [Op.cls] at hc
end Pe

namespace Pe
open Go
def Ins.look (i:Ins):List Nat:=i.op.temps++(match i.guard with | some (n,_)=>[n] | none=>[])
def Op.isAppend:Op→Bool
 | .append _ _ _ _ _=>true
 | _=>false
inductive Kd where
 | off | z | r
 | a (j:Nat) (b:Blk)
 | s (j:Nat) (b:Blk)
 | w (W:List Nat) (h:Heap)
 | x (h:Heap)
def over (h h':Heap) (W:List Nat):Heap:=h.mapIdx fun i b=>if i∈W then (h'[i]?).getD b else b
structure Tr where
 i:Ins
 s:St
 k:Kd
 v:V
def Tr.T (t:Tr):List Nat:=t.s.e.refsOf t.i.op.temps
def Tr.hag (t:Tr) (h:Heap):Prop:=
 match t.k with
 | .off | .z=>True
 | .r | .s _ _=>∀i∈t.T,h[i]? = t.s.h[i]?
 | .a j _=>h[j]? = some .hole
 | .w W _=>∀i∈W,h[i]? = t.s.h[i]?
 | .x _=>h=t.s.h
def Tr.ag (t:Tr) (s:St):Prop:=Le t.i.look t.s.e s.e∧t.hag s.h
def Tr.heff (t:Tr) (h:Heap):Heap:=
 match t.k with
 | .off | .z | .r=>h
 | .a j b | .s j b=>h.set j b
 | .w W h'=>over h h' W
 | .x h'=>h'
def Tr.eeff (t:Tr) (e:Env):Env:=(e.kill (t.i.op.kill t.s.e t.v)).putO t.i.dst t.v
def Tr.eff (t:Tr) (s:St):St:=⟨t.eeff s.e,t.heff s.h⟩
def PI (s:St):Prop:=∀n v,s.e.get n=some v→∀i∈v.refs,Laid s.h i
structure Tr.Valid (O:Oracle) (np:Nat) (t:Tr):Prop where
 exec:∀s,t.ag s→execIns O np s t.i=some (t.eff s)
 laid:∀s,t.ag s→PI s→PI (t.eff s)
 keep:∀s,t.ag s→PI s→∀i,Laid s.h i→Laid (t.heff s.h) i
 cls:match t.k with
  | .off=>True
  | .z=>t.i.op.cls=.z
  | .r=>t.i.op.cls=.r
  | .a _ b=>t.i.op.cls=.a∧b≠.hole
  | .s j b=>t.i.op.cls=.s∧b≠.hole∧j∈t.T
  | .w W h'=>t.i.op.cls=.w∧h'.length=t.s.h.length∧∃N:List Nat,W=t.T++N∧∀i∈N,t.s.h[i]? = some .hole∧Laid h' i
  | .x _=>t.i.op.cls=.x
theorem kill_none {p:Op} (h:p.isAppend=false) (e:Env) (v:V):p.kill e v=none:=by
 cases p <;> simp_all [Op.isAppend,Op.kill]
theorem putO_get {e:Env} {d:Option Nat} {v:V} {n:Nat}:(e.putO d v).get n=if d=some n then some v else e.get n:=by
 cases d with
 | none=>simp [Env.putO]
 | some d=>
  simp only [Env.putO,Env.get,Option.some.injEq]
theorem PI.put {e:Env} {h h':Heap} {k:Option Nat} {d:Option Nat} {v:V} (hp:PI ⟨e,h⟩) (h1:∀i,Laid h i→Laid h' i) (h2:∀i∈v.refs,Laid h' i):PI ⟨(e.kill k).putO d v,h'⟩:=by
 intro n w hn i hi
 simp only [putO_get] at hn
 split at hn
 ·obtain rfl:=Option.some.inj hn
  exact h2 i hi
 ·exact h1 i (hp n w (kill_get hn).1 i hi)
theorem PI.refsOf {s:St} (hp:PI s) {e:Env} {ns:List Nat} (hl:Le ns e s.e) {i:Nat} (hi:i∈e.refsOf ns):Laid s.h i:=by
 obtain ⟨n,hn,v,hv,h⟩:=mem_refsOf hi
 exact hp n v (hl n hn v hv) i h
theorem on_mono {i:Ins} {e e':Env} (hl:Le i.look e e') {b:Bool} (h:i.on e=some b):i.on e'=some b:=by
 unfold Ins.on at h ⊢
 cases hg:i.guard with
 | none=>rw [hg] at h; exact h
 | some q=>
  obtain ⟨n,b'⟩:=q
  rw [hg] at h
  simp only at h ⊢
  split at h
  ·rename_i t hn
   rw [hl n (by simp [Ins.look,hg]) _ hn]; exact h
  ·rename_i hn
   rw [hl n (by simp [Ins.look,hg]) _ hn]; exact h
  ·cases h
theorem Le.refl (ns:List Nat) (e:Env):Le ns e e:=fun _ _ _ h=>h
theorem over_get (h h':Heap) (W:List Nat) (i:Nat):(over h h' W)[i]? = (h[i]?).map fun b=>if i∈W then (h'[i]?).getD b else b:=by
 unfold over
 rw [List.getElem?_mapIdx]
theorem over_in {h h' k:Heap} {W:List Nat} {i:Nat} (hi:i∈W) (hl:h'.length=k.length) (ha:h[i]? = k[i]?):(over h h' W)[i]? = h'[i]?:=by
 rw [over_get,ha]
 by_cases hk:i<k.length
 ·rw [List.getElem?_eq_getElem hk,List.getElem?_eq_getElem (show i<h'.length by omega),Option.map_some,if_pos hi]
  rfl
 ·rw [List.getElem?_eq_none (by omega),List.getElem?_eq_none (by omega)]
  rfl
theorem over_out {h h':Heap} {W:List Nat} {i:Nat} (hi:i ∉ W):(over h h' W)[i]? = h[i]?:=by
 rw [over_get]
 simp only [if_neg hi,Option.map_id']
theorem over_par {W:List Nat} {h h2 h' h3:Heap} (p:Par W h h2 h' h3) (a:∀i∈W,h2[i]? = h[i]?):h3=over h2 h' W:=by
 refine List.ext_getElem? fun i=>?_
 by_cases hi:i∈W
 ·rw [over_in hi p.len (a i hi),p.on i hi]
 ·rw [over_out hi,p.off2 i hi]
theorem tr_of {O:Oracle} {np:Nat} {s s':St} {i:Ins} (h:execIns O np s i=some s'):∃t:Tr,t.i=i∧t.s=s∧t.ag s∧t.eff s=s'∧t.Valid O np:=by
 unfold execIns at h
 split at h
 ·rename_i hon
  obtain ⟨⟨v,h'⟩,hev,rfl⟩:=Option.map_eq_some_iff.1 h
  -- what holds of all
  have common:∀(k:Kd),(∀s0:St,Le i.look s.e s0.e→(Tr.mk i s k v).hag s0.h→evalOp O np s.e s0.h i.op=some (v,(Tr.mk i s k v).heff s0.h)) →
   ∀s0,(Tr.mk i s k v).ag s0→execIns O np s0 i=some ((Tr.mk i s k v).eff s0)∧(PI s0→PI ((Tr.mk i s k v).eff s0)∧∀j,Laid s0.h j→Laid ((Tr.mk i s k v).heff s0.h) j):=by
   intro k hx s0 ⟨g1,g3⟩
   simp only at g1
   have ht:Le i.op.temps s.e s0.e:=Le.sub g1 fun n hn=>by simp [Ins.look,hn]
   obtain ⟨m1,m2⟩:=op_mono ht (hx s0 g1 g3)
   refine ⟨?_,fun hp=>?_⟩
   ·unfold execIns
    rw [on_mono g1 hon]
    simp only [m1,Option.map_some,Tr.eff,Tr.eeff,m2]
   ·obtain ⟨l1,l2⟩:=op_laid m1 fun j hj=>hp.refsOf (Le.refl _ _) hj
    simp only [Tr.eff,Tr.eeff]
    exact ⟨PI.put hp l1 l2,l1⟩
  cases hc:i.op.cls with
  | z=>
   obtain ⟨rfl,h2,_⟩:=op_z hc hev
   have c:=common .z fun s0 _ _=>h2 s0.h
   refine ⟨⟨i,s,.z,v⟩,rfl,rfl,⟨Le.refl _ _,trivial⟩,?_,fun s0 g=>(c s0 g).1,fun s0 g hp=>((c s0 g).2 hp).1,fun s0 g hp=>((c s0 g).2 hp).2,hc⟩
   simp [Tr.eff,Tr.eeff,Tr.heff]
  | r=>
   obtain ⟨rfl,h2,_⟩:=op_r hc hev
   have c:=common .r fun s0 _ g=>h2 s0.h g
   refine ⟨⟨i,s,.r,v⟩,rfl,rfl,⟨Le.refl _ _,fun _ _=>rfl⟩,?_,fun s0 g=>(c s0 g).1,fun s0 g hp=>((c s0 g).2 hp).1,fun s0 g hp=>((c s0 g).2 hp).2,hc⟩
   simp [Tr.eff,Tr.eeff,Tr.heff]
  | a=>
   obtain ⟨j,b,_,hj,hb,rfl,h2,_⟩:=op_a hc hev
   have c:=common (.a (np+j) b) fun s0 _ g=>h2 s0.h g
   refine ⟨⟨i,s,.a (np+j) b,v⟩,rfl,rfl,⟨Le.refl _ _,hj⟩,?_,fun s0 g=>(c s0 g).1,fun s0 g hp=>((c s0 g).2 hp).1,fun s0 g hp=>((c s0 g).2 hp).2,hc,hb⟩
   simp [Tr.eff,Tr.eeff,Tr.heff]
  | s=>
   obtain ⟨j,b,hj,hb,rfl,h2,_⟩:=op_s hc hev
   have c:=common (.s j b) fun s0 _ g=>h2 s0.h g
   refine ⟨⟨i,s,.s j b,v⟩,rfl,rfl,⟨Le.refl _ _,fun _ _=>rfl⟩,?_,fun s0 g=>(c s0 g).1,fun s0 g hp=>((c s0 g).2 hp).1,fun s0 g hp=>((c s0 g).2 hp).2,hc,hb,hj⟩
   simp [Tr.eff,Tr.eeff,Tr.heff]
  | w=>
   obtain ⟨N,hN,h2⟩:=op_w hc hev
   have c:=common (.w (s.e.refsOf i.op.temps++N) h') fun s0 _ g=>by
    have g':∀j∈s.e.refsOf i.op.temps++N,s0.h[j]? = s.h[j]?:=g
    obtain ⟨h3,q1,q2⟩:=h2 s0.h g'
    rw [q1,over_par q2 g']
    rfl
   obtain ⟨h3,q1,q2⟩:=h2 s.h fun _ _=>rfl
   have e3:h3=h':=by
    have:=q1.symm.trans hev
    simpa using this
   subst e3
   refine ⟨⟨i,s,.w (s.e.refsOf i.op.temps++N) h3,v⟩,rfl,rfl,⟨Le.refl _ _,fun _ _=>rfl⟩,?_,fun s0 g=>(c s0 g).1,fun s0 g hp=>((c s0 g).2 hp).1,fun s0 g hp=>((c s0 g).2 hp).2,hc,q2.len,N,rfl,hN⟩
   simp [Tr.eff,Tr.eeff,Tr.heff,←over_par q2 fun _ _=>rfl]
  | x=>
   have c:=common (.x h') fun s0 _ g=>by
    have g':s0.h=s.h:=g
    rw [g']; exact hev
   refine ⟨⟨i,s,.x h',v⟩,rfl,rfl,⟨Le.refl _ _,rfl⟩,?_,fun s0 g=>(c s0 g).1,fun s0 g hp=>((c s0 g).2 hp).1,fun s0 g hp=>((c s0 g).2 hp).2,hc⟩
   simp [Tr.eff,Tr.eeff,Tr.heff]
 ·rename_i hon
  obtain rfl:=Option.some.inj h
  have hk:i.op.kill s.e (.tup [])=none:=by
   cases i.op <;> try rfl
   simp only [Op.kill]
   split <;> simp_all
  refine ⟨⟨i,s,.off,.tup []⟩,rfl,rfl,⟨Le.refl _ _,trivial⟩,by simp [Tr.eff,Tr.eeff,Tr.heff,hk,Env.kill],fun s0 g=>?_,fun s0 _ hp=>?_,fun s0 _ _ i hi=>hi,trivial⟩
  ·unfold execIns
   obtain ⟨g1,_⟩:=g
   rw [on_mono g1 hon]
   simp [Tr.eff,Tr.eeff,Tr.heff,hk,Env.kill]
  ·simp only [Tr.eff,Tr.eeff,Tr.heff,hk]
   exact PI.put hp (fun _ h=>h) (fun i hi=>by simp [V.refs,V.refss] at hi)
 ·cases h
structure Sim (s t:St):Prop where
 h:s.h=t.h
 e:∀n,s.e.get n=t.e.get n
theorem Sim.refl (s:St):Sim s s:=⟨rfl,fun _=>rfl⟩
theorem Sim.symm {s t:St} (h:Sim s t):Sim t s:=⟨h.h.symm,fun n=>(h.e n).symm⟩
theorem Sim.trans {s t u:St} (h:Sim s t) (g:Sim t u):Sim s u:=⟨h.h.trans g.h,fun n=>(h.e n).trans (g.e n)⟩
theorem kill_get_eq (e:Env) (k:Option Nat) (n:Nat):(e.kill k).get n=match k with | some j=>if e.clear j n then e.get n else none | none=>e.get n:=by
 cases k with
 | none=>rfl
 | some j=>exact get_filter (e.clear j) e n
theorem Sim.kill {e e':Env} (h:∀n,e.get n=e'.get n) (k:Option Nat) (n:Nat):(e.kill k).get n=(e'.kill k).get n:=by
 rw [kill_get_eq,kill_get_eq]
 cases k with
 | none=>exact h n
 | some j=>
  have hc:e.clear j n=e'.clear j n:=by unfold Env.clear; rw [h n]
  simp only [hc,h n]
theorem Sim.eff {s t:St} (h:Sim s t) (x:Tr):Sim (x.eff s) (x.eff t):=by
 refine ⟨by simp only [Tr.eff,h.h],fun n=>?_⟩
 simp only [Tr.eff,Tr.eeff,putO_get,Sim.kill h.e]
theorem Sim.ag {s t:St} (h:Sim s t) {x:Tr} (g:x.ag s):x.ag t:=by
 obtain ⟨g1,g3⟩:=g
 exact ⟨fun n hn v hv=>by rw [←h.e n]; exact g1 n hn v hv,by rw [←h.h]; exact g3⟩
def Ins.free (d:Option Nat) (ns:List Nat):Bool:=
 match d with
 | some d=>!ns.contains d
 | none=>true
def dstNe:Option Nat→Option Nat→Bool
 | some a,some b=>a != b
 | _,_=>true
def indepC:Cls→Cls→Option Bool
 | .z,_ | _,.z | .r,.r | .r,.a | .a,.r | .a,.a | .a,.s | .s,.a | .a,.w | .w,.a=>some false
 | .r,.s | .s,.r | .s,.s | .r,.w | .w,.r | .s,.w | .w,.s | .w,.w=>some true
 | _,_=>none
def Ins.isLoad (i:Ins):Bool:=match i.op,i.guard with
 | .load _ _,none=>true
 | _,_=>false
def indepD (y x:Ins):Bool:=Ins.free y.dst x.look&&Ins.free x.dst y.look&&dstNe y.dst x.dst && !y.op.isAppend&&(!x.op.isAppend||y.isLoad)
theorem load_off {i:Ins} (h:i.isLoad=true):i.op.isAppend=false∧i.guard=none∧∃s x,i.op=.load s x:=by
 unfold Ins.isLoad at h
 split at h
 ·rename_i s x h1 h2
  exact ⟨by rw [h1]; rfl,h2,s,x,h1⟩
 ·cases h
theorem free_spec {d:Option Nat} {ns:List Nat} (h:Ins.free d ns=true) {n:Nat} (hn:n∈ns):d≠some n:=by
 rintro rfl
 simp [Ins.free,hn] at h
theorem dstNe_spec {a b:Option Nat} (h:dstNe a b=true) {n:Nat} (ha:a=some n):b≠some n:=by
 subst ha
 rintro rfl
 simp [dstNe] at h
theorem eeff_all {t:Tr} (ha:t.i.op.isAppend=false) (e:Env) (n:Nat):(t.eeff e).get n=if t.i.dst=some n then some t.v else e.get n:=by
 unfold Tr.eeff
 rw [putO_get,kill_none ha]; rfl
theorem eeff_get {t:Tr} (ha:t.i.op.isAppend=false) {e:Env} {n:Nat} (hn:t.i.dst≠some n):(t.eeff e).get n=e.get n:=by
 rw [eeff_all ha,if_neg hn]
theorem load_val {O:Oracle} {np:Nat} {t:Tr} (vt:t.Valid O np) {s:St} (g:t.ag s) (hl:t.i.isLoad=true) {n:Nat} (hn:t.i.dst=some n):∃d,t.v=.d d:=by
 obtain ⟨l1,l2,sh,x,l3⟩:=load_off hl
 have h:=vt.exec s g
 unfold execIns Ins.on at h
 rw [l2] at h
 simp only [l3] at h
 obtain ⟨⟨v,h'⟩,hev,heq⟩:=Option.map_eq_some_iff.1 h
 have e1:((t.eff s).e.get n)=some t.v:=by
  simp only [Tr.eff,Tr.eeff,putO_get,hn,if_true]
 rw [←heq] at e1
 simp only [putO_get,hn,if_true,Option.some.injEq] at e1
 subst e1
 simp only [evalOp] at hev
 split at hev
 ·split at hev
  ·simp only [Option.some.injEq,Prod.mk.injEq] at hev; exact ⟨_,hev.1.symm⟩
  ·cases hev
 ·obtain ⟨q,_,hev⟩:=Option.bind_eq_some_iff.1 hev
  split at hev
  ·simp only [Option.some.injEq,Prod.mk.injEq] at hev; exact ⟨_,hev.1.symm⟩
  ·cases hev
 ·cases hev
theorem eeff_kill (t:Tr) (e:Env) (n:Nat):(t.eeff e).get n=if t.i.dst=some n then some t.v else (match t.i.op.kill t.s.e t.v with | some j=>if e.clear j n then e.get n else none | none=>e.get n):=by
 unfold Tr.eeff
 rw [putO_get,kill_get_eq]
theorem kill_in {p:Op} {e:Env} {v:V} {j:Nat} (h:p.kill e v=some j):j∈e.refsOf p.temps:=by
 unfold Op.kill at h
 split at h
 ·split at h
  ·rename_i hx
   split at h
   ·obtain rfl:=Option.some.inj h
    simp only [Op.temps,refsOf_append,List.mem_append]
    exact .inl (arg_refs hx (by simp [V.refs]))
   ·cases h
  ·cases h
 ·cases h
theorem clear_iff {e:Env} {j n:Nat} {v:V} (h:e.get n=some v):e.clear j n=true↔j ∉ v.refs:=by
 unfold Env.clear
 rw [h]
 simp only [Bool.not_eq_true',List.any_eq_false,beq_iff_eq]
 exact ⟨fun h hj=>h j hj rfl,fun h x hx e=>h (e▸hx)⟩
def Kd.rd (T:List Nat):Kd→Nat→Prop
 | .off,_ | .z,_=>False
 | .r,i=>i∈T
 | .a j _,i=>i=j
 | .s _ _,i=>i∈T
 | .w W _,i=>i∈W
 | .x _,_=>True
def Kd.wr:Kd→Nat→Prop
 | .off,_ | .z,_ | .r,_=>False
 | .a j _,i | .s j _,i=>i=j
 | .w W _,i=>i∈W
 | .x _,_=>True
def Kd.isX:Kd→Bool
 | .x _=>true
 | _=>false
theorem heff_out {t:Tr} (hx:t.k.isX=false) {i:Nat} (hi:¬ t.k.wr i) (h:Heap):(t.heff h)[i]? = h[i]?:=by
 unfold Tr.heff
 cases hk:t.k with
 | off | z | r=>rfl
 | a j b | s j b=>
  rw [hk] at hi
  exact List.getElem?_set_ne fun e=>hi e.symm
 | w W h'=>
  rw [hk] at hi
  exact over_out hi
 | x h'=>rw [hk] at hx; cases hx
theorem heff_at {t:Tr} (_hx:t.k.isX=false) {i:Nat} {h h2:Heap} (he:h2[i]? = h[i]?):(t.heff h2)[i]? = (t.heff h)[i]?:=by
 unfold Tr.heff
 cases hk:t.k with
 | off | z | r=>exact he
 | a j b | s j b=>
  simp only
  by_cases hij:j=i
  ·subst hij
   have hl:=lt_iff_of he
   by_cases hk:j<h.length
   ·rw [List.getElem?_set_self hk,List.getElem?_set_self (hl.2 hk)]
   ·rw [List.getElem?_eq_none (by rw [List.length_set]; omega),List.getElem?_eq_none (by rw [List.length_set]; omega)]
  ·rw [List.getElem?_set_ne hij,List.getElem?_set_ne hij,he]
 | w W h'=>simp only [over_get,he]
 | x h'=>rfl
theorem hag_at {t:Tr} (hx:t.k.isX=false) {h h2:Heap} (he:∀i,t.k.rd t.T i→h2[i]? = h[i]?) (g:t.hag h):t.hag h2:=by
 unfold Tr.hag at g ⊢
 cases hk:t.k with
 | off | z=>trivial
 | r=>rw [hk] at g he; exact fun i hi=>(he i hi).trans (g i hi)
 | a j b=>rw [hk] at g he; exact (he j rfl).trans g
 | s j b=>rw [hk] at g he; exact fun i hi=>(he i hi).trans (g i hi)
 | w W h'=>rw [hk] at g he; exact fun i hi=>(he i hi).trans (g i hi)
 | x h'=>rw [hk] at hx; cases hx
theorem wr_of {O:Oracle} {np:Nat} {t:Tr} (vt:t.Valid O np) (hx:t.k.isX=false) {h:Heap} (hg:t.hag h) {i:Nat} (hi:t.k.wr i) :
 (i∈t.T∧(t.i.op.cls=.s∨t.i.op.cls=.w))∨(h[i]? = some .hole∧Laid (t.heff h) i):=by
 have vc:=vt.cls
 unfold Tr.hag at hg
 unfold Tr.heff
 cases hk:t.k with
 | off | z | r=>rw [hk] at hi; exact hi.elim
 | a j b=>
  rw [hk] at hi hg
  simp only [hk] at vc
  obtain rfl:i=j:=hi
  exact .inr ⟨hg,.new vc.2 hg⟩
 | s j b=>
  rw [hk] at hi
  simp only [hk] at vc
  obtain rfl:i=j:=hi
  exact .inl ⟨vc.2.2,.inl vc.1⟩
 | w W h'=>
  rw [hk] at hi hg
  simp only [hk] at vc
  obtain ⟨c1,c2,N,rfl,hN⟩:=vc
  have hi':i∈t.T++N:=hi
  rcases List.mem_append.1 hi' with hT | hn
  ·exact .inl ⟨hT,.inr c1⟩
  ·obtain ⟨q1,B,hB,hb⟩:=hN i hn
   exact .inr ⟨(hg i hi').trans q1,B,(over_in hi' c2 (hg i hi')).trans hB,hb⟩
 | x h'=>rw [hk] at hx; cases hx
theorem rd_of {O:Oracle} {np:Nat} {t:Tr} (vt:t.Valid O np) (hx:t.k.isX=false) {h:Heap} (hg:t.hag h) {i:Nat} (hi:t.k.rd t.T i) :
 (i∈t.T∧(t.i.op.cls=.r∨t.i.op.cls=.s∨t.i.op.cls=.w))∨(h[i]? = some .hole∧t.k.wr i):=by
 have vc:=vt.cls
 unfold Tr.hag at hg
 cases hk:t.k with
 | off | z=>rw [hk] at hi; exact hi.elim
 | r=>
  rw [hk] at hi
  simp only [hk] at vc
  exact .inl ⟨hi,.inl vc⟩
 | a j b=>
  rw [hk] at hi hg
  obtain rfl:i=j:=hi
  exact .inr ⟨hg,rfl⟩
 | s j b=>
  rw [hk] at hi
  simp only [hk] at vc
  exact .inl ⟨hi,.inr (.inl vc.1)⟩
 | w W h'=>
  rw [hk] at hi hg
  simp only [hk] at vc
  obtain ⟨c1,c2,N,rfl,hN⟩:=vc
  have hi':i∈t.T++N:=hi
  rcases List.mem_append.1 hi' with hT | hn
  ·exact .inl ⟨hT,.inr (.inr c1)⟩
  ·exact .inr ⟨(hg i hi').trans (hN i hn).1,hi'⟩
 | x h'=>rw [hk] at hx; cases hx
theorem hole_laid {h:Heap} {i:Nat} (h1:h[i]? = some .hole) (h2:Laid h i):False:=by
 obtain ⟨B,hB,hn⟩:=h2
 rw [hB] at h1
 exact hn (Option.some.inj h1)
theorem off_or_z {O:Oracle} {np:Nat} {y x:Tr} (vy:y.Valid O np) (vx:x.Valid O np) {b:Bool} (hc:indepC y.i.op.cls x.i.op.cls=some b) (h:y.k.isX=true):x.k=.off∨x.k=.z:=by
 have vyc:=vy.cls
 have vxc:=vx.cls
 cases hky:y.k with
 | x hy=>
  simp only [hky] at vyc
  rw [vyc] at hc
  cases hkx:x.k with
  | off=>exact .inl rfl
  | z=>exact .inr rfl
  | r=>simp only [hkx] at vxc; rw [vxc] at hc; simp [indepC] at hc
  | a j b=>simp only [hkx] at vxc; rw [vxc.1] at hc; simp [indepC] at hc
  | s j b=>simp only [hkx] at vxc; rw [vxc.1] at hc; simp [indepC] at hc
  | w W h'=>simp only [hkx] at vxc; rw [vxc.1] at hc; simp [indepC] at hc
  | x h'=>simp only [hkx] at vxc; rw [vxc] at hc; simp [indepC] at hc
 | _=>rw [hky] at h; cases h
theorem off_or_z' {O:Oracle} {np:Nat} {y x:Tr} (vy:y.Valid O np) (vx:x.Valid O np) {b:Bool} (hc:indepC y.i.op.cls x.i.op.cls=some b) (h:x.k.isX=true):y.k=.off∨y.k=.z:=by
 have vyc:=vy.cls
 have vxc:=vx.cls
 cases hkx:x.k with
 | x hx=>
  simp only [hkx] at vxc
  rw [vxc] at hc
  cases hky:y.k with
  | off=>exact .inl rfl
  | z=>exact .inr rfl
  | r=>simp only [hky] at vyc; rw [vyc] at hc; simp [indepC] at hc
  | a j b=>simp only [hky] at vyc; rw [vyc.1] at hc; simp [indepC] at hc
  | s j b=>simp only [hky] at vyc; rw [vyc.1] at hc; simp [indepC] at hc
  | w W h'=>simp only [hky] at vyc; rw [vyc.1] at hc; simp [indepC] at hc
  | x h'=>simp only [hky] at vyc; rw [vyc] at hc; simp [indepC] at hc
 | _=>rw [hkx] at h; cases h
theorem swap {O:Oracle} {np:Nat} {y x:Tr} {s:St} (hp:PI s) (vy:y.Valid O np) (vx:x.Valid O np) (ay:y.ag s) (ax:x.ag (y.eff s)) (hd:indepD y.i x.i=true)
 {b:Bool} (hc:indepC y.i.op.cls x.i.op.cls=some b) (hap:b=true→∀i∈y.T,i ∉ x.T):x.ag s∧y.ag (x.eff s)∧Sim (y.eff (x.eff s)) (x.eff (y.eff s)):=by
 have aya:=ay
 have axa:=ax
 unfold indepD at hd
 simp only [Bool.and_eq_true,Bool.not_eq_true',Bool.or_eq_true] at hd
 obtain ⟨⟨⟨⟨d1,d2⟩,d3⟩,ny⟩,nx⟩:=hd
 obtain ⟨ay1,ay3⟩:=ay
 obtain ⟨ax1,ax3⟩:=ax
 -- variables
 have lx:Le x.i.look x.s.e s.e:=fun n hn v hv=>by
  have:=ax1 n hn v hv
  rwa [Tr.eff,eeff_get ny (free_spec d1 hn)] at this
 have ly:Le y.i.look y.s.e (x.eff s).e:=fun n hn v hv=>by
  have h1:=ay1 n hn v hv
  rcases nx with nx | nx
  ·rw [Tr.eff,eeff_get nx (free_spec d2 hn)]
   exact h1
  ·simp only [Tr.eff,Tr.eeff,putO_get,if_neg (free_spec d2 hn),kill_get_eq]
   cases hk:x.i.op.kill x.s.e x.v with
   | none=>exact h1
   | some j=>
    obtain ⟨l1,l2,sh,a,l3⟩:=load_off nx
    have hj:=kill_in hk
    have hnt:n∈y.i.op.temps:=by
     unfold Ins.look at hn
     rw [l2] at hn
     simpa using hn
    have hb:b=true:=by
     have c1:y.i.op.cls=.r:=by rw [l3]; rfl
     have c2:x.i.op.cls=.w:=by
      cases hop:x.i.op <;> rw [hop] at hk <;> first | rfl | (simp only [Op.kill] at hk; cases hk)
     rw [c1,c2] at hc
     simpa [indepC] using hc.symm
    have hcl:s.e.clear j n=true:=(clear_iff h1).2 fun hi=>hap hb j (refsOf_mem hnt hv hi) hj
    simp only [hcl,if_true]
    exact h1
 have es:∀n,(y.eff (x.eff s)).e.get n=(x.eff (y.eff s)).e.get n:=by
  intro n
  rcases nx with nx | nx
  ·simp only [Tr.eff,eeff_all ny,eeff_all nx]
   by_cases h1:y.i.dst=some n
   ·have h2:=dstNe_spec d3 h1
    simp only [h1,h2,if_true,if_false]
   ·simp only [h1,if_false]
  ·show (y.eeff (x.eeff s.e)).get n=(x.eeff (y.eeff s.e)).get n
   rw [eeff_all ny,eeff_kill x (y.eeff s.e),eeff_kill x s.e]
   by_cases h1:y.i.dst=some n
   ·have h2:=dstNe_spec d3 h1
    obtain ⟨d,hd⟩:=load_val vy aya nx h1
    have hg:(y.eeff s.e).get n=some y.v:=by rw [eeff_all ny,if_pos h1]
    rw [if_pos h1,if_neg h2]
    cases hk:x.i.op.kill x.s.e x.v with
    | none=>exact hg.symm
    | some j=>
     have hcl:(y.eeff s.e).clear j n=true:=(clear_iff hg).2 (by rw [hd]; simp [V.refs])
     simp only [hcl,if_true]
     exact hg.symm
   ·rw [if_neg h1]
    by_cases h2:x.i.dst=some n
    ·rw [if_pos h2,if_pos h2]
    ·rw [if_neg h2,if_neg h2]
     have hg:(y.eeff s.e).get n=s.e.get n:=eeff_get ny h1
     cases hk:x.i.op.kill x.s.e x.v with
     | none=>exact hg.symm
     | some j=>
      have hcl:(y.eeff s.e).clear j n=s.e.clear j n:=by unfold Env.clear; rw [hg]
      simp only [hcl,hg]
 -- what is laid
 have tx:∀i∈x.T,Laid s.h i:=fun i hi=>hp.refsOf (Le.sub lx fun n hn=>by simp [Ins.look,hn]) hi
 have ty:∀i∈y.T,Laid s.h i:=fun i hi=>hp.refsOf (Le.sub ay1 fun n hn=>by simp [Ins.look,hn]) hi
 have ky:∀i,Laid s.h i→Laid (y.heff s.h) i:=vy.keep s aya hp
 have ax3':x.hag (y.heff s.h):=ax3
 have hm:x.hag s.h∧y.hag (x.heff s.h)∧y.heff (x.heff s.h)=x.heff (y.heff s.h):=by
  cases hyx:y.k.isX with
  | true=>
   rcases off_or_z vy vx hc hyx with hk | hk
   ·simp only [Tr.hag,Tr.heff,hk] at ay3 ⊢
    exact ⟨trivial,ay3,trivial⟩
   ·simp only [Tr.hag,Tr.heff,hk] at ay3 ⊢
    exact ⟨trivial,ay3,trivial⟩
  | false=>
   cases hxx:x.k.isX with
   | true=>
    rcases off_or_z' vy vx hc hxx with hk | hk
    ·simp only [Tr.hag,Tr.heff,hk] at ax3' ⊢
     exact ⟨ax3',trivial,trivial⟩
    ·simp only [Tr.hag,Tr.heff,hk] at ax3' ⊢
     exact ⟨ax3',trivial,trivial⟩
   | false=>
    -- both reach the same place only if they are told to be apart
    have two:∀i,i∈y.T→i∈x.T→(y.i.op.cls=.s∨y.i.op.cls=.w∨(y.i.op.cls=.r∧(x.i.op.cls=.s∨x.i.op.cls=.w)))→(x.i.op.cls=.r∨x.i.op.cls=.s∨x.i.op.cls=.w)→False:=by
     intro i h1 h2 h3 h4
     have hb:b=true:=by
      rcases h3 with h3 | h3 | ⟨h3,h5⟩
      ·rcases h4 with h4 | h4 | h4 <;> rw [h3,h4] at hc <;> simpa [indepC] using hc.symm
      ·rcases h4 with h4 | h4 | h4 <;> rw [h3,h4] at hc <;> simpa [indepC] using hc.symm
      ·rcases h5 with h5 | h5 <;> rw [h3,h5] at hc <;> simpa [indepC] using hc.symm
     exact hap hb i h1 h2
    have D1:∀i,y.k.wr i→¬ x.k.rd x.T i:=by
     intro i hw hr
     rcases wr_of vy hyx ay3 hw with ⟨w1,w2⟩ | ⟨w1,w2⟩
     ·rcases rd_of vx hxx ax3' hr with ⟨r1,r2⟩ | ⟨r1,_⟩
      ·exact two i w1 r1 (w2.imp id .inl) r2
      ·exact hole_laid r1 (ky i (ty i w1))
     ·rcases rd_of vx hxx ax3' hr with ⟨r1,r2⟩ | ⟨r1,_⟩
      ·exact hole_laid w1 (tx i r1)
      ·exact hole_laid r1 w2
    have D2:∀i,x.k.wr i→¬ y.k.rd y.T i:=by
     intro i hw hr
     rcases wr_of vx hxx ax3' hw with ⟨w1,w2⟩ | ⟨w1,w2⟩
     ·rcases rd_of vy hyx ay3 hr with ⟨r1,r2⟩ | ⟨r1,_⟩
      ·refine two i r1 w1 ?_ (.inr w2)
       rcases r2 with r2 | r2 | r2
       ·exact .inr (.inr ⟨r2,w2⟩)
       ·exact .inl r2
       ·exact .inr (.inl r2)
      ·exact hole_laid r1 (tx i w1)
     ·rcases rd_of vy hyx ay3 hr with ⟨r1,r2⟩ | ⟨r1,r2⟩
      ·exact hole_laid w1 (ky i (ty i r1))
      ·rcases wr_of vy hyx ay3 r2 with ⟨q1,q2⟩ | ⟨q1,q2⟩
       ·exact hole_laid r1 (ty i q1)
       ·exact hole_laid w1 q2
    have rw_:∀{t:Tr},t.Valid O np→t.k.isX=false→∀i,t.k.wr i→t.k.rd t.T i:=by
     intro t vt ht i hi
     have vc:=vt.cls
     cases hk:t.k with
     | off | z | r=>rw [hk] at hi; exact hi.elim
     | a j b=>rw [hk] at hi; exact hi
     | s j b=>
      rw [hk] at hi
      simp only [hk] at vc
      obtain rfl:i=j:=hi
      exact vc.2.2
     | w W h'=>rw [hk] at hi; exact hi
     | x h'=>rw [hk] at ht; cases ht
    refine ⟨hag_at hxx (fun i hi=>(heff_out hyx (fun hw=>D1 i hw hi) s.h).symm) ax3',hag_at hyx (fun i hi=>heff_out hxx (fun hw=>D2 i hw hi) s.h) ay3,List.ext_getElem? fun i=>?_⟩
    by_cases hw:x.k.wr i
    ·have h1:¬ y.k.wr i:=fun h=>D1 i h (rw_ vx hxx i hw)
     rw [heff_out hyx h1,heff_at hxx (heff_out hyx h1 s.h)]
    ·rw [heff_out hxx hw,heff_at hyx (heff_out hxx hw s.h)]
 exact ⟨⟨lx,hm.1⟩,⟨ly,hm.2.1⟩,⟨hm.2.2,es⟩⟩
end Pe

namespace Pe
open Go
variable {P:Program} {num:Nat→Nat}
def Chain:List Tr→St→St→Prop
 | [],s,s'=>Sim s s'
 | t::L,s,s'=>t.ag s∧Chain L (t.eff s) s'
theorem Chain.sim:∀{L:List Tr} {s t s':St},Sim s t→Chain L s s'→Chain L t s'
 | [],_,_,_,h,g=>h.symm.trans g
 | x::_L,_s,_t,_s',h,g=>⟨h.ag g.1,Chain.sim (h.eff x) g.2⟩
def Ind (y x:Tr):Prop:=indepD y.i x.i=true∧∃b,indepC y.i.op.cls x.i.op.cls=some b∧(b=true→∀i∈y.T,i ∉ x.T)
theorem front {O:Oracle} {np:Nat} {x:Tr} {post:List Tr} {s':St} (vx:x.Valid O np):∀{pre:List Tr} {s:St},PI s→(∀t∈pre,t.Valid O np)→Chain (pre++x::post) s s'→(∀y∈pre,Ind y x)→x.ag s∧Chain (pre++post) (x.eff s) s'
 | [],s,_,_,hc,_=>hc
 | y::pre,s,hp,hv,hc,hi=>by
  have vy:=hv y (by simp)
  obtain ⟨ay,hc⟩:=hc
  obtain ⟨ax,hc'⟩:=front vx (pre:=pre) (vy.laid s ay hp) (fun t ht=>hv t (by simp [ht])) hc (fun z hz=>hi z (by simp [hz]))
  obtain ⟨i1,b,i2,i3⟩:=hi y (by simp)
  obtain ⟨g1,g2,g3⟩:=swap hp vy vx ay ax i1 i2 i3
  exact ⟨g1,g2,Chain.sim g3.symm hc'⟩
def Seq:List Tr→St→St→Prop
 | [],s,s'=>s=s'
 | t::L,s,s'=>t.s=s∧t.ag s∧t.i.side s.e=true∧Seq L (t.eff s) s'
theorem Seq.chain:∀{L:List Tr} {s s':St},Seq L s s'→Chain L s s'
 | [],_,_,h=>h▸Sim.refl _
 | _::_,_,_,h=>⟨h.2.1,Seq.chain h.2.2.2⟩
theorem seq_of {O:Oracle} {np:Nat}:∀{is:List Ins} {s s':St},evalList O np is s=some s'→∃L:List Tr,L.map (·.i)=is∧(∀t∈L,t.Valid O np)∧Seq L s s'
 | [],s,s',h=>by
  simp only [evalList,Option.some.injEq] at h
  exact ⟨[],rfl,by simp,h⟩
 | i::is,s,s',h=>by
  simp only [evalList] at h
  obtain ⟨s1,h1,h⟩:=Option.bind_eq_some_iff.1 h
  obtain ⟨L,g1,g2,g3⟩:=seq_of h
  have hside:i.side s.e=true:=by
   unfold evalIns at h1
   split at h1
   ·assumption
   ·cases h1
  obtain ⟨t,e1,e2,e3,e4,e5⟩:=tr_of (eval_exec h1)
  exact ⟨t::L,by simp [e1,g1],by simpa using ⟨e5,g2⟩,e2,e3,by rw [e1]; exact hside,by rw [e4]; exact g3⟩
theorem side_apart {i:Ins} {e:Env} (h:i.side e=true) {n:Nat} (hn:n∈i.apart) {v:V} (hv:e.get n=some v) {j:Nat} (hj:j∈v.refs):j ∉ e.refsOf i.op.temps:=by
 intro hx
 have hmem:j∈e.refsOf i.apart:=refsOf_mem hn hv hj
 unfold Ins.side at h
 have hne:i.apart.isEmpty=false:=by
  cases hq:i.apart with
  | nil=>rw [hq] at hn; simp at hn
  | cons _ _=>rfl
 rw [hne] at h
 simp only [Bool.false_or] at h
 have h1:=List.all_eq_true.1 h j hmem
 simp only [Bool.not_eq_true',List.any_eq_false,beq_iff_eq] at h1
 exact h1 j hx rfl
theorem Seq.keeps {ns:List Nat}:∀{mid:List Tr} {x:Tr} {post:List Tr} {s s':St},Seq (mid++x::post) s s'→(∀z∈mid,(z.i.op.isAppend=false∨∀n∈ns,n∈z.i.apart)∧Ins.free z.i.dst ns=true)→x.s=x.s∧x.i.side x.s.e=true∧∀n∈ns,x.s.e.get n=s.e.get n
 | [],x,post,s,s',h,_=>by
  obtain ⟨rfl,_,h2,_⟩:=h
  exact ⟨rfl,h2,fun _ _=>rfl⟩
 | z::mid,x,post,s,s',h,hm=>by
  obtain ⟨hzs,_,hside,h⟩:=h
  obtain ⟨_,h2,h3⟩:=Seq.keeps h fun y hy=>hm y (by simp [hy])
  obtain ⟨m1,m2⟩:=hm z (by simp)
  refine ⟨rfl,h2,fun n hn=>(h3 n hn).trans ?_⟩
  rw [Tr.eff]
  rcases m1 with m1 | m1
  ·exact eeff_get m1 (free_spec m2 hn)
  ·show (z.eeff s.e).get n=s.e.get n
   rw [eeff_kill,if_neg (free_spec m2 hn)]
   cases hk:z.i.op.kill z.s.e z.v with
   | none=>rfl
   | some j=>
    have hj:=kill_in hk
    rw [hzs] at hj
    cases hv:s.e.get n with
    | none=>
     have hcl:s.e.clear j n=true:=by unfold Env.clear; rw [hv]
     simp only [hcl,if_true]
    | some v=>
     have hcl:s.e.clear j n=true:=(clear_iff hv).2 fun hi=>side_apart hside (m1 n hn) hv hi hj
     simp only [hcl,if_true]
theorem Seq.apart:∀{pre:List Tr} {y x:Tr} {mid post:List Tr} {s s':St},Seq (pre++y::(mid++x::post)) s s'→(∀z∈y::mid,(z.i.op.isAppend=false∨∀n∈y.i.op.temps,n∈z.i.apart)∧Ins.free z.i.dst y.i.op.temps=true)→(∀n∈y.i.op.temps,n∈x.i.apart)→∀i∈y.T,i ∉ x.T
 | z::pre,y,x,mid,post,s,s',h,hm,ha=>Seq.apart (pre:=pre) h.2.2.2 hm ha
 | [],y,x,mid,post,s,s',h,hm,ha=>by
  intro i hi hx
  have hys:y.s=s:=h.1
  obtain ⟨_,hside,hk⟩:=Seq.keeps (ns:=y.i.op.temps) (mid:=y::mid) (s:=s) h hm
  obtain ⟨n,hn,v,hv,hiv⟩:=mem_refsOf hi
  have hn':=ha n hn
  have hxv:x.s.e.get n=some v:=by rw [hk n hn,←hys]; exact hv
  have hmem:i∈x.s.e.refsOf x.i.apart:=refsOf_mem hn' hxv hiv
  unfold Ins.side at hside
  have hne:x.i.apart.isEmpty=false:=by
   cases hq:x.i.apart with
   | nil=>rw [hq] at hn'; simp at hn'
   | cons _ _=>rfl
  rw [hne] at hside
  simp only [Bool.false_or] at hside
  have h1:=List.all_eq_true.1 hside i hmem
  simp only [Bool.not_eq_true',List.any_eq_false,beq_iff_eq] at h1
  exact h1 i hx rfl
def maskOf (acc:List Nat) (o:Oper):Nat:=o.after.toList.foldr (fun e m=>if Region.binds .any e then m ||| (1 <<< e.on) ||| acc.getD e.on 0 else m) 0
def maskGo:List Oper→List Nat→List Nat
 | [],acc=>acc
 | o::os,acc=>maskGo os (acc++[maskOf acc o])
def pairOk (is:List Ins) (ky kx:Nat) (y x:Ins):Bool:=
 indepD y x&&match indepC y.op.cls x.op.cls with
  | some false=>true
  | some true=>y.op.temps.all (x.apart.contains ·)&&((is.drop ky).take (kx-ky)).all fun z=>(!z.op.isAppend||y.op.temps.all (z.apart.contains ·))&&Ins.free z.dst y.op.temps
  | none=>false
def drawOk (ops:List Oper) (is:List Ins):Bool:=
 let ms:=maskGo ops []
 (List.range is.length).all fun kx=>match ops[kx]?,is[kx]? with
  | some o,some x=>(o.after.toList.all fun e=>!Region.binds .any e||decide (e.on<kx)) &&
   (List.range kx).all fun ky=>(ms.getD kx 0).testBit ky||match is[ky]? with | some y=>pairOk is ky kx y x | none=>false
  | _,_=>false
def Closed (ops:List Oper) (L:Nat→Prop):Prop:=∀(k:Nat) o,ops[k]? = some o→L k→∀e∈o.after.toList,Region.binds .any e=true→L e.on
def MaskGood (ops:List Oper) (acc:List Nat):Prop:=
 ∀(k m:Nat),acc[k]? = some m→∀o,ops[k]? = some o→∀L,Closed ops L→(∀e∈o.after.toList,Region.binds .any e=true→L e.on)→∀y,m.testBit y=true→L y
theorem maskOf_good {ops:List Oper} {acc:List Nat} (hl:acc.length≤ops.length) (hg:MaskGood ops acc) {L:Nat→Prop} (hL:Closed ops L) (es:List Edge) (hes:∀e∈es,Region.binds .any e=true→L e.on) (y:Nat)
 (hy:(es.foldr (fun e m=>if Region.binds .any e then m ||| (1 <<< e.on) ||| acc.getD e.on 0 else m) 0).testBit y=true):L y:=by
 induction es with
 | nil=>simp at hy
 | cons e es ih=>
  have ih':=ih fun e' he'=>hes e' (by simp [he'])
  simp only [List.foldr_cons] at hy
  split at hy
  ·rename_i hb
   simp only [Nat.testBit_or,Bool.or_eq_true] at hy
   have he:=hes e (by simp) hb
   rcases hy with (hy | hy) | hy
   ·exact ih' hy
   ·have:e.on=y:=by
     rw [Nat.shiftLeft_eq,Nat.one_mul,Nat.testBit_two_pow] at hy
     simpa using hy
    exact this▸he
   ·by_cases hk:e.on<acc.length
    ·have h1:acc[e.on]? = some acc[e.on]:=List.getElem?_eq_getElem hk
     have h2:acc.getD e.on 0=acc[e.on]:=by simp [List.getD_eq_getElem?_getD,h1]
     have h3:ops[e.on]? = some ops[e.on]:=List.getElem?_eq_getElem (by omega)
     rw [h2] at hy
     exact hg e.on _ h1 _ h3 L hL (fun e' he' hb'=>hL e.on _ h3 he e' he' hb') y hy
    ·have h1:acc[e.on]? = none:=List.getElem?_eq_none (by omega)
     simp [List.getD_eq_getElem?_getD,h1] at hy
  ·exact ih' hy
theorem maskGo_good {ops:List Oper}:∀(os:List Oper) (acc:List Nat),(∃pre,ops=pre++os∧pre.length=acc.length)→MaskGood ops acc→MaskGood ops (maskGo os acc)
 | [],acc,_,hg=>hg
 | o::os,acc,⟨pre,e,hl⟩,hg=>by
  refine maskGo_good os _ ⟨pre++[o],by simp [e],by simp [hl]⟩ ?_
  intro k m hk o' ho' L hL hp y hy
  rcases Nat.lt_or_ge k acc.length with h | h
  ·rw [List.getElem?_append_left h] at hk
   exact hg k m hk o' ho' L hL hp y hy
  ·rw [List.getElem?_append_right h] at hk
   have hk0:k-acc.length=0:=by
    rcases Nat.eq_zero_or_pos (k-acc.length) with h0 | h0
    ·exact h0
    ·rw [List.getElem?_eq_none (by simp only [List.length_cons,List.length_nil]; omega)] at hk; cases hk
   rw [hk0] at hk
   simp only [List.getElem?_cons_zero,Option.some.injEq] at hk
   subst hk
   have hkl:k=pre.length:=by omega
   have:o'=o:=by
    rw [e,hkl,List.getElem?_append_right (Nat.le_refl _),Nat.sub_self] at ho'
    simpa using ho'.symm
   subst this
   exact maskOf_good (by rw [e]; simp; omega) hg hL _ hp y hy
theorem masks_good (ops:List Oper):MaskGood ops (maskGo ops []):=
 maskGo_good ops [] ⟨[],rfl,rfl⟩ (by intro k m hk; simp at hk)
def t0:Tr:=⟨default,⟨[],[]⟩,.off,default⟩
theorem SR.pi {C:Cx} {φ:Loc} {s:St} {tmps:Array Value} (hs:SR C φ s tmps):PI s:=by
 intro n v hn i hi
 obtain ⟨u,_,h⟩:=hs.env n v hn
 exact RX.refs v u h i hi
theorem SR.sim {C:Cx} {φ:Loc} {s t:St} {tmps:Array Value} (hs:SR C φ s tmps) (h:Sim s t):SR C φ t tmps:=
 ⟨h.h▸hs.hr,hs.bd,fun n v hn=>by rw [←h.e n] at hn; rw [←h.h]; exact hs.env n v hn⟩
theorem getD_some {α:Type} {l:List α} {d:α} {k:Nat} {x:α} (h:l[k]? = some x):l.getD k d=x:=by
 rw [List.getD_eq_getElem?_getD,h]; rfl
theorem any_sound {O:Oracle} {ops:Array Oper} {N np:Nat} {Q:Exit→Act→World→Prop} {is:List Ins} (hok:insOks P num ops N is ops.toList=true) (hdr:drawOk ops.toList is=true) (hO:CallOk P num O)
 {L:List Tr} (hL:L.map (·.i)=is) (hV:∀t∈L,t.Valid O np) {s0 s':St} (hseq:Seq L s0 s') :
 ∀(fuel:Nat) (listed:Array Bool) (rem:List Nat) (C:Cx) (φ:Loc) (s:St) (a:Act),rem.length=fuel→rem.Pairwise (· < ·)→listed.size=ops.size→(∀j,j∈rem↔listed[j]? = some false) →
 Closed ops.toList (fun j=>listed[j]? = some true)→C.num=num→SR C φ s a.tmps→N≤a.tmps.size→Chain (rem.map fun k=>L.getD k t0) s s' →
 (∀C' φ' a',C'.num=num→Runs np C C' φ φ' s.h s'.h→SR C' φ' s' a'.tmps→a'.tmps.size=a.tmps.size→a'.defers=a.defers→Q .normal a' C'.w)→wpAny P .any ops Q fuel listed a C.w:=by
 obtain ⟨hlen,hget⟩:=insOks_get hok
 have hLlen:L.length=is.length:=by rw [←hL]; simp
 have hol:ops.toList.length=ops.size:=by simp
 intro fuel
 induction fuel with
 | zero=>
  intro listed rem C φ s a hrl _ _ hrem _ hC hs hN hch hQ
  have:rem=[]:=List.length_eq_zero_iff.1 hrl
  subst this
  simp only [List.map_nil,Chain] at hch
  refine ⟨?_,?_⟩
  ·apply List.eq_nil_iff_forall_not_mem.2
   intro j hj
   have h1:=(mem_ready.1 hj).1
   have:listed[j]? = some false:=by
    cases hq:listed[j]? with
    | none=>rw [Array.getD_eq_getD_getElem?,hq] at h1; cases h1
    | some b=>rw [Array.getD_eq_getD_getElem?,hq] at h1; simpa using h1
   have:=(hrem j).2 this
   simp at this
  ·refine hQ C φ a hC ?_ (hs.sim hch) rfl rfl
   rw [←hch.h]
   exact .refl np hs.hr hs.bd
 | succ fuel ih=>
  intro listed rem C φ s a hrl hsort hsz hrem hcl hC hs hN hch hQ
  have hlt:∀j,j∈rem→j<ops.size:=by
   intro j hj
   have:=(hrem j).1 hj
   rw [←hsz]; exact (Array.getElem?_eq_some_iff.1 this).1
  -- a line's facts
  have hline:∀j,j<ops.size→∃t i o,L[j]? = some t∧is[j]? = some i∧t.i=i∧ops[j]? = some o∧t.Valid O np∧insOk P num ops N i o=true:=by
   intro j hj
   have hjL:j<L.length:=by omega
   have e1:L[j]? = some L[j]:=List.getElem?_eq_getElem hjL
   have e2:is[j]? = some L[j].i:=by rw [←hL,List.getElem?_map,e1]; rfl
   have e3:ops.toList[j]? = some ops.toList[j]:=List.getElem?_eq_getElem (by omega)
   exact ⟨L[j],L[j].i,ops.toList[j],e1,e2,rfl,by simp,hV _ (List.getElem_mem hjL),hget j _ _ e2 e3⟩
  have hdr':∀kx,kx<ops.size→∀o x,ops[kx]? = some o→is[kx]? = some x→(∀e∈o.after.toList,Region.binds .any e=true→e.on<kx)∧∀ky,ky<kx→((maskGo ops.toList []).getD kx 0).testBit ky=true∨∃y,is[ky]? = some y∧pairOk is ky kx y x=true:=by
   intro kx hkx o x ho hx
   unfold drawOk at hdr
   have h1:=List.all_eq_true.1 hdr kx (List.mem_range.2 (by omega))
   have ho':ops.toList[kx]? = some o:=by simpa using ho
   rw [ho',hx] at h1
   simp only [Bool.and_eq_true] at h1
   refine ⟨fun e he hb=>?_,fun ky hky=>?_⟩
   ·have:=List.all_eq_true.1 h1.1 e he
    simpa [hb] using this
   ·have:=List.all_eq_true.1 h1.2 ky (List.mem_range.2 hky)
    simp only [Bool.or_eq_true] at this
    refine this.imp id fun h=>?_
    split at h
    ·rename_i y hy; exact ⟨y,hy,h⟩
    ·cases h
  refine ⟨fun h0=>?_,fun i hi=>?_⟩
  ·-- the first line that is left is ready
   exfalso
   cases rem with
   | nil=>simp at hrl
   | cons r rem=>
    have hr:r<ops.size:=hlt r (by simp)
    obtain ⟨t,ir,o,e1,e2,e3,e4,_⟩:=hline r hr
    have hmem:r∈Region.ready .any ops listed:=by
     rw [mem_ready]
     have h1:=(hrem r).1 (by simp)
     refine ⟨by rw [Array.getD_eq_getD_getElem?,h1]; rfl,o,e4,fun e he hb=>?_⟩
     have hon:=(hdr' r hr o ir e4 e2).1 e (by simpa using he) hb
     have hnot:e.on ∉ r::rem:=by
      intro hm
      rcases List.mem_cons.1 hm with rfl | hm
      ·omega
      ·have:=List.rel_of_pairwise_cons hsort hm
       omega
     have hin:e.on<listed.size:=by omega
     have h2:listed[e.on]? = some listed[e.on]:=Array.getElem?_eq_getElem hin
     rw [Array.getD_eq_getD_getElem?,h2]
     cases hq:listed[e.on] with
     | true=>rfl
     | false=>exact absurd ((hrem e.on).2 (by rw [h2,hq])) hnot
    rw [h0] at hmem
    simp at hmem
  ·obtain ⟨hun,o,ho,hpre⟩:=mem_ready.1 hi
   have hil:i<ops.size:=(Array.getElem?_eq_some_iff.1 ho).1
   have hif:listed[i]? = some false:=by
    have h2:listed[i]? = some (listed[i]'(by omega)):=Array.getElem?_eq_getElem (by omega)
    rw [Array.getD_eq_getD_getElem?,h2] at hun
    rw [h2]; exact congrArg some hun
   have hirem:=(hrem i).2 hif
   obtain ⟨pre,post,rfl⟩:=List.append_of_mem hirem
   obtain ⟨t,ii,o',e1,e2,e3,e4,e5,e6⟩:=hline i hil
   obtain rfl:o'=o:=Option.some.inj (e4.symm.trans ho)
   have hpreL:∀e∈o'.after.toList,Region.binds .any e=true→listed[e.on]? = some true:=by
    intro e he hb
    have:=hpre e (by simpa using he) hb
    cases hq:listed[e.on]? with
    | none=>rw [Array.getD_eq_getD_getElem?,hq] at this; cases this
    | some b=>rw [Array.getD_eq_getD_getElem?,hq] at this; simpa using this
   have hsort':=List.pairwise_append.1 hsort
   have hind:∀y∈pre,Ind (L.getD y t0) (L.getD i t0):=by
    intro y hy
    have hyi:y<i:=hsort'.2.2 y hy i (by simp)
    have hyrem:y∈pre++i::post:=by simp [hy]
    obtain ⟨ty,iy,oy,y1,y2,y3,y4,y5,y6⟩:=hline y (by omega)
    rcases (hdr' i hil o' ii ho e2).2 y hyi with h1 | ⟨y',h1,h2⟩
    ·exfalso
     have hm:(maskGo ops.toList [])[i]? = some ((maskGo ops.toList []).getD i 0):=by
      cases hq:(maskGo ops.toList [])[i]? with
      | none=>rw [List.getD_eq_getElem?_getD,hq] at h1; simp at h1
      | some m=>rw [getD_some hq]
     have:=masks_good ops.toList i _ hm o' (by simpa using ho) _ hcl hpreL y h1
     rw [(hrem y).1 hyrem] at this
     cases this
    ·obtain rfl:y'=iy:=Option.some.inj (h1.symm.trans y2)
     rw [getD_some y1,getD_some e1]
     unfold pairOk at h2
     simp only [Bool.and_eq_true] at h2
     obtain ⟨p1,p2⟩:=h2
     rw [←y3,←e3] at p1 p2
     refine ⟨p1,?_⟩
     split at p2
     ·rename_i hc
      exact ⟨false,hc,by simp⟩
     ·rename_i hc
      refine ⟨true,hc,fun _=>?_⟩
      simp only [Bool.and_eq_true] at p2
      obtain ⟨q1,q2⟩:=p2
      -- the text between them
      have hyl:y<L.length:=by omega
      have hil':i<L.length:=by omega
      have split1:L=L.take y++L[y]::(((L.drop (y+1)).take (i-y-1))++L[i]::L.drop (i+1)):=by
       have s1:L.drop (y+1)=(L.drop (y+1)).take (i-y-1)++(L.drop (y+1)).drop (i-y-1):=(List.take_append_drop _ _).symm
       have s2:(L.drop (y+1)).drop (i-y-1)=L[i]::L.drop (i+1):=by
        rw [List.drop_drop,show y+1+(i-y-1)=i by omega,List.drop_eq_getElem_cons hil']
       have s3:L.drop (y+1)=(L.drop (y+1)).take (i-y-1)++L[i]::L.drop (i+1):=s1.trans (by rw [s2])
       have s4:L=L.take y++L[y]::L.drop (y+1):=by rw [←List.drop_eq_getElem_cons hyl,List.take_append_drop]
       exact s4.trans (congrArg (fun q=>L.take y++L[y]::q) s3)
      have ey:L[y]=ty:=Option.some.inj ((List.getElem?_eq_getElem hyl).symm.trans y1)
      have ei:L[i]=t:=Option.some.inj ((List.getElem?_eq_getElem hil').symm.trans e1)
      rw [ey,ei] at split1
      have hseq':=hseq
      rw [split1] at hseq'
      refine Seq.apart hseq' ?_ ?_
      ·intro z hz
       have hz':z∈(L.drop y).take (i-y):=by
        rw [List.drop_eq_getElem_cons hyl,ey,show i-y=(i-y-1)+1 by omega,List.take_succ_cons]
        exact hz
       have hzi:z.i∈(is.drop y).take (i-y):=by
        rw [←hL,←List.map_drop,←List.map_take]
        exact List.mem_map_of_mem hz'
       have:=List.all_eq_true.1 q2 z.i hzi
       simpa using this
      ·intro n hn
       have:=List.all_eq_true.1 q1 n hn
       simpa using this
     ·cases p2
   have hvp:∀t∈pre.map (fun k=>L.getD k t0),t.Valid O np:=by
    intro t ht
    obtain ⟨y,hy,rfl⟩:=List.mem_map.1 ht
    obtain ⟨ty,_,_,y1,_,_,_,y5,_⟩:=hline y (hlt y (by simp [hy]))
    rw [getD_some y1]; exact y5
   rw [List.map_append,List.map_cons] at hch
   obtain ⟨hag,hch'⟩:=front (by rw [getD_some e1]; exact e5) hs.pi hvp hch (by
    intro t ht
    obtain ⟨y,hy,rfl⟩:=List.mem_map.1 ht
    exact hind y hy)
   rw [getD_some e1] at hag hch'
   have hex:=e5.exec s hag
   rw [e3] at hex
   refine ins_sound (hC▸hO) hs hN (hC▸e6) ho hex fun C' φ' u rn hs'=>?_
   have hC':C'.num=num:=rn.st.le.num.trans hC
   have hnd:(pre++i::post).Nodup:=hsort.imp fun h=>by omega
   have hgetset:∀j:Nat,(listed.setIfInBounds i true)[j]? = if j=i then some true else listed[j]?:=by
    intro j
    rw [Array.getElem?_setIfInBounds]
    by_cases hij:i=j
    ·subst hij; simp [hsz,hil]
    ·rw [if_neg hij,if_neg (Ne.symm hij)]
   refine ih (listed.setIfInBounds i true) (pre++post) C' φ' _ _ (by simp at hrl ⊢; omega) ?_ (by simpa using hsz) ?_ ?_ hC' hs' (by rw [put_size]; exact hN) (by rw [List.map_append]; exact hch') ?_
   ·exact hsort.sublist (List.Sublist.append (List.Sublist.refl _) (List.sublist_cons_self _ _))
   ·intro j
    rw [hgetset]
    by_cases hij:j=i
    ·subst hij
     rw [if_pos rfl]
     refine ⟨fun h=>?_,fun h=>by cases h⟩
     have hn:=List.nodup_append.1 hnd
     rcases List.mem_append.1 h with h | h
     ·exact absurd rfl (hn.2.2 j h j (by simp))
     ·exact absurd h (List.nodup_cons.1 hn.2.1).1
    ·rw [if_neg hij,←hrem j]
     simp [hij]
   ·intro k o2 hk hkl e he hb
    rw [hgetset] at hkl ⊢
    by_cases hei:e.on=i
    ·rw [if_pos hei]
    ·rw [if_neg hei]
     by_cases hki:k=i
     ·subst hki
      have:o2=o':=by
       have h2:ops[k]? = some o2:=by simpa using hk
       exact Option.some.inj (h2.symm.trans ho)
      subst this
      exact hpreL e he hb
     ·rw [if_neg hki] at hkl
      exact hcl k o2 hk hkl e he hb
   ·intro C2 φ2 a2 h2 rn2 hs2 z2 d2
    refine hQ C2 φ2 a2 h2 (rn.trans rn2) hs2 (by rw [z2,put_size]) ?_
    rw [d2]
    cases o'.dst <;> rfl
end Pe

namespace Pe
open Go
variable {P:Program} {num:Nat→Nat}
def codeOk (P:Program) (num:Nat→Nat) (N:Nat):Cd→Code→Bool
 | .skip,.skip=>true
 | .region is _,.region _ ops draw=>insOks P num ops N is ops.toList&&(if draw then drawOk ops.toList is else true)
 | .seq a b,.seq x y=>codeOk P num N a x&&codeOk P num N b y
 | .cond c a b,.cond c' x y=>argOk num c c'&&codeOk P num N a x&&codeOk P num N b y
 | .block i c,.block j x=>i == j&&codeOk P num N c x
 | .loop c,.loop x=>codeOk P num N c x
 | .exit i,.exit j=>i == j
 | .ret,.ret=>true
 | _,_=>false
def Out.exit':Out→Exit
 | .normal=>.normal
 | .exit id=>.exit id
 | .ret=>.ret
def Fits (num:Nat→Nat) (np:Nat) (Q:Exit→Act→World→Prop) (o:Out) (C:Cx) (φ:Loc) (h:Heap) (s':St) (a:Act):Prop:=
 ∀C' φ' a',C'.num=num→Runs np C C' φ φ' h s'.h→SR C' φ' s' a'.tmps→a'.tmps.size=a.tmps.size→a'.defers=a.defers→Q o.exit' a' C'.w
theorem region_sound {O:Oracle} {np N:Nat} (hO:CallOk P num O) (hm:P.follows .mixedOrders=true) {is:List Ins} {ks:List Nat} {id:Nat} {ops:Array Oper} {draw:Bool} (hok:codeOk P num N (.region is ks) (.region id ops draw)=true)
 {C:Cx} {φ:Loc} {s s1:St} {a:Act} (hC:C.num=num) (hs:SR C φ s a.tmps) (hN:N≤a.tmps.size) (he:evalList O np is s=some s1) {Q:Exit→Act→World→Prop}
 (hQ:Fits num np Q .normal C φ s.h ⟨s1.e.keep ks,clean (s1.e.keep ks) np 0 s1.h⟩ a):(Code.region id ops draw).wp P Q a C.w:=by
 simp only [codeOk,Bool.and_eq_true] at hok
 obtain ⟨hok,hdr⟩:=hok
 have hlen:=(insOks_get hok).1
 have hend:∀C' φ' a',C'.num=num→Runs np C C' φ φ' s.h s1.h→SR C' φ' s1 a'.tmps→a'.tmps.size=a.tmps.size→a'.defers=a.defers→Q .normal a' C'.w:=by
  intro C' φ' a' h1 h2 h3 h4 h5
  obtain ⟨r1,r2⟩:=region_end np h3 ks
  exact hQ C' φ' a' h1 (h2.trans r1) r2 h4 h5
 cases draw with
 | false=>
  refine wp_region ?_
  have:=ops_sound (Q:=Q) hok hO is.length 0 (by omega) C φ s s1 a hC hs hN (by simpa using he) hend
  rw [hlen] at this
  rw [List.range_eq_range']
  simpa using this
 | true=>
  simp only [if_true] at hdr
  refine wp_region_any hm ?_
  obtain ⟨st,k⟩:=step_same (w':={ C.w with drawn:=C.w.drawn+1 }) hs.hr hs.bd ⟨rfl,rfl,rfl,rfl⟩
  have hs':SR { C with w:={ C.w with drawn:=C.w.drawn+1 } } φ s a.tmps:=⟨st.hr,st.bd,fun n v hn=>by
   obtain ⟨u,h1,h2⟩:=hs.env n v hn
   exact ⟨u,h1,k v u (by simp) h2⟩⟩
  obtain ⟨L,g1,g2,g3⟩:=seq_of he
  have hLl:L.length=ops.size:=by
   have:L.length=is.length:=by rw [←g1]; simp
   rw [this,hlen]; simp
  refine any_sound (s0:=s) (s':=s1) hok hdr hO g1 g2 g3 ops.size (Array.replicate ops.size false) (List.range ops.size) { C with w:={ C.w with drawn:=C.w.drawn+1 } } φ s a (by simp) List.pairwise_lt_range (by simp) ?_ ?_ hC hs' hN ?_ ?_
  ·intro j
   rw [List.mem_range,Array.getElem?_replicate]
   split <;> simp_all
  ·intro k o hk hkl
   rw [Array.getElem?_replicate] at hkl
   split at hkl <;> simp at hkl
  ·have:(List.range ops.size).map (fun k=>L.getD k t0)=L:=by
    apply List.ext_getElem?
    intro i
    rw [List.getElem?_map]
    by_cases hi:i<ops.size
    ·rw [List.getElem?_range hi,Option.map_some,List.getElem?_eq_getElem (by omega)]
     rw [getD_some (List.getElem?_eq_getElem (by omega))]
    ·rw [List.getElem?_eq_none (by simpa using hi),List.getElem?_eq_none (by omega)]; rfl
   rw [this]
   exact g3.chain
  ·intro C' φ' a' h1 h2 h3 h4 h5
   exact hend C' φ' a' h1 (Runs.trans ⟨st,k.mono (by simp)⟩ h2) h3 h4 h5
theorem least {p:Nat→Prop}:∀{m:Nat},p m→∃m,p m∧∀k,p k→m≤k:=by
 intro m
 induction m using Nat.strongRecOn with
 | _ m ih=>
  intro h
  by_cases hx:∃k,k<m∧p k
  ·obtain ⟨k,hk,hp⟩:=hx
   exact ih k hk hp
  ·exact ⟨m,h,fun k hk=>Nat.le_of_not_lt fun hl=>hx ⟨k,hl,hk⟩⟩
theorem wp_rounds {c:Code} {Q:Exit→Act→World→Prop} (R:Nat→Act→World→Prop) (round:∀m a w,R m a w→c.wp P (Exit.then (fun a' w'=>∃m',m'<m∧R m' a' w') Q) a w) {m:Nat} {a:Act} {w:World} (h0:R m a w) :
 (Code.loop c).wp P Q a w:=by
 have hl:∀a w,(∃m,R m a w)→∃m,R m a w∧∀k,R k a w→m≤k:=fun a w ⟨m,h⟩=>least (p:=fun m=>R m a w) h
 let μ:Act→World→Nat:=fun a w=>by
  classical
  exact if h:∃m,R m a w then Classical.choose (hl a w h) else 0
 have hμ:∀a w,(∃m,R m a w)→R (μ a w) a w∧∀k,R k a w→μ a w≤k:=by
  intro a w h
  have:=Classical.choose_spec (hl a w h)
  simp only [μ,h,dite_true]
  exact this
 refine wp_loop (fun a w=>∃m,R m a w) μ ⟨m,h0⟩ fun a w hI=>?_
 refine wp_mono (round (μ a w) a w (hμ a w hI).1) fun e a' w' hq=>?_
 cases e with
 | normal=>
  obtain ⟨m',hm',hR⟩:=hq
  exact ⟨⟨m',hR⟩,Nat.lt_of_le_of_lt ((hμ a' w' ⟨m',hR⟩).2 m' hR) hm'⟩
 | _=>exact hq
theorem code_sound {O:Oracle} {np N:Nat} (hO:CallOk P num O) (hm:P.follows .mixedOrders=true) (n:Nat):∀(c:Cd) (x:Code),codeOk P num N c x=true→∀(C:Cx) (φ:Loc) (s s':St) (a:Act) (o:Out),C.num=num→SR C φ s a.tmps→N≤a.tmps.size →
 evalCd O np n c s=some (o,s')→∀(Q:Exit→Act→World→Prop),Fits num np Q o C φ s.h s' a→x.wp P Q a C.w:=by
 intro c
 induction c with
 | skip=>
  intro x hok C φ s s' a o hC hs hN he Q hQ
  cases x <;> simp only [codeOk,Bool.false_eq_true] at hok
  simp only [evalCd,Option.some.injEq,Prod.mk.injEq] at he
  obtain ⟨rfl,rfl⟩:=he
  exact wp_skip (hQ C φ a hC (.refl np hs.hr hs.bd) hs rfl rfl)
 | ret=>
  intro x hok C φ s s' a o hC hs hN he Q hQ
  cases x <;> simp only [codeOk,Bool.false_eq_true] at hok
  simp only [evalCd,Option.some.injEq,Prod.mk.injEq] at he
  obtain ⟨rfl,rfl⟩:=he
  exact wp_ret (hQ C φ a hC (.refl np hs.hr hs.bd) hs rfl rfl)
 | exit id=>
  intro x hok C φ s s' a o hC hs hN he Q hQ
  cases x <;> simp only [codeOk,Bool.false_eq_true] at hok
  rename_i j
  have:id=j:=by simpa using hok
  subst this
  simp only [evalCd,Option.some.injEq,Prod.mk.injEq] at he
  obtain ⟨rfl,rfl⟩:=he
  exact wp_exit (hQ C φ a hC (.refl np hs.hr hs.bd) hs rfl rfl)
 | region is ks=>
  intro x hok C φ s s' a o hC hs hN he Q hQ
  cases x <;> simp only [codeOk,Bool.false_eq_true] at hok
  simp only [evalCd] at he
  obtain ⟨s1,h1,e⟩:=Option.map_eq_some_iff.1 he
  simp only [Prod.mk.injEq] at e
  obtain ⟨rfl,rfl⟩:=e
  exact region_sound hO hm (by simpa only [codeOk] using hok) hC hs hN h1 hQ
 | seq c d ihc ihd=>
  intro x hok C φ s s' a o hC hs hN he Q hQ
  cases x <;> simp only [codeOk,Bool.false_eq_true,Bool.and_eq_true] at hok
  simp only [evalCd] at he
  obtain ⟨⟨o1,s1⟩,h1,he⟩:=Option.bind_eq_some_iff.1 he
  refine wp_seq (ihc _ hok.1 C φ s s1 a o1 hC hs hN h1 _ ?_)
  intro C1 φ1 a1 k1 r1 hs1 z1 d1
  cases o1 with
  | normal=>
   simp only at he
   refine ihd _ hok.2 C1 φ1 s1 s' a1 o k1 hs1 (by rw [z1]; exact hN) he Q ?_
   intro C2 φ2 a2 k2 r2 hs2 z2 d2
   exact hQ C2 φ2 a2 k2 (r1.trans r2) hs2 (z2.trans z1) (d2.trans d1)
  | exit id=>
   simp only [Option.some.injEq,Prod.mk.injEq] at he
   obtain ⟨rfl,rfl⟩:=he
   exact hQ C1 φ1 a1 k1 r1 hs1 z1 d1
  | ret=>
   simp only [Option.some.injEq,Prod.mk.injEq] at he
   obtain ⟨rfl,rfl⟩:=he
   exact hQ C1 φ1 a1 k1 r1 hs1 z1 d1
 | cond q c d ihc ihd=>
  intro x hok C φ s s' a o hC hs hN he Q hQ
  cases x <;> simp only [codeOk,Bool.false_eq_true,Bool.and_eq_true] at hok
  simp only [evalCd] at he
  split at he
  ·rename_i t ht
   have hb:=RX_bool (arg_sound hs (hC▸hok.1.1) ht)
   cases t with
   | true=>exact wp_cond_true hb (ihc _ hok.1.2 C φ s s' a o hC hs hN (by simpa using he) Q hQ)
   | false=>exact wp_cond_false hb (ihd _ hok.2 C φ s s' a o hC hs hN (by simpa using he) Q hQ)
  ·cases he
 | block id c ihc=>
  intro x hok C φ s s' a o hC hs hN he Q hQ
  cases x <;> simp only [codeOk,Bool.false_eq_true,Bool.and_eq_true] at hok
  rename_i j d
  obtain ⟨hij,hok⟩:=hok
  have:id=j:=by simpa using hij
  subst this
  simp only [evalCd] at he
  obtain ⟨⟨o1,s1⟩,h1,he⟩:=Option.map_eq_some_iff.1 he
  refine wp_block (ihc _ hok C φ s s1 a o1 hC hs hN h1 _ ?_)
  intro C1 φ1 a1 k1 r1 hs1 z1 d1
  cases o1 with
  | normal=>
   simp only [Prod.mk.injEq] at he
   obtain ⟨rfl,rfl⟩:=he
   exact hQ C1 φ1 a1 k1 r1 hs1 z1 d1
  | exit i=>
   simp only at he
   simp only [Out.exit',Exit.inBlock]
   split at he
   ·rename_i hi
    rw [if_pos hi]
    simp only [Prod.mk.injEq] at he
    obtain ⟨rfl,rfl⟩:=he
    exact hQ C1 φ1 a1 k1 r1 hs1 z1 d1
   ·rename_i hi
    rw [if_neg hi]
    simp only [Prod.mk.injEq] at he
    obtain ⟨rfl,rfl⟩:=he
    exact hQ C1 φ1 a1 k1 r1 hs1 z1 d1
  | ret=>
   simp only [Prod.mk.injEq] at he
   obtain ⟨rfl,rfl⟩:=he
   exact hQ C1 φ1 a1 k1 r1 hs1 z1 d1
 | loop c ihc=>
  intro x hok C φ s s' a o hC hs hN he Q hQ
  cases x <;> simp only [codeOk,Bool.false_eq_true] at hok
  rename_i d
  simp only [evalCd] at he
  refine wp_rounds (fun m a1 w=>∃C1 φ1 s1,C1.w=w∧C1.num=num∧Runs np C C1 φ φ1 s.h s1.h∧SR C1 φ1 s1 a1.tmps∧a1.tmps.size=a.tmps.size∧a1.defers=a.defers∧iter (evalCd O np n c) m s1=some (o,s')) ?_ (m:=n) ⟨C,φ,s,rfl,hC,.refl np hs.hr hs.bd,hs,rfl,rfl,he⟩
  rintro m a1 w ⟨C1,φ1,s1,rfl,k1,r1,hs1,z1,d1,hit⟩
  cases m with
  | zero=>simp [iter] at hit
  | succ m=>
   simp only [iter] at hit
   obtain ⟨⟨o2,s2⟩,h2,hit⟩:=Option.bind_eq_some_iff.1 hit
   refine ihc _ hok C1 φ1 s1 s2 a1 o2 k1 hs1 (by rw [z1]; exact hN) h2 _ ?_
   intro C2 φ2 a2 k2 r2 hs2 z2 d2
   cases o2 with
   | normal=>exact ⟨m,Nat.lt_succ_self m,C2,φ2,s2,rfl,k2,r1.trans r2,hs2,z2.trans z1,d2.trans d1,hit⟩
   | exit id=>
    simp only [Option.some.injEq,Prod.mk.injEq] at hit
    obtain ⟨rfl,rfl⟩:=hit
    exact hQ C2 φ2 a2 k2 (r1.trans r2) hs2 (z2.trans z1) (d2.trans d1)
   | ret=>
    simp only [Option.some.injEq,Prod.mk.injEq] at hit
    obtain ⟨rfl,rfl⟩:=hit
    exact hQ C2 φ2 a2 k2 (r1.trans r2) hs2 (z2.trans z1) (d2.trans d1)
end Pe

namespace Pe
open Go
variable {P:Program} {num:Nat→Nat}
def resOk (P:Program):Res→ResultVar→Bool
 | .tmp n,.tmp m=>n == m
 | .cell n s,.cell m t=>n == m&&tyOk P t s
 | _,_=>false
def ressOk (P:Program):List Res→List ResultVar→Bool
 | [],[]=>true
 | r::rs,v::vs=>resOk P r v&&ressOk P rs vs
 | _,_=>false
def resSem (tmps:Array Value):ResultVar→Sem Value
 | .tmp t=>pure (tmps.getD t undef)
 | .cell a t=>do loadVar t (←asAddr (tmps.getD a undef))
theorem results_eq (fn:Func) (tmps:Array Value):Go.results fn tmps=(do
 let vs ←fn.results.mapM (resSem tmps)
 pure (if h:vs.size=1 then vs[0] else .tuple vs)):=rfl
theorem res_sound {C:Cx} {φ:Loc} {s:St} {tmps:Array Value} (hs:SR C φ s tmps) {r:Res} {rv:ResultVar} (hok:resOk P r rv=true) {v:V} (hv:resV s r=some v) :
 ∃u,(resSem tmps rv).run P C.w=.ok u C.w∧RX C φ s.h v u:=by
 cases r with
 | tmp n=>
  cases rv <;> simp only [resOk,Bool.false_eq_true] at hok
  rename_i m
  have hnm:n=m:=by simpa using hok
  subst hnm
  simp only [resV] at hv
  obtain ⟨u,hu,h⟩:=hs.env n v hv
  exact ⟨u,by simp [resSem,hu],h⟩
 | cell n sh=>
  cases rv <;> simp only [resOk,Bool.false_eq_true,Bool.and_eq_true] at hok
  rename_i m t
  have hnm:n=m:=by simpa using hok.1
  subst hnm
  simp only [resV] at hv
  split at hv
  ·rename_i i p hp
   obtain ⟨d,hd,hv⟩:=Option.bind_eq_some_iff.1 hv
   obtain ⟨B,hB,hg⟩:=Option.bind_eq_some_iff.1 hd
   split at hv
   ·rename_i hsh
    obtain rfl:=Option.some.inj hv
    obtain rfl:=Sh.beq_eq _ _ hsh
    obtain ⟨u,hu,hx⟩:=hs.env n _ hp
    simp only [RX] at hx
    obtain ⟨B',b,off,q,hB',hφ,hq,e⟩:=hx
    obtain rfl:B=B':=Option.some.inj (hB.symm.trans hB')
    obtain ⟨b',o',off',cs,hφ',ho',hx,hc⟩:=Blk_get (hs.hr.blk i B hB) hg
    obtain ⟨rfl,rfl⟩:b=b'∧off=o':=by simpa using hφ.symm.trans hφ'
    have e2:=hq.symm.trans ho'
    simp only [Option.some.injEq] at e2
    subst e2
    obtain ⟨u',hrun,hu'⟩:=load_run (P:=P) hok.2 hc hx
    refine ⟨u',?_,by simpa only [RX] using hu'⟩
    simp [Instr.loadAt,Instr.sureAddr] at hrun
    simp [resSem,hu,e,asAddr,hrun]
   ·cases hv
  ·cases hv
theorem ress_sound {C:Cx} {φ:Loc} {s:St} {tmps:Array Value} (hs:SR C φ s tmps):∀{rs:List Res} {rvs:List ResultVar},ressOk P rs rvs=true→∀{vs:List V},resVs s rs=some vs →
 ∃us,(rvs.mapM (resSem tmps)).run P C.w=.ok us C.w∧RXs C φ s.h vs us
 | [],[],_,vs,hv=>by
  simp only [resVs,Option.some.injEq] at hv; subst hv
  exact ⟨[],by simp,by simp [RXs]⟩
 | r::rs,rv::rvs,hok,vs,hv=>by
  simp only [ressOk,Bool.and_eq_true] at hok
  simp only [resVs] at hv
  obtain ⟨v,h1,hv⟩:=Option.bind_eq_some_iff.1 hv
  obtain ⟨vs',h2,rfl⟩:=Option.map_eq_some_iff.1 hv
  obtain ⟨u,g1,g2⟩:=res_sound hs hok.1 h1
  obtain ⟨us,g3,g4⟩:=ress_sound hs hok.2 h2
  exact ⟨u::us,by simp [g1,g3],by simp only [RXs]; exact ⟨u,us,rfl,g2,g4⟩⟩
 | [],_::_,hok,_,_=>by simp [ressOk] at hok
 | _::_,[],hok,_,_=>by simp [ressOk] at hok
def fnOk (P:Program) (num:Nat→Nat) (fn:Fn) (g:Func):Bool:=
 g.name != "runtime.NumGoroutine" && decide (fn.nparams ≤ g.ntmps) && ressOk P fn.results g.results.toList &&
 (match g.body with
  | some c=>codeOk P num g.ntmps fn.body c
  | none=>false)
theorem RXs_length {C:Cx} {φ:Loc} {h:Heap}:∀{vs:List V} {us:List Value},RXs C φ h vs us→us.length=vs.length
 | [],us,g=>by simp only [RXs] at g; subst g; rfl
 | v::vs,us,g=>by
  simp only [RXs] at g
  obtain ⟨u,r,rfl,_,g2⟩:=g
  simp [RXs_length g2]
theorem RXs_get {C:Cx} {φ:Loc} {h:Heap}:∀{vs:List V} {us:List Value} {k:Nat} {v:V},RXs C φ h vs us→vs[k]? = some v→∃u,us[k]? = some u∧RX C φ h v u
 | [],us,k,v,_,hk=>by simp at hk
 | x::vs,us,k,v,g,hk=>by
  simp only [RXs] at g
  obtain ⟨u,r,rfl,g1,g2⟩:=g
  cases k with
  | zero=>simp at hk; subst hk; exact ⟨u,rfl,g1⟩
  | succ k=>simpa using RXs_get g2 (by simpa using hk)
theorem params_get:∀{vs:List V} {n k:Nat} {v:V},(params n vs).get k=some v→n≤k∧vs[k-n]? = some v
 | [],n,k,v,h=>by simp [params,Env.get] at h
 | x::vs,n,k,v,h=>by
  simp only [params,Env.get] at h
  by_cases hk:n=k
  ·subst hk
   simp only [if_true,Option.some.injEq] at h
   subst h
   simp
  ·rw [if_neg hk] at h
   obtain ⟨h1,h2⟩:=params_get h
   refine ⟨by omega,?_⟩
   rw [show k-n=(k-(n+1))+1 by omega]
   simpa using h2
theorem run_of (fn : Fn) {f : Nat} {g : Func} (hg : P.funcs[num f]? = some g) (hname : g.name ≠ "runtime.NumGoroutine") (hnp : fn.nparams ≤ g.ntmps) (hres : ressOk P fn.results g.results.toList = true) {code : Code} (hcode : g.body = some code) {vs : List V} {bs : Heap} {ans : Ans} (o : Out) (s' : St)
 (hlen:vs.length=fn.nparams)
 (hrun:(match o with
  | .exit _=>none
  | _=>if s'.h.length=bs.length+fn.nblk then (resVs s' fn.results).bind fun rs=>
   let v:=result rs
   let own:=(once v.refs).filter (bs.length≤·)
   (s'.h.pick own).map fun nb=>
    (v.ren (fun i=>if i<bs.length then i else bs.length+own.idxOf i),s'.h.take bs.length,nb)
   else none)=some ans)
 (hw:∀(C:Cx) (φ:Loc) (a:Act),C.num=num→SR C φ ⟨params 0 vs,bs++List.replicate fn.nblk .hole⟩ a.tmps→g.ntmps≤a.tmps.size→∀(Q:Exit→Act→World→Prop),Fits num bs.length Q o C φ (bs++List.replicate fn.nblk .hole) s' a→code.wp P Q a C.w)
 {C:Cx} {φ:Loc} {us:List Value} (hC:C.num=num) (hr:HR C φ bs) (hb:∀b,C.I b→b<C.w.heap.size) (hv:RXs C φ bs vs us) :
 ans.2.1.length=bs.length∧Ends P (num f) us C φ bs (ans.2.1++ans.2.2) ans.1:=by
 have hul:=RXs_length hv
 -- what the function begins with
 have hh0:∀i:Nat,i<bs.length→(bs++List.replicate fn.nblk Blk.hole)[i]? = bs[i]?:=fun i hi=>List.getElem?_append_left hi
 have hh1:∀(i:Nat) (B:Blk),bs.length≤i→(bs++List.replicate fn.nblk Blk.hole)[i]? = some B→B=.hole:=by
  intro i B hi hB
  rw [List.getElem?_append_right hi,List.getElem?_replicate] at hB
  split at hB
  ·exact (Option.some.inj hB).symm
  ·cases hB
 have hr0:HR C φ (bs++List.replicate fn.nblk .hole):=by
  refine ⟨fun i B hB=>?_,fun i j Bi Bj b oi oj hij hi hj hoi hoj hφi hφj=>?_⟩
  ·by_cases hi:i<bs.length
   ·rw [hh0 i hi] at hB; exact hr.blk i B hB
   ·obtain rfl:=hh1 i B (by omega) hB
    trivial
  ·by_cases hi':i<bs.length
   ·by_cases hj':j<bs.length
    ·rw [hh0 i hi'] at hi
     rw [hh0 j hj'] at hj
     exact hr.inj i j Bi Bj b oi oj hij hi hj hoi hoj hφi hφj
    ·obtain rfl:=hh1 j Bj (by omega) hj
     simp [Blk.own] at hoj
   ·obtain rfl:=hh1 i Bi (by omega) hi
    simp [Blk.own] at hoi
 have hold:∀v u,RX C φ bs v u→RX C φ (bs++List.replicate fn.nblk .hole) v u:=by
  intro v u gx
  refine RX.congr (.refl C) v u (fun i hi B hB=>⟨B,?_,.refl B⟩) (fun _ _=>rfl) (fun _ _ _ _ _=>.of_eq rfl) gx
  rw [hh0 i (List.getElem?_eq_some_iff.1 hB).1]; exact hB
 have hsize:us.toArray.size=fn.nparams:=by simp [hul,hlen]
 have hs0:SR C φ ⟨params 0 vs,bs++List.replicate fn.nblk .hole⟩ (us.toArray++Array.replicate (g.ntmps-us.toArray.size) undef):=by
  refine ⟨hr0,hb,fun n v hn=>?_⟩
  obtain ⟨_,h2⟩:=params_get hn
  obtain ⟨u,h3,h4⟩:=RXs_get hv h2
  refine ⟨u,?_,hold v u h4⟩
  have hnl:n<us.toArray.size:=by
   have:=(List.getElem?_eq_some_iff.1 h3).1
   simpa using this
  rw [Array.getElem?_append_left hnl]
  simpa using h3
 have hN:g.ntmps≤(us.toArray++Array.replicate (g.ntmps-us.toArray.size) undef).size:=by
  rw [Array.size_append,Array.size_replicate]; omega
 have hHB:HasBody P (num f):=⟨g,hg,hname,by simp [hcode]⟩
 -- the result
 have hlast:(∃id,o=.exit id)∨(s'.h.length=bs.length+fn.nblk∧∃rs nb,resVs s' fn.results=some rs∧s'.h.pick ((once (result rs).refs).filter (bs.length≤·))=some nb ∧
  ans=((result rs).ren (fun i=>if i<bs.length then i else bs.length+((once (result rs).refs).filter (bs.length≤·)).idxOf i),s'.h.take bs.length,nb)):=by
  cases o with
  | exit id=>exact .inl ⟨id,rfl⟩
  | normal | ret=>
   right
   simp only at hrun
   split at hrun
   ·rename_i hl
    obtain ⟨rs,h1,hrun⟩:=Option.bind_eq_some_iff.1 hrun
    obtain ⟨nb,h2,h3⟩:=Option.map_eq_some_iff.1 hrun
    exact ⟨hl,rs,nb,h1,h2,h3.symm⟩
   ·cases hrun
 rcases hlast with ⟨id,rfl⟩ | ⟨hl,rs,nb,h1,h2,rfl⟩
 ·simp at hrun
 generalize hown:(once (result rs).refs).filter (bs.length≤·)=own at *
 have hownn:own.Nodup:=by rw [←hown]; exact (once_nodup _).filter _
 have hownm:∀i,i∈own↔i∈(result rs).refs∧bs.length≤i:=by
  intro i
  rw [←hown,List.mem_filter,once_mem]
  simp
 obtain ⟨pl,pg⟩:=pick_get h2
 have htl:(s'.h.take bs.length).length=bs.length:=by rw [List.length_take]; omega
 refine ⟨htl,hHB,?_⟩
 refine calls_of_wp hg hcode ?_
 refine hw C φ _ hC hs0 hN _ ?_
 intro C' φ' a' hC' rn hs' _ hdef
 have hfin:∃v,(results g a'.tmps).run P C'.w=.ok v C'.w∧RX C' φ' s'.h (result rs) v:=by
  obtain ⟨us',g1,g2⟩:=ress_sound hs' hres h1
  have hl2:=RXs_length g2
  rw [results_eq]
  refine ⟨if h:us'.toArray.size=1 then us'.toArray[0] else .tuple us'.toArray,?_,?_⟩
  ·simp only [Array.mapM_eq_mapM_toList,Sem.run_bind,Sem.run_map,g1]
   simp
  ·unfold result
   split
   ·rename_i v
    cases us' with
    | nil=>simp at hl2
    | cons u us'=>
     cases us' with
     | nil=>
      simp only [RXs] at g2
      obtain ⟨u0,r,e,g3,g4⟩:=g2
      simp only [List.cons.injEq] at e
      obtain ⟨rfl,rfl⟩:=e
      simpa using g3
     | cons _ _=>simp at hl2
   ·rename_i hne
    have h1':¬ us'.toArray.size=1:=by
     intro h
     have:rs.length=1:=by rw [←hl2]; simpa using h
     match rs,this with
     | [v],_=>exact hne v rfl
    rw [dif_neg h1']
    simp only [RX]
    exact ⟨us'.toArray,rfl,by simpa using g2⟩
 obtain ⟨v,hvr,hvx⟩:=hfin
 -- the blocks that are handed back
 let φ3:Loc:=fun i=>if i<bs.length then φ' i else φ' (own.getD (i-bs.length) 0)
 have src:∀i B,(s'.h.take bs.length++nb)[i]? = some B→∃j,s'.h[j]? = some B∧φ3 i=φ' j∧((i<bs.length∧j=i)∨(bs.length≤i∧own[i-bs.length]? = some j)):=by
  intro i B hB
  by_cases hi:i<bs.length
  ·rw [List.getElem?_append_left (by omega),List.getElem?_take,if_pos hi] at hB
   exact ⟨i,hB,by simp [φ3,hi],.inl ⟨hi,rfl⟩⟩
  ·rw [List.getElem?_append_right (by omega),htl] at hB
   have hil:i-bs.length<own.length:=by rw [←pl]; exact (List.getElem?_eq_some_iff.1 hB).1
   have ho:own[i-bs.length]? = some own[i-bs.length]:=List.getElem?_eq_getElem hil
   obtain ⟨B',g1,g2,_⟩:=pg _ _ ho
   obtain rfl:B'=B:=Option.some.inj (g2.symm.trans hB)
   refine ⟨_,g1,?_,.inr ⟨by omega,ho⟩⟩
   simp only [φ3,if_neg hi,getD_some ho]
 have srcinj:∀i i' j,((i<bs.length∧j=i)∨(bs.length≤i∧own[i-bs.length]? = some j))→((i'<bs.length∧j=i')∨(bs.length≤i'∧own[i'-bs.length]? = some j))→i=i':=by
  intro i i' j hi hi'
  have hge:∀k,own[k]? = some j→bs.length≤j:=fun k hk=>((hownm j).1 (List.mem_of_getElem? hk)).2
  rcases hi with ⟨p1,p2⟩ | ⟨p1,p2⟩ <;> rcases hi' with ⟨q1,q2⟩ | ⟨q1,q2⟩
  ·omega
  ·have:=hge _ q2; omega
  ·have:=hge _ p2; omega
  ·have e1:=get_idxOf hownn p2
   have e2:=get_idxOf hownn q2
   omega
 have hown0:∀b,OwnB φ (bs++List.replicate fn.nblk .hole) b→OwnB φ bs b:=by
  rintro b ⟨i,B,o',hB,ho,hφ⟩
  by_cases hi:i<bs.length
  ·exact ⟨i,B,o',by rw [←hh0 i hi]; exact hB,ho,hφ⟩
  ·obtain rfl:=hh1 i B (by omega) hB
   simp [Blk.own] at ho
 have hown1:∀b,OwnB φ bs b→OwnB φ (bs++List.replicate fn.nblk .hole) b:=by
  rintro b ⟨i,B,o',hB,ho,hφ⟩
  exact ⟨i,B,o',by rw [hh0 i (List.getElem?_eq_some_iff.1 hB).1]; exact hB,ho,hφ⟩
 have post:∃u C2 φ2,Ending.returned v=.returned u∧C2.w=C'.w∧Step C C2 φ φ2 bs (s'.h.take bs.length++nb)∧Keeps C C2 φ φ2 bs (s'.h.take bs.length++nb) (fun _=>False) ∧
  RX C2 φ2 (s'.h.take bs.length++nb) ((result rs).ren (fun i=>if i<bs.length then i else bs.length+own.idxOf i)) u:=by
  refine ⟨v,C',φ3,rfl,rfl,⟨rn.st.le,fun b hbl hn=>rn.st.kept b hbl fun h=>hn (hown0 b h),fun b h=>?_,?_,rn.st.size,rn.st.os,rn.st.out,rn.st.tape,⟨?_,?_⟩,rn.st.bd⟩,?_,?_⟩
  ·rcases rn.st.fresh b h with h | h | h
   ·exact .inl h
   ·exact .inr (.inl h)
   ·exact .inr (.inr (hown0 b h))
  ·rintro b ⟨i,B,o',hB,ho,hφ⟩
   obtain ⟨j,g1,g2,_⟩:=src i B hB
   exact (rn.st.own b ⟨j,B,o',g1,ho,g2.symm.trans hφ⟩).imp (hown0 b) id
  ·intro i B hB
   obtain ⟨j,g1,g2,_⟩:=src i B hB
   rw [g2]; exact rn.st.hr.blk j B g1
  ·intro i i' Bi Bj b oi oj hij hi hj hoi hoj hφi hφj
   obtain ⟨j,g1,g2,g3⟩:=src i Bi hi
   obtain ⟨j',g1',g2',g3'⟩:=src i' Bj hj
   exact rn.st.hr.inj j j' Bi Bj b oi oj (fun e=>hij (srcinj i i' j g3 (e▸g3'))) g1 g1' hoi hoj (g2.symm.trans hφi) (g2'.symm.trans hφj)
  ·intro x u _ hx
   have hlt:∀i∈x.refs,i<bs.length:=fun i hi=>by
    obtain ⟨B,hB,_⟩:=RX.refs x u hx i hi
    exact (List.getElem?_eq_some_iff.1 hB).1
   have q:=rn.kp x u (fun i hi hge=>by have:=hlt i hi; omega) (hold x u hx)
   have:=RX.lift (C':=C') (φ':=φ3) (h':=s'.h.take bs.length++nb) (f:=id) (.refl C') x u (Moves.one fun i hi B hB _=>by
    have hi':=hlt i hi
    refine ⟨⟨B,?_,.refl B⟩,by simp [φ3,hi'],fun _ _ _=>.of_eq rfl⟩
    simp only [id]
    rw [List.getElem?_append_left (by omega),List.getElem?_take,if_pos hi']; exact hB) q
   rwa [V.ren_id (f:=id) x (fun _ _=>rfl)] at this
  ·refine RX.lift (.refl C') (result rs) v (Moves.one fun i hi B hB hn=>?_) hvx
   by_cases hi':i<bs.length
   ·rw [if_pos hi']
    refine ⟨⟨B,?_,.refl B⟩,by simp [φ3,hi'],fun _ _ _=>.of_eq rfl⟩
    rw [List.getElem?_append_left (by omega),List.getElem?_take,if_pos hi']; exact hB
   ·rw [if_neg hi']
    have him:i∈own:=(hownm i).2 ⟨hi,by omega⟩
    have ho:=idxOf_get him
    obtain ⟨B',g1,g2,_⟩:=pg _ _ ho
    obtain rfl:B'=B:=Option.some.inj (g1.symm.trans hB)
    refine ⟨⟨B',?_,.refl B'⟩,?_,fun _ _ _=>.of_eq rfl⟩
    ·rw [List.getElem?_append_right (by omega),htl,show bs.length+own.idxOf i-bs.length=own.idxOf i by omega]; exact g2
    ·have:¬ bs.length+own.idxOf i<bs.length:=by omega
     simp only [φ3,if_neg this,show bs.length+own.idxOf i-bs.length=own.idxOf i by omega,getD_some ho]
 cases o with
 | exit id=>simp at hrun
 | normal=>exact ⟨by rw [hdef],v,hvr,post⟩
 | ret=>exact ⟨by rw [hdef],v,hvr,post⟩
theorem run_sound {O:Oracle} (hO:CallOk P num O) (hm:P.follows .mixedOrders=true) {fn:Fn} {f:Nat} {g:Func} (hg:P.funcs[num f]? = some g) (hok:fnOk P num fn g=true) {k:Nat} {vs:List V} {bs:Heap} {ans:Ans}
 (hrun:run O k fn vs bs=some ans) {C:Cx} {φ:Loc} {us:List Value} (hC:C.num=num) (hr:HR C φ bs) (hb:∀b,C.I b→b<C.w.heap.size) (hv:RXs C φ bs vs us) :
 ans.2.1.length=bs.length∧Ends P (num f) us C φ bs (ans.2.1++ans.2.2) ans.1:=by
 unfold fnOk at hok
 simp only [Bool.and_eq_true,bne_iff_ne,ne_eq,decide_eq_true_eq] at hok
 obtain ⟨⟨⟨hname,hnp⟩,hres⟩,hbody⟩:=hok
 cases hcode:g.body with
 | none=>rw [hcode] at hbody; cases hbody
 | some code=>
 rw [hcode] at hbody
 simp only at hbody
 unfold run at hrun
 split at hrun
 case isFalse=>cases hrun
 rename_i hlen
 obtain ⟨⟨o,s'⟩,hev,hrun⟩:=Option.bind_eq_some_iff.1 hrun
 exact run_of fn hg hname hnp hres hcode o s' hlen hrun (fun C φ a hC hs hN Q hQ=>code_sound (N:=g.ntmps) hO hm k fn.body code hbody C φ _ s' a o hC hs hN hev Q hQ) hC hr hb hv
theorem evalF_sound {T:Nat→Option Fn} {A:Oracle} (hT:∀f fn,T f=some fn→∃g,P.funcs[num f]? = some g∧fnOk P num fn g=true) (hA:CallOk P num A) (hm:P.follows .mixedOrders=true):∀k,CallOk P num (evalF T A k)
 | 0=>by intro f vs bs ans h; simp [evalF] at h
 | k+1=>by
  intro f vs bs ans h C φ us hC hr hb hv
  simp only [evalF] at h
  split at h
  ·rename_i fn hfn
   obtain ⟨g,hg,hok⟩:=hT f fn hfn
   exact run_sound (evalF_sound hT hA hm k) hm hg hok h hC hr hb hv
  ·exact hA f vs bs ans h C φ us hC hr hb hv
end Pe

namespace Pe
open Go
abbrev Asked:=Nat×List V×Heap×Ans
def Gives (O:Oracle) (qs:List Asked):Prop:=∀q∈qs,O q.1 q.2.1 q.2.2.1=some q.2.2.2
theorem Gives.app {O:Oracle} {qs rs:List Asked}:Gives O (qs++rs)↔Gives O qs∧Gives O rs:=by
 unfold Gives
 constructor
 ·exact fun h=>⟨fun q hq=>h q (by simp [hq]),fun q hq=>h q (by simp [hq])⟩
 ·rintro ⟨h1,h2⟩ q hq
  rcases List.mem_append.1 hq with hq | hq
  ·exact h1 q hq
  ·exact h2 q hq
def Rests {α:Type} (O:Oracle) (g:Oracle→Option α) (r:α):Prop:=∃qs,Gives O qs∧∀O',Gives O' qs→g O'=some r
theorem Rests.const {α:Type} {O:Oracle} {x:Option α} {r:α} (h:x=some r):Rests O (fun _=>x) r:=⟨[],by simp [Gives],fun _ _=>h⟩
theorem Rests.bind {α β:Type} {O:Oracle} {g:Oracle→Option α} {k:α→Oracle→Option β} {r:α} {r':β} (h:Rests O g r) (h':Rests O (k r) r'):Rests O (fun O'=>(g O').bind fun x=>k x O') r':=by
 obtain ⟨q1,a1,b1⟩:=h
 obtain ⟨q2,a2,b2⟩:=h'
 refine ⟨q1++q2,Gives.app.2 ⟨a1,a2⟩,fun O' hO'=>?_⟩
 obtain ⟨c1,c2⟩:=Gives.app.1 hO'
 dsimp only
 rw [b1 O' c1]
 exact b2 O' c2
theorem op_rests {O:Oracle} {np:Nat} {e:Env} {h:Heap} {p:Op} {r:V×Heap} (he:evalOp O np e h p=some r):Rests O (fun O'=>evalOp O' np e h p) r:=by
 cases p with
 | call m news f xs=>
  simp only [evalOp] at he
  obtain ⟨fv,hf,he⟩:=Option.bind_eq_some_iff.1 he
  obtain ⟨g,hg,he⟩:=Option.bind_eq_some_iff.1 he
  obtain ⟨vs,hv,he⟩:=Option.bind_eq_some_iff.1 he
  have pure:∀m,callPure O m h g.1 (g.2.1++vs++g.2.2)=some r→∃q:Asked,O q.1 q.2.1 q.2.2.1=some q.2.2.2∧∀O':Oracle,O' q.1 q.2.1 q.2.2.1=some q.2.2.2→callPure O' m h g.1 (g.2.1++vs++g.2.2)=some r:=by
   intro m he
   unfold callPure at he
   obtain ⟨ds,hds,he⟩:=Option.bind_eq_some_iff.1 he
   obtain ⟨ans,hans,he⟩:=Option.bind_eq_some_iff.1 he
   refine ⟨(g.1,ds.map .d,[],ans),hans,fun O' hO'=>?_⟩
   unfold callPure
   rw [hds,Option.bind_some]
   simp only at hO'
   rw [hO',Option.bind_some]
   exact he
  have heap:callHeap O np news h g.1 (g.2.1++vs++g.2.2)=some r→∃q:Asked,O q.1 q.2.1 q.2.2.1=some q.2.2.2∧∀O':Oracle,O' q.1 q.2.1 q.2.2.1=some q.2.2.2→callHeap O' np news h g.1 (g.2.1++vs++g.2.2)=some r:=by
   intro he
   unfold callHeap at he
   simp only at he
   obtain ⟨bs,hbs,he⟩:=Option.bind_eq_some_iff.1 he
   obtain ⟨ans,hans,he⟩:=Option.bind_eq_some_iff.1 he
   refine ⟨(g.1,_,bs,ans),hans,fun O' hO'=>?_⟩
   unfold callHeap
   simp only
   rw [hbs,Option.bind_some]
   simp only at hO'
   rw [hO',Option.bind_some]
   exact he
  have fin:∀(c:Oracle→Option (V×Heap)),(∃q:Asked,O q.1 q.2.1 q.2.2.1=some q.2.2.2∧∀O':Oracle,O' q.1 q.2.1 q.2.2.1=some q.2.2.2→c O'=some r)→(∀O',evalOp O' np e h (.call m news f xs)=c O')→Rests O (fun O'=>evalOp O' np e h (.call m news f xs)) r:=by
   rintro c ⟨q,h1,h2⟩ hc
   refine ⟨[q],fun q' hq'=>?_,fun O' hO'=>?_⟩
   ·simp only [List.mem_singleton] at hq'
    subst hq'; exact h1
   ·dsimp only; rw [hc]; exact h2 O' (hO' q (by simp))
  cases m with
  | heap=>
   simp only at he
   exact fin _ (heap he) fun O'=>by simp only [evalOp,hf,hg,hv,Option.bind_some]
  | flat=>
   simp only at he
   exact fin _ (pure .flat he) fun O'=>by simp only [evalOp,hf,hg,hv,Option.bind_some]
  | data=>
   simp only at he
   exact fin _ (pure .data he) fun O'=>by simp only [evalOp,hf,hg,hv,Option.bind_some]
  | plain=>
   simp only at he
   exact fin _ (pure .plain he) fun O'=>by simp only [evalOp,hf,hg,hv,Option.bind_some]
 | cut ar s x lo hi mx=>exact ⟨[],by simp [Gives],fun O' _=>by cases ar <;> exact he⟩
 | idxA ar s x j=>exact ⟨[],by simp [Gives],fun O' _=>by cases ar <;> exact he⟩
 | idx ar s x j=>exact ⟨[],by simp [Gives],fun O' _=>by cases ar <;> exact he⟩
 | len str x=>exact ⟨[],by simp [Gives],fun O' _=>by cases str <;> exact he⟩
 | _=>exact ⟨[],by simp [Gives],fun O' _=>he⟩
theorem ins_rests {O:Oracle} {np:Nat} {s s':St} {i:Ins} (he:evalIns O np s i=some s'):Rests O (fun O'=>evalIns O' np s i) s':=by
 unfold evalIns execIns at he ⊢
 split at he
 ·rename_i hside
  simp only [hside,if_true]
  split at he
  ·rename_i hon
   obtain ⟨r,hr,e⟩:=Option.map_eq_some_iff.1 he
   obtain ⟨qs,h1,h2⟩:=op_rests hr
   refine ⟨qs,h1,fun O' hO'=>?_⟩
   have q:=h2 O' hO'
   dsimp only at q ⊢
   rw [q,Option.map_some,e]
  ·exact Rests.const he
  ·cases he
 ·cases he
theorem list_rests {O:Oracle} {np:Nat}:∀{is:List Ins} {s s':St},evalList O np is s=some s'→Rests O (fun O'=>evalList O' np is s) s'
 | [],s,s',he=>Rests.const he
 | i::is,s,s',he=>by
  simp only [evalList] at he ⊢
  obtain ⟨s1,h1,h2⟩:=Option.bind_eq_some_iff.1 he
  exact (ins_rests h1).bind (k:=fun x O'=>evalList O' np is x) (list_rests h2)
theorem iter_rests {O:Oracle} {g:Oracle→St→Option (Out×St)} (hg:∀s r,g O s=some r→Rests O (fun O'=>g O' s) r):∀{n:Nat} {s:St} {r:Out×St},iter (g O) n s=some r→Rests O (fun O'=>iter (g O') n s) r
 | 0,s,r,he=>by simp [iter] at he
 | n+1,s,r,he=>by
  simp only [iter] at he ⊢
  obtain ⟨⟨o,s1⟩,h1,h2⟩:=Option.bind_eq_some_iff.1 he
  refine (hg s _ h1).bind (k:=fun x O'=>match x.1 with | .normal=>iter (g O') n x.2 | o=>some (o,x.2)) ?_
  cases o with
  | normal=>exact iter_rests hg h2
  | exit id=>exact Rests.const h2
  | ret=>exact Rests.const h2
theorem code_rests {O:Oracle} {np n:Nat}:∀{c:Cd} {s:St} {r:Out×St},evalCd O np n c s=some r→Rests O (fun O'=>evalCd O' np n c s) r:=by
 intro c
 induction c with
 | skip=>intro s r he; exact Rests.const (by simpa only [evalCd] using he)
 | exit id=>intro s r he; exact Rests.const (by simpa only [evalCd] using he)
 | ret=>intro s r he; exact Rests.const (by simpa only [evalCd] using he)
 | region is ks=>
  intro s r he
  simp only [evalCd] at he ⊢
  obtain ⟨s1,h1,e⟩:=Option.map_eq_some_iff.1 he
  obtain ⟨qs,g1,g2⟩:=list_rests h1
  refine ⟨qs,g1,fun O' hO'=>?_⟩
  have q:=g2 O' hO'
  dsimp only at q ⊢
  rw [q,Option.map_some,e]
 | seq a b iha ihb=>
  intro s r he
  simp only [evalCd] at he ⊢
  obtain ⟨⟨o,s1⟩,h1,h2⟩:=Option.bind_eq_some_iff.1 he
  refine (iha h1).bind (k:=fun x O'=>match x.1 with | .normal=>evalCd O' np n b x.2 | o=>some (o,x.2)) ?_
  cases o with
  | normal=>exact ihb h2
  | exit id=>exact Rests.const h2
  | ret=>exact Rests.const h2
 | cond q a b iha ihb=>
  intro s r he
  simp only [evalCd] at he ⊢
  split at he
  ·rename_i t ht
   cases t with
   | true=>
    obtain ⟨qs,g1,g2⟩:=iha (s:=s) (r:=r) (by simpa using he)
    refine ⟨qs,g1,fun O' hO'=>?_⟩
    have q:=g2 O' hO'
    dsimp only at q ⊢
    simp only [if_true]
    exact q
   | false=>
    obtain ⟨qs,g1,g2⟩:=ihb (s:=s) (r:=r) (by simpa using he)
    refine ⟨qs,g1,fun O' hO'=>?_⟩
    have q:=g2 O' hO'
    dsimp only at q ⊢
    simp only [Bool.false_eq_true,if_false]
    exact q
  ·cases he
 | block id c ihc=>
  intro s r he
  simp only [evalCd] at he ⊢
  obtain ⟨r1,h1,e⟩:=Option.map_eq_some_iff.1 he
  obtain ⟨qs,g1,g2⟩:=ihc h1
  refine ⟨qs,g1,fun O' hO'=>?_⟩
  have q:=g2 O' hO'
  dsimp only at q ⊢
  rw [q,Option.map_some,e]
 | loop c ihc=>
  intro s r he
  simp only [evalCd] at he ⊢
  exact iter_rests (g:=fun O'=>evalCd O' np n c) (fun s r h=>ihc h) he
theorem run_rests {O:Oracle} {n:Nat} {fn:Fn} {vs:List V} {bs:Heap} {ans:Ans} (he:run O n fn vs bs=some ans):Rests O (fun O'=>run O' n fn vs bs) ans:=by
 unfold run at he ⊢
 split at he
 ·rename_i hl
  simp only [hl,if_true]
  obtain ⟨r,h1,h2⟩:=Option.bind_eq_some_iff.1 he
  exact (code_rests h1).bind (k:=fun r _=>match r.1 with
  | .exit _=>none
  | _=>if r.2.h.length=bs.length+fn.nblk then (resVs r.2 fn.results).bind fun rs=>
   let v:=result rs
   let own:=(once v.refs).filter (bs.length≤·)
   (r.2.h.pick own).map fun nb=>
    (v.ren (fun i=>if i<bs.length then i else bs.length+own.idxOf i),r.2.h.take bs.length,nb)
   else none) (Rests.const h2)
 ·cases he
theorem iter_more {g g':St→Option (Out×St)} (hg:∀s r,g s=some r→g' s=some r):∀{n n':Nat} {s:St} {r:Out×St},n≤n'→iter g n s=some r→iter g' n' s=some r
 | 0,n',s,r,_,he=>by simp [iter] at he
 | n+1,0,s,r,hl,he=>by omega
 | n+1,n'+1,s,r,hl,he=>by
  simp only [iter] at he ⊢
  obtain ⟨⟨o,s1⟩,h1,h2⟩:=Option.bind_eq_some_iff.1 he
  rw [hg s _ h1,Option.bind_some]
  cases o with
  | normal=>exact iter_more hg (by omega) h2
  | exit id=>exact h2
  | ret=>exact h2
theorem code_more {O:Oracle} {np n n':Nat} (hn:n≤n'):∀{c:Cd} {s:St} {r:Out×St},evalCd O np n c s=some r→evalCd O np n' c s=some r:=by
 intro c
 induction c with
 | skip=>intro s r he; simpa only [evalCd] using he
 | exit id=>intro s r he; simpa only [evalCd] using he
 | ret=>intro s r he; simpa only [evalCd] using he
 | region is ks=>intro s r he; simpa only [evalCd] using he
 | seq a b iha ihb=>
  intro s r he
  simp only [evalCd] at he ⊢
  obtain ⟨⟨o,s1⟩,h1,h2⟩:=Option.bind_eq_some_iff.1 he
  rw [iha h1,Option.bind_some]
  cases o with
  | normal=>exact ihb h2
  | exit id=>exact h2
  | ret=>exact h2
 | cond q a b iha ihb=>
  intro s r he
  simp only [evalCd] at he ⊢
  split at he
  ·rename_i t ht
   cases t with
   | true=>simpa using iha (s:=s) (r:=r) (by simpa using he)
   | false=>simpa using ihb (s:=s) (r:=r) (by simpa using he)
  ·cases he
 | block id c ihc=>
  intro s r he
  simp only [evalCd] at he ⊢
  obtain ⟨r1,h1,e⟩:=Option.map_eq_some_iff.1 he
  rw [ihc h1,Option.map_some,e]
 | loop c ihc=>
  intro s r he
  simp only [evalCd] at he ⊢
  exact iter_more (fun s r h=>ihc h) hn he
theorem run_more {O:Oracle} {n n':Nat} (hn:n≤n') {fn:Fn} {vs:List V} {bs:Heap} {ans:Ans} (he:run O n fn vs bs=some ans):run O n' fn vs bs=some ans:=by
 unfold run at he ⊢
 split at he
 ·rename_i hl
  simp only [hl,if_true]
  obtain ⟨r,h1,h2⟩:=Option.bind_eq_some_iff.1 he
  rw [code_more hn h1,Option.bind_some]
  exact h2
 ·cases he
section
variable {T:Nat→Option Fn} {A:Oracle}
theorem evalF_step:∀{k:Nat} {f:Nat} {vs:List V} {bs:Heap} {ans:Ans},evalF T A k f vs bs=some ans→evalF T A (k+1) f vs bs=some ans
 | 0,f,vs,bs,ans,h=>by simp [evalF] at h
 | k+1,f,vs,bs,ans,h=>by
  rw [evalF] at h ⊢
  dsimp only at h ⊢
  split at h
  ·rename_i fn hfn
   obtain ⟨qs,h1,h2⟩:=run_rests h
   exact run_more (Nat.le_succ k) (h2 _ fun q hq=>evalF_step (h1 q hq))
  ·exact h
theorem evalF_mono {k k':Nat} (hk:k≤k') {f:Nat} {vs:List V} {bs:Heap} {ans:Ans} (h:evalF T A k f vs bs=some ans):evalF T A k' f vs bs=some ans:=by
 induction hk with
 | refl=>exact h
 | step _ ih=>exact evalF_step ih
noncomputable def den (T:Nat→Option Fn) (A:Oracle):Oracle:=fun f vs bs=>by
 classical
 exact if h:∃ans,∃k,evalF T A k f vs bs=some ans then some (Classical.choose h) else none
theorem den_iff {f:Nat} {vs:List V} {bs:Heap} {ans:Ans}:den T A f vs bs=some ans↔∃k,evalF T A k f vs bs=some ans:=by
 unfold den
 constructor
 ·intro h
  split at h
  ·rename_i hx
   obtain rfl:=Option.some.inj h
   exact Classical.choose_spec hx
  ·cases h
 ·rintro ⟨k,hk⟩
  have hx:∃ans,∃k,evalF T A k f vs bs=some ans:=⟨ans,k,hk⟩
  rw [dif_pos hx]
  obtain ⟨k',hk'⟩:=Classical.choose_spec hx
  have h1:=evalF_mono (Nat.le_max_left k k') hk
  have h2:=evalF_mono (Nat.le_max_right k k') hk'
  rw [h1] at h2
  exact h2.symm
theorem gives_evalF {qs:List Asked} (h:Gives (den T A) qs):∃k,Gives (evalF T A k) qs:=by
 induction qs with
 | nil=>exact ⟨0,by simp [Gives]⟩
 | cons q qs ih=>
  obtain ⟨k,hk⟩:=ih fun q' hq'=>h q' (by simp [hq'])
  obtain ⟨k',hk'⟩:=den_iff.1 (h q (by simp))
  refine ⟨max k k',fun q' hq'=>?_⟩
  rcases List.mem_cons.1 hq' with rfl | hq'
  ·exact evalF_mono (Nat.le_max_right k k') hk'
  ·exact evalF_mono (Nat.le_max_left k k') (hk q' hq')
theorem den_run {f:Nat} {fn:Fn} (hT:T f=some fn) {n:Nat} {vs:List V} {bs:Heap} {ans:Ans} (h:run (den T A) n fn vs bs=some ans):den T A f vs bs=some ans:=by
 obtain ⟨qs,h1,h2⟩:=run_rests h
 obtain ⟨k,hk⟩:=gives_evalF h1
 refine den_iff.2 ⟨max k n+1,?_⟩
 simp only [evalF,hT]
 exact run_more (Nat.le_max_right k n) (h2 _ fun q hq=>evalF_mono (Nat.le_max_left k n) (hk q hq))
theorem den_prim {f:Nat} (hT:T f=none) {vs:List V} {bs:Heap} {ans:Ans} (h:A f vs bs=some ans):den T A f vs bs=some ans:=
 den_iff.2 ⟨1,by simp only [evalF,hT]; exact h⟩
theorem den_sound {P:Program} {num:Nat→Nat} (hT:∀f fn,T f=some fn→∃g,P.funcs[num f]? = some g∧fnOk P num fn g=true) (hA:CallOk P num A) (hm:P.follows .mixedOrders=true):CallOk P num (den T A):=by
 intro f vs bs ans h
 obtain ⟨k,hk⟩:=den_iff.1 h
 exact evalF_sound hT hA hm k f vs bs ans hk
end
noncomputable def dn (O:Oracle) (np:Nat) (c:Cd) (s:St):Option (Out×St):=by
 classical
 exact if h:∃r,∃n,evalCd O np n c s=some r then some (Classical.choose h) else none
theorem dn_iff {O:Oracle} {np:Nat} {c:Cd} {s:St} {r:Out×St}:dn O np c s=some r↔∃n,evalCd O np n c s=some r:=by
 unfold dn
 constructor
 ·intro h
  split at h
  ·rename_i hx
   obtain rfl:=Option.some.inj h
   exact Classical.choose_spec hx
  ·cases h
 ·rintro ⟨k,hk⟩
  have hx:∃r,∃n,evalCd O np n c s=some r:=⟨r,k,hk⟩
  rw [dif_pos hx]
  obtain ⟨k',hk'⟩:=Classical.choose_spec hx
  have h1:=code_more (Nat.le_max_left k k') hk
  have h2:=code_more (Nat.le_max_right k k') hk'
  rw [h1] at h2
  exact h2.symm
section
variable {O:Oracle} {np:Nat} {s:St}
theorem dn_ext {α:Type} {x y:Option α} (h:∀r,x=some r↔y=some r):x=y:=by
 cases x with
 | none=>
  cases y with
  | none=>rfl
  | some b=>exact absurd ((h b).2 rfl) (by simp)
 | some a=>exact ((h a).1 rfl).symm
theorem dn_skip:dn O np .skip s=some (.normal,s):=dn_iff.2 ⟨0,rfl⟩
theorem dn_ret:dn O np .ret s=some (.ret,s):=dn_iff.2 ⟨0,rfl⟩
theorem dn_exit (id:Nat):dn O np (.exit id) s=some (.exit id,s):=dn_iff.2 ⟨0,rfl⟩
theorem dn_region (is:List Ins) (ks:List Nat):dn O np (.region is ks) s=(evalList O np is s).map fun s'=>(.normal,⟨s'.e.keep ks,clean (s'.e.keep ks) np 0 s'.h⟩):=by
 refine dn_ext fun r=>?_
 rw [dn_iff]
 simp only [evalCd]
 exact ⟨fun ⟨_,h⟩=>h,fun h=>⟨0,h⟩⟩
def andThen (k:St→Option (Out×St)) (r:Out×St):Option (Out×St):=
 match r.1 with
 | .normal=>k r.2
 | o=>some (o,r.2)
theorem dn_seq (a b:Cd):dn O np (.seq a b) s=(dn O np a s).bind (andThen (dn O np b)):=by
 refine dn_ext fun r=>?_
 rw [dn_iff]
 simp only [evalCd]
 constructor
 ·rintro ⟨n,h⟩
  obtain ⟨⟨o,s1⟩,h1,h2⟩:=Option.bind_eq_some_iff.1 h
  rw [dn_iff.2 ⟨n,h1⟩,Option.bind_some]
  cases o with
  | normal=>exact dn_iff.2 ⟨n,h2⟩
  | exit id=>exact h2
  | ret=>exact h2
 ·intro h
  obtain ⟨⟨o,s1⟩,h1,h2⟩:=Option.bind_eq_some_iff.1 h
  obtain ⟨n,h1⟩:=dn_iff.1 h1
  cases o with
  | normal=>
   obtain ⟨m,h2⟩:=dn_iff.1 h2
   refine ⟨max n m,?_⟩
   rw [code_more (Nat.le_max_left n m) h1,Option.bind_some]
   exact code_more (Nat.le_max_right n m) h2
  | exit id=>exact ⟨n,by rw [h1,Option.bind_some]; exact h2⟩
  | ret=>exact ⟨n,by rw [h1,Option.bind_some]; exact h2⟩
theorem dn_cond {q:Arg} (a b:Cd) {t:Bool} (h:s.e.arg q=some (.d (.bool t))):dn O np (.cond q a b) s=if t then dn O np a s else dn O np b s:=by
 refine dn_ext fun r=>?_
 rw [dn_iff]
 simp only [evalCd,h]
 cases t <;> simp [dn_iff]
def unblock (id:Nat) (r:Out×St):Out×St:=
 match r.1 with
 | .exit i=>if i=id then (.normal,r.2) else r
 | _=>r
theorem dn_block (id:Nat) (c:Cd):dn O np (.block id c) s=(dn O np c s).map (unblock id):=by
 refine dn_ext fun r=>?_
 rw [dn_iff]
 simp only [evalCd]
 constructor
 ·rintro ⟨n,h⟩
  obtain ⟨r1,h1,e⟩:=Option.map_eq_some_iff.1 h
  rw [dn_iff.2 ⟨n,h1⟩,Option.map_some]
  exact congrArg some e
 ·intro h
  obtain ⟨r1,h1,e⟩:=Option.map_eq_some_iff.1 h
  obtain ⟨n,h1⟩:=dn_iff.1 h1
  exact ⟨n,by rw [h1,Option.map_some]; exact congrArg some e⟩
theorem dn_loop (c:Cd):dn O np (.loop c) s=(dn O np c s).bind (andThen (dn O np (.loop c))):=by
 refine dn_ext fun r=>?_
 rw [dn_iff]
 simp only [evalCd]
 constructor
 ·rintro ⟨n,h⟩
  cases n with
  | zero=>simp [iter] at h
  | succ n=>
   simp only [iter] at h
   obtain ⟨⟨o,s1⟩,h1,h2⟩:=Option.bind_eq_some_iff.1 h
   rw [dn_iff.2 ⟨n+1,h1⟩,Option.bind_some]
   cases o with
   | normal=>
    refine dn_iff.2 ⟨n+1,?_⟩
    simp only [evalCd]
    exact iter_more (fun _ _ g=>g) (Nat.le_succ n) h2
   | exit id=>exact h2
   | ret=>exact h2
 ·intro h
  obtain ⟨⟨o,s1⟩,h1,h2⟩:=Option.bind_eq_some_iff.1 h
  obtain ⟨n,h1⟩:=dn_iff.1 h1
  cases o with
  | normal=>
   obtain ⟨m,h2⟩:=dn_iff.1 h2
   simp only [evalCd] at h2
   refine ⟨max n m+1,?_⟩
   simp only [iter]
   rw [code_more (show n≤max n m+1 by omega) h1,Option.bind_some]
   exact iter_more (fun _ _ g=>code_more (show m≤max n m+1 by omega) g) (Nat.le_max_right n m) h2
  | exit id=>exact ⟨n+1,by simp only [iter]; rw [code_more (Nat.le_succ n) h1,Option.bind_some]; exact h2⟩
  | ret=>exact ⟨n+1,by simp only [iter]; rw [code_more (Nat.le_succ n) h1,Option.bind_some]; exact h2⟩
end
def fin (fn:Fn) (np:Nat) (r:Out×St):Option Ans:=
 match r.1 with
 | .exit _=>none
 | _=>if r.2.h.length=np+fn.nblk then (resVs r.2 fn.results).bind fun rs=>
  let v:=result rs
  let own:=(once v.refs).filter (np≤·)
  (r.2.h.pick own).map fun nb=>
   (v.ren (fun i=>if i<np then i else np+own.idxOf i),r.2.h.take np,nb)
  else none
theorem den_of {T:Nat→Option Fn} {A:Oracle} {f:Nat} {fn:Fn} (hT:T f=some fn) {vs:List V} {bs:Heap} {ans:Ans} (hl:vs.length=fn.nparams)
 (h:(dn (den T A) bs.length fn.body ⟨params 0 vs,bs++List.replicate fn.nblk .hole⟩).bind (fin fn bs.length)=some ans):den T A f vs bs=some ans:=by
 obtain ⟨r,h1,h2⟩:=Option.bind_eq_some_iff.1 h
 obtain ⟨n,h1⟩:=dn_iff.1 h1
 refine den_run hT (n:=n) ?_
 unfold run
 rw [if_pos hl,h1,Option.bind_some]
 exact h2
end Pe
