/-
  A part of the proof: an evaluator for a small form of the code, its soundness, and contracts of functions over it.
-/
import Derived.IntWalk
import Derived.Carry
import Derived.OpenShut
import Derived.Test.YtlnmecnmlnegcaaGreatW1

namespace Pe
open Go
variable {P:Program}
def OpWp (P:Program) (o:Oper) (a:Act) (C:Cx) (φ:Loc) (h:Heap) (v:V) (h':Heap) (K:Nat→Prop):Prop:=
 ∀(next:Act→World→Prop) (Q:Exit→Act→World→Prop),(∀C' φ' u,Step C C' φ φ' h h'→(o.dst=none∨RX C' φ' h' v u)→Keeps C C' φ φ' h h' K→next (a.put o.dst u) C'.w)→o.wp P a C.w next Q
theorem OpGood.wp {o:Oper} {a:Act} {C:Cx} {φ:Loc} {h:Heap} {v:V} {h':Heap} {K:Nat→Prop} (g:OpGood P o a C φ h v h' K):OpWp P o a C φ h v h' K:=by
 obtain ⟨C',φ',u,n,hrun,hn,st,hx,hk⟩:=g;intro next Q hnext;unfold Oper.wp;rw [hrun];rcases hn with rfl | ⟨rfl,hd⟩
 ·exact hnext C' φ' u st (.inr hx) hk
 ·exact hnext C' φ' undef st (.inl hd) hk
theorem OpWp.mono {o:Oper} {a:Act} {C:Cx} {φ:Loc} {h:Heap} {v:V} {h':Heap} {K K':Nat→Prop} (g:OpWp P o a C φ h v h' K) (hk:∀i,K i→K' i):OpWp P o a C φ h v h' K':=
 fun next Q hn=>g next Q fun C' φ' u st hx k=>hn C' φ' u st hx (k.mono hk)
def kr:Operand→Bool
 | .const (.slice none 0 0)=>true
 | _=>false
def Qg (P:Program) (num:Nat→Nat) (p:Op) (o:Oper):Bool:=
 match p,o.op with
 | .mv x,.move y=>ca num x y
 | .mv x,.assign y=>ca num x y
 | .chk x,.nilCheck y=>ca num x y
 | .pick c x y,.pick c' x' y'=>ca num c c'&&ca num x x'&&ca num y y'
 | .nilOwn _ _,.move y=>kr y
 | .nilOwn _ _,.assign y=>kr y
 | .box _ _ x,.box _ y=>ca num x y
 | .box _ _ (.c z),.alloc t=>o4 P t z
 | .build _ z ps,.build t qs=>pu num ps qs.toList&&o4 P t z&&(match z,P.underlying t with
  | .arr n sh _,some (.array n' e)=>n == n'&&mh P e sh
  | .st ss _,some (.struct fs)=>eh P 0 fs.toList ss
  | _,_=>false)
 | .buildSl _ _ sh z n ps,.buildSlice t n' qs=>n == n'&&pu num ps qs.toList&&(match P.underlying t with
  | some (.slice e)=>mh P e sh&&o4 P e z&&Sh.beq z.sh sh&&decide (0<sh.size)&&decide (n*sh.size≤16777216)
  | _=>false)
 | .mkSl _ sh z bytes x y,.makeSlice t x' y'=>ca num x x'&&ca num y y'&&(match P.underlying t with
  | some (.slice e)=>mh P e sh&&o4 P e z&&Sh.beq z.sh sh&&decide (0<sh.size)&&decide (0<bytes)&&(match P.info? e with | some inf=>inf.bytes == bytes | none=>false)
  | _=>false)
 | .load sh x,.load t y=>ca num x y&&mh P t sh
 | .store _ sh x y,.store t x' y'=>ca num x x'&&ca num y y'&&mh P t sh&&decide (0<sh.size)&&o.dst.isNone
 | .bin op x y,.binOp op' _ x' y' _=>decide (op=op')&&ca num x x'&&ca num y y'
 | .eqv neg q x y,.binOp op t x' y' _=>decide (op=if neg then .neq else .eql)&&ca num x x'&&ca num y y'&&Ar P t q&&(match q with | .str=>false | _=>true)&&decide (q.depth≤10000) && !P.eqGuardType P.depth t
 | .un op x,.unOp op' _ x'=>decide (op=op')&&ca num x x'
 | .conv k x,.convert src dst x'=>ca num x x'&&(P.underlying src).isSome&&(match P.underlying dst with | some (.int k')=>decide (k'=k) | _=>false)
 | .cut none sh x lo hi mx,.slice t x' lo' hi' mx'=>ca num x x'&&ku num lo lo'&&ku num hi hi'&&ku num mx mx'&&(!mx.isSome||hi.isSome)&&decide (0<sh.size)&&(match P.underlying t with
  | some (.slice e)=>mh P e sh
  | _=>false)
 | .cut (some n) sh x lo hi mx,.slice t x' lo' hi' mx'=>ca num x x'&&ku num lo lo'&&ku num hi hi'&&ku num mx mx'&&(!mx.isSome||hi.isSome)&&decide (0<sh.size)&&(match P.underlying t with
  | some (.array n' e)=>n' == n&&mh P e sh
  | _=>false)
 | .fldA ss x j,.fieldAddr t x' j'=>ca num x x'&&j == j'&&(match ss[j]? with | some s=>decide (0<s.size) | none=>false)&&(match P.underlying t with
  | some (.struct fs)=>eh P 0 fs.toList ss
  | _=>false)
 | .fld ss x j,.field t x' j'=>ca num x x'&&j == j'&&(match P.underlying t with
  | some (.struct fs)=>eh P 0 fs.toList ss
  | _=>false)
 | .idxA none sh x j,.indexAddr t x' j'=>ca num x x'&&ca num j j'&&(match P.underlying t with
  | some (.slice e)=>mh P e sh
  | _=>false)
 | .idxA (some n) sh x j,.indexAddr t x' j'=>ca num x x'&&ca num j j'&&(match P.underlying t with
  | some (.array n' e)=>n' == n&&mh P e sh
  | _=>false)
 | .idx none _ x j,.index t x' j'=>ca num x x'&&ca num j j'&&(match P.underlying t with
  | some .string=>true
  | _=>false)
 | .idx (some n) sh x j,.index t x' j'=>ca num x x'&&ca num j j'&&(match P.underlying t with
  | some (.array n' e)=>n' == n&&mh P e sh
  | _=>false)
 | .ext x j,.extract x' j'=>ca num x x'&&j == j'
 | .mkFn f xs ys,.makeFunc (.func g) xs' ys'=>g == num f&&qp num xs xs'.toList&&qp num ys ys'.toList
 | .len str x,.call ⟨.builtin .len,⟨[x']⟩,⟨[t]⟩⟩=>ca num x x'&&(match P.underlying t,str with
  | some (.slice _),false=>true
  | some .string,true=>true
  | _,_=>false)
 | .maxI x y,.call ⟨.builtin .max,⟨[x',y']⟩,_⟩=>ca num x x'&&ca num y y'
 | .minI x y,.call ⟨.builtin .min,⟨[x',y']⟩,_⟩=>ca num x x'&&ca num y y'
 | .append sh _ bytes x y,.call ⟨.builtin .append,⟨[x',y']⟩,⟨[t,tx]⟩⟩=>ca num x x'&&ca num y y'&&decide (0<sh.size)&&decide (0<bytes) &&
  (match P.underlying tx with | some (.slice _)=>true | _=>false)&&(match P.underlying t with
  | some (.slice e)=>(match P.info? e with
   | some inf=>inf.size == sh.size&&inf.bytes == bytes&&(match inf.zero with | some z=>z.cells.size == sh.size | none=>false)
   | none=>false)
  | _=>false)
 | .call _ news f xs,.call ⟨.value f',xs',_⟩=>ca num f f'&&qp num xs xs'.toList&&decide news.Nodup
 | .nilq neg x,.binOp op t x' y' _=>decide (op=if neg then .neq else .eql)&&ca num x x'&&kr y'&&(match P.underlying t with | some (.slice _)=>true | _=>false)
 | .toStr x,.convert src dst x'=>ca num x x'&&(match P.underlying src with | some (.slice e)=>(match P.underlying e with | some (.int .u8)=>true | _=>false) | _=>false)&&(match P.underlying dst with | some .string=>true | _=>false)
 | .clear sh z x,.call ⟨.builtin .clear,⟨[x']⟩,⟨[t]⟩⟩=>ca num x x'&&(match P.underlying t with
  | some (.slice e)=>o4 P e z&&Sh.beq z.sh sh&&decide (0<sh.size)
  | _=>false)
 | .mkMap _,.makeMap _ none=>true
 | .mapGet x y,.lookup t x' y' false=>ca num x x'&&ca num y y'&&(match P.underlying t with
  | some (.map kt et)=>(match P.underlying kt with | some .string=>true | _=>false)&&o4 P et (.int .i64 0)
  | _=>false)
 | .mapSet x y z,.mapUpdate t x' y' z'=>ca num x x'&&ca num y y'&&ca num z z'&&o.dst.isNone&&(match P.underlying t with
  | some (.map kt _)=>(match P.underlying kt with | some .string=>true | _=>false)
  | _=>false)
 | .fail,_=>true
 | _,_=>false
theorem zx {h:Heap} {v:V} {d:D} (e:v5 h v=some d):toD h v=some d∧d.isTup=false:=by
 unfold v5 at e;obtain ⟨x,hx,e⟩:=a8.1 e
 split at e
 ·cases e
 ·rename_i hn
  obtain rfl:=av e;exact ⟨hx,by simpa using hn⟩
theorem xp {C:Cx} {φ:Loc} {h:Heap}:∀{vs ws:List V} {us zs:List Value},RXs C φ h vs us→RXs C φ h ws zs→RXs C φ h (vs++ws) (us++zs)
 | [],ws,us,zs,g,g'=>by simp only [RXs] at g; subst g; simpa using g'
 | v::vs,ws,us,zs,g,g'=>by
  simp only [RXs] at g;obtain ⟨u,r,rfl,h1,h2⟩:=g;simp only [fh,RXs];exact ⟨u,_,rfl,h1,xp h2 g'⟩
section
variable {C:Cx} {φ:Loc} {s:St} {a:Act} {o:Oper} {K:Nat→Prop}
theorem I4 (hs:SR C φ s a.tmps) {x:Arg} {y:Operand} (ho:o.op=.nilCheck y) (hok:ca C.num x y=true) {v:V} (hv:s.e.arg x=some v) (hp:(∃d,v=.d (.ip d))∨∃i p,v=.ptr i p):OpGood P o a C φ s.h v s.h K:=by
 have h1:=bi hs hok hv;refine br hs (u:=a.eval y) ?_ h1;rcases hp with ⟨d,rfl⟩ | ⟨i,p,rfl⟩
 ·obtain ⟨b,off,us,e,_⟩:=Iy h1
  simp [execOp,ho,e]
 ·simp only [RX] at h1
  obtain ⟨B,b,off,q,_,_,_,e⟩:=h1;simp [execOp,ho,e]
theorem Wu {f:Nat} {us:List Value} (hexec:(execOp a.eval o).run P C.w=(callFunc (C.num f) us.toArray).run P C.w) {v:V} {h':Heap} (he:N7 P (C.num f) us C φ s.h h' v):OpWp P o a C φ s.h v h' K:=by
 intro next Q hnext;obtain ⟨⟨fn,hf,hnm,hb⟩,hcall⟩:=he;unfold Oper.wp
 have:(callFunc (C.num f) us.toArray).run P C.w=.ok (.enter (C.num f) us.toArray) C.w:=by
  have hb':fn.body.isNone=false:=by cases hq:fn.body <;> simp_all
  simp [callFunc,hf,hnm];intro e; rw [e] at hb; simp at hb
 rw [hexec,this,Oper.upon_enter];refine Calls.mono hcall ?_
 rintro e w' ⟨u,C',φ',rfl,rfl,st,k,hx⟩
 exact hnext C' φ' u st (.inr hx) (k.mono (by simp))
theorem Qq {O:ah} (hO:jp P C.num O) (hs:SR C φ s a.tmps) {np:Nat} {m:Mode} {news:List Nat} {f:Arg} {xs:List Arg} {f':Operand} {xs':Array Operand} {ts:Array TypeId} (ho:o.op=.call ⟨.value f',xs',ts⟩) (hf:ca C.num f f'=true) (hx:qp C.num xs xs'.toList=true)
 (hnews:news.Nodup) {v:V} {h':Heap} (he:aq O np s.e s.h (.call m news f xs)=some (v,h')):OpWp P o a C φ s.h v h' K:=by
 simp only [aq] at he;obtain ⟨fv,hfv,he⟩:=a8.1 he;obtain ⟨⟨g,first,caps⟩,hg,he⟩:=a8.1 he;obtain ⟨vs,hvs,he⟩:=a8.1 he;simp only at he;have hargs:=sx hs hx hvs;have hfun:=bi hs hf hfv
 have key:∃fs cs:Array Value,a.eval f'=.func (.func (C.num g)) fs cs∧RXs C φ s.h first fs.toList∧RXs C φ s.h caps cs.toList:=by
  unfold callee at hg
  split at hg
  ·rename_i g0 a0 c0
   simp only [a9,ae] at hg;obtain ⟨rfl,rfl,rfl⟩:=hg;simp only [RX,RV,RD] at hfun;obtain ⟨h0,us,ws,e,h1,h2⟩:=hfun;refine ⟨us,ws,?_,rh h1,rh h2⟩;cases hq:a.eval f' <;> simp_all [Value.cells,isAgg,D.isAgg]
  ·rename_i g0 a0 c0
   simp only [a9,ae] at hg;obtain ⟨rfl,rfl,rfl⟩:=hg;simp only [RX] at hfun;exact hfun
  ·cases hg
 obtain ⟨fs,cs,e,h1,h2⟩:=key;have hall:=xp (xp h1 hargs) h2
 have hexec:(execOp a.eval o).run P C.w=(callFunc (C.num g) (fs.toList++xs'.toList.map a.eval++cs.toList).toArray).run P C.w:=by
  have earr:(fs.toList++xs'.toList.map a.eval++cs.toList).toArray=fs++xs'.map a.eval++cs:=by
   apply Array.ext'; simp
  rw [earr];simp [execOp,ho,resolve,e,Deferred.ofValue,invoke]
 refine Wu hexec ?_;cases m with
 | heap=>
  simp only at he;exact Ck hO hs.hr hs.bd hnews hall he
 | flat | data | plain=>
  simp only at he;exact C5 hO hs.hr hs.bd hall he
theorem Sq {O:ah} (hO:jp P C.num O) (hs:SR C φ s a.tmps) {np:Nat} {p:Op} (hok:Qg P C.num p o=true) {v:V} {h':Heap} (he:aq O np s.e s.h p=some (v,h')) :
 OpWp P o a C φ s.h v h' (fun i=>p.kill s.e v=some i):=by
 unfold Qg at hok
 split at hok
 case h_1 x y ho=>
  simp only [aq] at he;obtain ⟨u,hu,e⟩:=ab.1 he;simp only [ae] at e;obtain ⟨rfl,rfl⟩:=e;exact (Nl hs (.inl ho) hok hu).wp
 case h_2 x y ho=>
  simp only [aq] at he;obtain ⟨u,hu,e⟩:=ab.1 he;simp only [ae] at e;obtain ⟨rfl,rfl⟩:=e;exact (Nl hs (.inr ho) hok hu).wp
 case h_3 x y ho=>
  simp only [aq] at he
  split at he <;> simp only [a9,ae,reduceCtorEq] at he <;> obtain ⟨rfl,rfl⟩:=he
  ·rename_i d hx
   exact (I4 hs ho hok hx (.inl ⟨d,rfl⟩)).wp
  ·rename_i i p hx
   exact (I4 hs ho hok hx (.inr ⟨i,p,rfl⟩)).wp
 case h_4 c x y c' x' y' ho=>
  simp only [al] at hok;simp only [aq] at he
  split at he
  ·rename_i t ht
   obtain ⟨u,hu,e⟩:=ab.1 he;simp only [ae] at e;obtain ⟨rfl,rfl⟩:=e;exact (Ps hs ho hok.1.1 hok.1.2 hok.2 ht hu).wp
  ·cases he
 case h_5 i sh y ho=>
  simp only [aq] at he;obtain ⟨h1,hp,e⟩:=ab.1 he;simp only [ae] at e;obtain ⟨rfl,rfl⟩:=e;obtain ⟨hi,rfl⟩:=cm hp;refine (Al hs (.inl ho) ?_ hi).wp;unfold kr at hok
  split at hok
  ·rfl
  ·cases hok
 case h_6 i sh y ho=>
  simp only [aq] at he;obtain ⟨h1,hp,e⟩:=ab.1 he;simp only [ae] at e;obtain ⟨rfl,rfl⟩:=e;obtain ⟨hi,rfl⟩:=cm hp;refine (Al hs (.inr ho) ?_ hi).wp;unfold kr at hok
  split at hok
  ·rfl
  ·cases hok
 case h_7 fz i x t y ho=>
  simp only [aq] at he;obtain ⟨u,hu,he⟩:=a8.1 he;obtain ⟨d,hd,he⟩:=a8.1 he;obtain ⟨h1,hf,he⟩:=a8.1 he;obtain ⟨h2,hp,e⟩:=ab.1 he;simp only [ae] at e;obtain ⟨rfl,rfl⟩:=e;obtain ⟨hi,rfl⟩:=cm hp;obtain ⟨hd,hnt⟩:=zx hd;exact (U5 hs ho hok hu hd hnt hf hi).wp
 case h_8 fz i z t ho=>
  simp only [aq,Env.arg,ac] at he;obtain ⟨d,hd,he⟩:=a8.1 he;obtain ⟨h1,hf,he⟩:=a8.1 he;obtain ⟨h2,hp,e⟩:=ab.1 he;simp only [ae] at e;obtain ⟨rfl,rfl⟩:=e;obtain ⟨hi,rfl⟩:=cm hp;obtain ⟨hd,hnt⟩:=zx hd;simp only [toD,a9] at hd;subst hd;exact (Lo hs ho hok hf hi).wp
 case h_9 fz z ps t qs ho=>
  simp only [al] at hok;simp only [aq] at he;obtain ⟨xs,hx,he⟩:=a8.1 he;obtain ⟨h1,hf,he⟩:=a8.1 he;obtain ⟨⟨hp,hz⟩,hk⟩:=hok
  split at he
  ·rename_i n sh cs
   obtain ⟨cs',hfill,e⟩:=ab.1 he;simp only [ae] at e;obtain ⟨rfl,rfl⟩:=e
   split at hk
   ·rename_i n0 sh0 cs0 n' e' hu hz'
    simp only [D.arr.injEq] at hu;obtain ⟨rfl,rfl,rfl⟩:=hu;simp only [al,beq_iff_eq] at hk;obtain ⟨rfl,hk⟩:=hk;exact (Bq hs ho hp hz hx hf (.inl ⟨_,_,_,_,_,rfl,hfill,rfl,hz',hk⟩)).wp
   ·rename_i hu _; cases hu
   ·cases hk
  ·rename_i ss cs
   obtain ⟨cs',hfill,e⟩:=ab.1 he;simp only [ae] at e;obtain ⟨rfl,rfl⟩:=e
   split at hk
   ·rename_i hu _; cases hu
   ·rename_i ss0 cs0 fs hu hz'
    simp only [D.st.injEq] at hu;obtain ⟨rfl,rfl⟩:=hu;exact (Bq hs ho hp hz hx hf (.inr ⟨_,_,_,_,rfl,hfill,rfl,hz',hk⟩)).wp
   ·cases hk
  ·cases he
 case h_10 fz i sh z n ps t n' qs ho=>
  simp only [al,beq_iff_eq] at hok;obtain ⟨⟨rfl,hp⟩,hk⟩:=hok;simp only [aq] at he;obtain ⟨xs,hx,he⟩:=a8.1 he;obtain ⟨cs,hfill,he⟩:=a8.1 he;obtain ⟨h1,hf,he⟩:=a8.1 he;obtain ⟨h2,hpb,e⟩:=ab.1 he;simp only [ae] at e;obtain ⟨rfl,rfl⟩:=e;obtain ⟨hi,rfl⟩:=cm hpb
  split at hk
  ·rename_i e ht
   simp only [al,decide_eq_true_eq] at hk;obtain ⟨⟨⟨⟨k1,k2⟩,k3⟩,k4⟩,k5⟩:=hk;exact (Gi hs ho ht k1 hp k2 (Sh.beq_eq _ _ k3) k4 k5 hx hf hfill hi).wp
  ·cases hk
 case h_11 i sh z bytes x y t x' y' ho=>
  simp only [al] at hok;obtain ⟨⟨hx,hy⟩,hk⟩:=hok;simp only [aq] at he
  split at he
  ·rename_i n m hn hm
   split at he
   ·rename_i hc
    obtain ⟨h2,hpb,e⟩:=ab.1 he;simp only [ae] at e;obtain ⟨rfl,rfl⟩:=e;obtain ⟨hi,rfl⟩:=cm hpb
    split at hk
    ·rename_i e ht
     simp only [al,decide_eq_true_eq] at hk;obtain ⟨⟨⟨⟨⟨k1,k2⟩,k3⟩,k4⟩,k5⟩,k6⟩:=hk
     split at k6
     ·rename_i inf hinf
      have hb:inf.bytes=bytes:=by simpa using k6
      have hm63:m≤9223372036854775807:=by
       have h1:m*1≤m*bytes:=mf m k5;have:=hc.2;omega
      exact (R8 hs ho ht k1 ⟨inf,hinf,hb⟩ hx hy k2 (Sh.beq_eq _ _ k3) k4 hn hm hc.1 hc.2 hm63 hi).wp
     ·cases k6
    ·cases hk
   ·cases he
  ·cases he
 case h_12 sh x t y ho=>
  simp only [al] at hok;simp only [aq] at he
  split at he
  ·rename_i d hd
   split at he
   ·rename_i hsh
    simp only [a9,ae] at he;obtain ⟨rfl,rfl⟩:=he;exact (Du hs ho hok.1 hok.2 (.inl ⟨hd,Sh.beq_eq _ _ hsh⟩)).wp
   ·cases he
  ·rename_i i p hp
   obtain ⟨d,hd,he⟩:=a8.1 he;obtain ⟨B,hB,hg⟩:=a8.1 hd
   split at he
   ·rename_i hsh
    simp only [a9,ae] at he;obtain ⟨rfl,rfl⟩:=he;exact (Du hs ho hok.1 hok.2 (.inr ⟨i,p,B,hp,hB,hg,Sh.beq_eq _ _ hsh⟩)).wp
   ·cases he
  ·cases he
 case h_13 fz sh x y t x' y' ho=>
  simp only [al,decide_eq_true_eq] at hok;obtain ⟨⟨⟨⟨hx,hy⟩,ht⟩,hpos⟩,hdst⟩:=hok;simp only [aq] at he;obtain ⟨u,hu,he⟩:=a8.1 he;obtain ⟨d,hd,he⟩:=a8.1 he;obtain ⟨h1,hf,he⟩:=a8.1 he;obtain ⟨hd,hnt⟩:=zx hd
  split at he
  ·rename_i i p hp
   split at he
   ·rename_i hsh
    obtain ⟨B,hB,he⟩:=a8.1 he;obtain ⟨B',hset,e⟩:=ab.1 he;simp only [ae] at e;obtain ⟨rfl,rfl⟩:=e;exact (L6 hs ho (by simpa using hdst) hx hy ht hpos hu hd hnt (Sh.beq_eq _ _ hsh) hf hp hB hset).wp
   ·cases he
  ·cases he
 case h_14 op x y op' t x' y' yt ho=>
  simp only [al,decide_eq_true_eq] at hok;obtain ⟨⟨rfl,hx⟩,hy⟩:=hok;simp only [aq] at he
  split at he
  ·rename_i d1 d2 hd1 hd2
   obtain ⟨r,hr,e⟩:=ab.1 he;simp only [ae] at e;obtain ⟨rfl,rfl⟩:=e;have g1:=bi hs hx hd1;have g2:=bi hs hy hd2;unfold sb at hr
   split at hr
   ·exact (Bp hs ho (je g1) (je g2) hr (.inl rfl)).wp
   ·exact (Bp hs ho (je g1) (je g2) hr (.inr rfl)).wp
   ·rename_i n1 n2
    split at hr
    ·rename_i hk
     subst hk;exact (Q3 hs ho (je g1) (je g2) hr ⟨n1,n2⟩).wp
    ·cases hr
   ·exact (Oy hs ho (zj g1) (zj g2) hr).wp
   ·cases hr
  ·cases he
 case h_15 neg q x y op t x' y' yt ho=>
  simp only [al,decide_eq_true_eq,dh] at hok;obtain ⟨⟨⟨⟨⟨⟨rfl,hx⟩,hy⟩,hq⟩,hns⟩,hd⟩,hg⟩:=hok;simp only [aq] at he
  split at he
  ·rename_i d1 d2 hd1 hd2
   obtain ⟨r,hr,e⟩:=ab.1 he;simp only [ae] at e;obtain ⟨rfl,rfl⟩:=e;exact (Ta hs ho hx hy hq (by rintro rfl; simp at hns) hd hg hd1 hd2 hr).wp
  ·cases he
 case h_16 op x op' t x' ho=>
  simp only [al,decide_eq_true_eq] at hok;obtain ⟨rfl,hx⟩:=hok;simp only [aq] at he
  split at he
  ·rename_i d hd
   obtain ⟨r,hr,e⟩:=ab.1 he;simp only [ae] at e;obtain ⟨rfl,rfl⟩:=e;exact (Vq hs ho hx hd hr).wp
  ·cases he
 case h_17 k x src dst x' ho=>
  simp only [al] at hok;obtain ⟨⟨hx,hsrc⟩,hk⟩:=hok;simp only [aq] at he
  split at he
  ·rename_i q n hn
   simp only [a9,ae] at he;obtain ⟨rfl,rfl⟩:=he
   split at hk
   ·rename_i k' hk'
    have:k'=k:=by simpa using hk
    subst this;exact (Q1 hs ho hx hsrc hk' hn).wp
   ·cases hk
  ·cases he
 case h_18 sh x lo hi mx t x' lo' hi' mx' ho=>
  simp only [al,decide_eq_true_eq] at hok;obtain ⟨⟨⟨⟨⟨⟨hx,h1⟩,h2⟩,h3⟩,hmh⟩,hpos⟩,hk⟩:=hok
  have hmh':mx.isSome=true→hi.isSome=true:=by
   intro h; simpa [h] using hmh
  split at hk
  ·rename_i e ht
   simp only [aq] at he
   split at he
   ·rename_i sh' cs hcs
    obtain ⟨m,hm,he⟩:=a8.1 he;obtain ⟨b,hb,he⟩:=a8.1 he;obtain ⟨l,hl,he⟩:=a8.1 he
    split at he
    ·rename_i hc
     simp only [a9,ae] at he;obtain ⟨rfl,rfl⟩:=he;obtain rfl:=Sh.beq_eq _ _ hc.1;exact (yu hs ho hx h1 h2 h3 hmh' hk hpos hm hb hl hc.2.1 hc.2.2.1 hc.2.2.2 (.inl ⟨ht,.inl ⟨cs,hcs,rfl,rfl⟩⟩)).wp
    ·cases he
   ·rename_i i p off n cap hcs
    obtain ⟨⟨sh',cs⟩,hq,he⟩:=a8.1 he;obtain ⟨B,hB,hE⟩:=a8.1 hq;obtain ⟨m,hm,he⟩:=a8.1 he;obtain ⟨b,hb,he⟩:=a8.1 he;obtain ⟨l,hl,he⟩:=a8.1 he
    split at he
    ·rename_i hc
     simp only [a9,ae] at he;obtain ⟨rfl,rfl⟩:=he;obtain rfl:=Sh.beq_eq _ _ hc.1;exact (yu hs ho hx h1 h2 h3 hmh' hk hpos hm hb hl hc.2.1 hc.2.2.1 hc.2.2.2 (.inl ⟨ht,.inr ⟨i,p,off,cap,B,cs,hcs,hB,hE,by cases mx <;> rfl⟩⟩)).wp
    ·cases he
   ·cases he
  ·cases hk
 case h_19 n sh x lo hi mx t x' lo' hi' mx' ho=>
  simp only [al,decide_eq_true_eq] at hok;obtain ⟨⟨⟨⟨⟨⟨hx,h1⟩,h2⟩,h3⟩,hmh⟩,hpos⟩,hk⟩:=hok
  have hmh':mx.isSome=true→hi.isSome=true:=by
   intro h; simpa [h] using hmh
  split at hk
  ·rename_i n' e ht
   simp only [al,beq_iff_eq] at hk;obtain ⟨rfl,hk⟩:=hk;simp only [aq] at he
   split at he
   ·rename_i i p hp
    obtain ⟨y,hy,he⟩:=a8.1 he;obtain ⟨B,hB,hE⟩:=a8.1 hy
    split at he
    ·rename_i n2 sh' cs
     obtain ⟨m,hm,he⟩:=a8.1 he;obtain ⟨b,hb,he⟩:=a8.1 he;obtain ⟨l,hl,he⟩:=a8.1 he
     split at he
     ·rename_i hc
      simp only [a9,ae] at he;obtain ⟨rfl,rfl⟩:=he;obtain ⟨rfl,hc1,hc2⟩:=hc;obtain rfl:=Sh.beq_eq _ _ hc1;exact (yu hs ho hx h1 h2 h3 hmh' hk hpos hm hb hl hc2.1 hc2.2.1 hc2.2.2 (.inr ⟨ht,.inl ⟨i,p,B,cs,hp,hB,hE,rfl⟩⟩)).wp
     ·cases he
    ·cases he
   ·rename_i n2 sh' cs hcs
    obtain ⟨m,hm,he⟩:=a8.1 he;obtain ⟨b,hb,he⟩:=a8.1 he;obtain ⟨l,hl,he⟩:=a8.1 he
    split at he
    ·rename_i hc
     simp only [a9,ae] at he;obtain ⟨rfl,rfl⟩:=he;obtain ⟨rfl,hc1,hc2⟩:=hc;obtain rfl:=Sh.beq_eq _ _ hc1;exact (yu hs ho hx h1 h2 h3 hmh' hk hpos hm hb hl hc2.1 hc2.2.1 hc2.2.2 (.inr ⟨ht,.inr ⟨cs,hcs,rfl⟩⟩)).wp
    ·cases he
   ·cases he
  ·cases hk
 case h_20 ss x j t x' j' ho=>
  simp only [al,beq_iff_eq] at hok;obtain ⟨⟨⟨hx,rfl⟩,hj⟩,hk⟩:=hok
  have hj':∃sh,ss[j]? = some sh∧0<sh.size:=by
   split at hj
   ·rename_i sh hsh; exact ⟨sh,hsh,by simpa using hj⟩
   ·cases hj
  split at hk
  ·rename_i fs ht
   simp only [aq] at he
   split at he
   ·rename_i i p hp
    obtain ⟨y,hy,he⟩:=a8.1 he;obtain ⟨B,hB,hE⟩:=a8.1 hy
    split at he
    ·rename_i hc
     simp only [a9,ae] at he;obtain ⟨rfl,rfl⟩:=he;exact (Dw hs ho hx ht hk hj' (.inl ⟨i,p,B,y,hp,hB,hE,Sh.beq_eq _ _ hc,rfl⟩)).wp
    ·cases he
   ·rename_i ts cs hcs
    split at he
    ·rename_i hc
     obtain ⟨c,hc1,e⟩:=ab.1 he;simp only [ae] at e;obtain ⟨rfl,rfl⟩:=e;obtain rfl:=Sh.beqs_eq _ _ hc;exact (Dw hs ho hx ht hk hj' (.inr ⟨cs,c,hcs,hc1,rfl⟩)).wp
    ·cases he
   ·cases he
  ·cases hk
 case h_21 ss x j t x' j' ho=>
  simp only [al,beq_iff_eq] at hok;obtain ⟨⟨hx,rfl⟩,hk⟩:=hok
  split at hk
  ·rename_i fs ht
   simp only [aq] at he
   split at he
   ·rename_i ts cs hcs
    split at he
    ·rename_i hc
     obtain ⟨c,hc1,e⟩:=ab.1 he;simp only [ae] at e;obtain ⟨rfl,rfl⟩:=e;obtain rfl:=Sh.beqs_eq _ _ hc;exact (Ro hs ho hx ht hk hcs hc1).wp
    ·cases he
   ·cases he
  ·cases hk
 case h_22 sh x j t x' j' ho=>
  simp only [al] at hok;obtain ⟨⟨hx,hj⟩,hk⟩:=hok
  split at hk
  ·rename_i e ht
   simp only [aq] at he
   split at he
   ·rename_i i p off n cap k hp hkk
    obtain ⟨⟨sh',q⟩,hq,he⟩:=a8.1 he;obtain ⟨B,hB,hE⟩:=a8.1 hq
    split at he
    ·rename_i hc
     simp only [a9,ae] at he;obtain ⟨rfl,rfl⟩:=he;obtain rfl:=Sh.beq_eq _ _ hc.1;exact (wg hs ho hx hj hk hkk (.inl ⟨ht,.inl ⟨i,p,off,n,cap,q,B,hp,hB,hE,hc.2,rfl⟩⟩)).wp
    ·cases he
   ·rename_i sh' cs k hcs hkk
    split at he
    ·rename_i hc
     obtain ⟨c,hc1,e⟩:=ab.1 he;simp only [ae] at e;obtain ⟨rfl,rfl⟩:=e;obtain rfl:=Sh.beq_eq _ _ hc;exact (wg hs ho hx hj hk hkk (.inl ⟨ht,.inr ⟨cs,c,hcs,hc1,rfl⟩⟩)).wp
    ·cases he
   ·cases he
  ·cases hk
 case h_23 n sh x j t x' j' ho=>
  simp only [al] at hok;obtain ⟨⟨hx,hj⟩,hk⟩:=hok
  split at hk
  ·rename_i n' e ht
   simp only [al,beq_iff_eq] at hk;obtain ⟨rfl,hk⟩:=hk;simp only [aq] at he
   split at he
   ·rename_i i p k hp hkk
    obtain ⟨y,hy,he⟩:=a8.1 he;obtain ⟨B,hB,hE⟩:=a8.1 hy
    split at he
    ·rename_i n2 sh' cs
     split at he
     ·rename_i hc
      simp only [a9,ae] at he;obtain ⟨rfl,rfl⟩:=he;obtain ⟨rfl,hc1,hc2⟩:=hc;obtain rfl:=Sh.beq_eq _ _ hc1;exact (wg hs ho hx hj hk hkk (.inr ⟨_,ht,.inl ⟨i,p,B,cs,hp,hB,hE,hc2,rfl⟩⟩)).wp
     ·cases he
    ·cases he
   ·rename_i n2 sh' cs k hcs hkk
    split at he
    ·rename_i hc
     obtain ⟨c,hc1,e⟩:=ab.1 he;simp only [ae] at e;obtain ⟨rfl,rfl⟩:=e;obtain ⟨rfl,hc2⟩:=hc;obtain rfl:=Sh.beq_eq _ _ hc2;exact (wg hs ho hx hj hk hkk (.inr ⟨_,ht,.inr ⟨cs,c,hcs,hc1,rfl⟩⟩)).wp
    ·cases he
   ·cases he
  ·cases hk
 case h_24 sh x j t x' j' ho=>
  simp only [al] at hok;obtain ⟨⟨hx,hj⟩,hk⟩:=hok
  split at hk
  ·rename_i ht
   simp only [aq] at he
   split at he
   ·rename_i b k hb hkk
    obtain ⟨c,hc1,e⟩:=ab.1 he;simp only [ae] at e;obtain ⟨rfl,rfl⟩:=e;exact (Qy hs ho hx hj ht hb hkk hc1).wp
   ·cases he
  ·cases hk
 case h_25 n sh x j t x' j' ho=>
  simp only [al] at hok;obtain ⟨⟨hx,hj⟩,hk⟩:=hok
  split at hk
  ·rename_i n' e ht
   simp only [al,beq_iff_eq] at hk;obtain ⟨rfl,hk⟩:=hk;simp only [aq] at he
   split at he
   ·rename_i n2 sh' cs k hcs hkk
    split at he
    ·rename_i hc
     obtain ⟨c,hc1,e⟩:=ab.1 he;simp only [ae] at e;obtain ⟨rfl,rfl⟩:=e;obtain ⟨hn,hc2⟩:=hc;obtain rfl:=Sh.beq_eq _ _ hc2;exact (Tq hs ho hx hj ht hk hcs hn hkk hc1).wp
    ·cases he
   ·cases he
  ·cases hk
 case h_26 x j x' j' ho=>
  simp only [al,beq_iff_eq] at hok;obtain ⟨hx,rfl⟩:=hok;simp only [aq] at he
  split at he
  ·rename_i ds hds
   obtain ⟨c,hc1,e⟩:=ab.1 he;simp only [ae] at e;obtain ⟨rfl,rfl⟩:=e;exact (Jh hs ho hx (.inl ⟨ds,c,hds,hc1,rfl⟩)).wp
  ·rename_i vs hvs
   obtain ⟨c,hc1,e⟩:=ab.1 he;simp only [ae] at e;obtain ⟨rfl,rfl⟩:=e;exact (Jh hs ho hx (.inr ⟨vs,hvs,hc1⟩)).wp
  ·cases he
 case h_27 f xs ys g xs' ys' ho=>
  simp only [al,beq_iff_eq] at hok;obtain ⟨⟨rfl,hx⟩,hy⟩:=hok;simp only [aq] at he;obtain ⟨us,hus,he⟩:=a8.1 he;obtain ⟨vs,hvs,e⟩:=ab.1 he;simp only [ae] at e;obtain ⟨rfl,rfl⟩:=e;exact (Qp hs ho hx hy hus hvs).wp
 case h_28 str x x' t ho=>
  simp only [al] at hok;obtain ⟨hx,hk⟩:=hok
  split at hk
  ·rename_i e ht
   simp only [aq] at he
   split at he
   ·rename_i sh cs hcs
    simp only [a9,ae] at he;obtain ⟨rfl,rfl⟩:=he;exact (Cb hs ho hx (.inl ⟨⟨e,ht⟩,.inl ⟨sh,cs,hcs,rfl⟩⟩)).wp
   ·rename_i i p off n cap hcs
    simp only [a9,ae] at he;obtain ⟨rfl,rfl⟩:=he;exact (Cb hs ho hx (.inl ⟨⟨e,ht⟩,.inr ⟨i,p,off,cap,hcs⟩⟩)).wp
   ·cases he
  ·rename_i ht
   simp only [aq] at he
   split at he
   ·rename_i b hb
    simp only [a9,ae] at he;obtain ⟨rfl,rfl⟩:=he;exact (Cb hs ho hx (.inr ⟨ht,b,hb,rfl⟩)).wp
   ·cases he
  ·cases hk
 case h_29 x y x' y' ts ho=>
  simp only [al] at hok;simp only [aq] at he
  split at he
  ·rename_i k m k' n hm hn
   split at he
   ·rename_i hk
    subst hk;simp only [a9,ae] at he;obtain ⟨rfl,rfl⟩:=he;exact (Um hs ho hok.1 hok.2 hm hn).wp
   ·cases he
  ·cases he
 case h_30 x y x' y' ts ho=>
  simp only [al] at hok;simp only [aq] at he
  split at he
  ·rename_i k m k' n hm hn
   split at he
   ·rename_i hk
    subst hk;simp only [a9,ae] at he;obtain ⟨rfl,rfl⟩:=he;exact (Rd hs ho hok.1 hok.2 hm hn).wp
   ·cases he
  ·cases he
 case h_31 sh i bytes x y x' y' t tx ho=>
  simp only [al,decide_eq_true_eq] at hok;obtain ⟨⟨⟨⟨⟨hx,hy⟩,hpos⟩,hby⟩,htx⟩,hk⟩:=hok
  have htx':∃e',P.underlying tx=some (.slice e'):=by
   split at htx
   ·rename_i e' h; exact ⟨e',h⟩
   ·cases htx
  simp only [aq] at he;obtain ⟨w,hw,he⟩:=a8.1 he;obtain ⟨d,hd,he⟩:=a8.1 he
  split at he
  ·rename_i sh1 ys j off n cap hxe
   split at he
   ·rename_i fr sh2 cs hB
    split at he
    ·rename_i hc
     obtain ⟨c1,c2,c3,c4⟩:=hc;obtain rfl:=Sh.beq_eq _ _ c1;obtain rfl:=Sh.beq_eq _ _ c2
     split at hk
     ·rename_i e ht
      split at hk
      ·rename_i inf hinf
       simp only [al,beq_iff_eq] at hk;obtain ⟨⟨hs1,hs2⟩,hk⟩:=hk
       split at hk
       ·rename_i z hz
        have hzs:z.cells.size=sh2.size:=by simpa using hk
        have hlen:n+ys.length≤1099511627776:=by
         have h1:(n+ys.length)*1≤(n+ys.length)*bytes:=mf _ hby
         omega
        obtain ⟨ad,c,e1,_,e3⟩:=zt hs.hr hd (bi hs hy hw);have app:AppIn P C φ s a sh2 t tx x' y' j off n cap fr cs ys:=⟨⟨e,inf,z,bytes,ht,hinf,hz,hs1,hs2,hzs,c4⟩,htx',hpos,hlen,bi hs hx hxe,hB,c3,ad,c,e1,e3⟩
        split at he
        ·rename_i hfr
         simp only [a9,ae] at he;obtain ⟨rfl,rfl⟩:=he;obtain ⟨rfl,_⟩:=hfr;refine (tv hs ho app).wp.mono ?_
         rintro i' rfl
         simp [Op.kill,hxe]
        ·split at he
         ·rename_i hcap
          obtain ⟨h2,hpb,e⟩:=ab.1 he;simp only [ae] at e;obtain ⟨rfl,rfl⟩:=e;obtain ⟨hi,rfl⟩:=cm hpb;obtain ⟨rfl,hys⟩:=hcap;exact (Ap hs ho app hys hi).wp
         ·cases he
       ·cases hk
      ·cases hk
     ·cases hk
    ·cases he
   ·cases he
  ·rename_i sh1 y1 ys sh2 hxe
   split at he
   ·rename_i hc
    obtain ⟨c1,c2,c3⟩:=hc;obtain rfl:=Sh.beq_eq _ _ c1;obtain rfl:=Sh.beq_eq _ _ c2;obtain ⟨h2,hpb,e⟩:=ab.1 he;simp only [ae] at e;obtain ⟨rfl,rfl⟩:=e;obtain ⟨hi,rfl⟩:=cm hpb
    split at hk
    ·rename_i e ht
     split at hk
     ·rename_i inf hinf
      simp only [al,beq_iff_eq] at hk;obtain ⟨⟨hs1,hs2⟩,hk⟩:=hk
      split at hk
      ·rename_i z hz
       have hzs:z.cells.size=sh2.size:=by simpa using hk
       have hlen:0+(y1::ys).length≤1099511627776:=by
        have h1:(ys.length+1)*1≤(ys.length+1)*bytes:=mf _ hby
        simp only [cl]; omega
       obtain ⟨ad,c,e1,_,e3⟩:=zt hs.hr hd (bi hs hy hw)
       have hnil:a.eval x'=.slice none 0 0:=by
        have:=bi hs hx hxe;simp only [RX,RV,RD] at this;cases hq:a.eval x' <;> simp_all [Value.cells,isAgg,D.isAgg]
       have:=Aq hs ho hnil hi ⟨e,inf,z,bytes,ht,hinf,hz,hs1,hs2,hzs,by simpa using c3⟩ htx' hpos hlen ⟨ad,c,e1,e3⟩
       simp only [cl,bf] at this;exact this.wp.mono (by simp)
      ·cases hk
     ·cases hk
    ·cases hk
   ·cases he
  ·cases he
 case h_32 m news f xs f' xs' ts ho=>
  simp only [al,decide_eq_true_eq] at hok;exact Qq hO hs ho hok.1.1 hok.1.2 hok.2 he
 case h_33 neg x op t x' y' yt ho=>
  simp only [al,decide_eq_true_eq] at hok;obtain ⟨⟨⟨rfl,hx⟩,hy⟩,hk⟩:=hok
  have hy':a.eval y'=.slice none 0 0:=by
   unfold kr at hy
   split at hy
   ·rfl
   ·cases hy
  split at hk
  ·rename_i e ht
   simp only [aq] at he
   split at he
   ·rename_i sh c cs hcs
    simp only [a9,ae] at he;obtain ⟨rfl,rfl⟩:=he;exact (Eo hs ho hx ht hy' (.inl ⟨sh,c,cs,hcs⟩)).wp
   ·rename_i i p off n cap hcs
    simp only [a9,ae] at he;obtain ⟨rfl,rfl⟩:=he;exact (Eo hs ho hx ht hy' (.inr ⟨i,p,off,n,cap,hcs⟩)).wp
   ·cases he
  ·cases hk
 case h_34 x src dst x' ho=>
  simp only [al] at hok;obtain ⟨⟨hx,h1⟩,h2⟩:=hok;simp only [aq] at he;obtain ⟨w,hw,he⟩:=a8.1 he;obtain ⟨d,hd,he⟩:=a8.1 he
  split at he
  ·rename_i cs
   obtain ⟨bs,hb,e⟩:=ab.1 he;simp only [ae] at e;obtain ⟨rfl,rfl⟩:=e
   split at h1
   ·rename_i et het
    split at h1
    ·rename_i hu8
     split at h2
     ·rename_i hds
      exact (Lu hs ho hx het hu8 hds hw hd hb).wp
     ·cases h2
    ·cases h1
   ·cases h1
  ·cases he
 case h_35 sh z x x' t ho=>
  simp only [al] at hok;obtain ⟨hx,h1⟩:=hok;simp only [aq] at he
  split at he
  ·rename_i j off n cap hxe
   split at he
   ·rename_i t' cs hj
    split at he
    ·rename_i hc
     simp only [a9,ae] at he;obtain ⟨rfl,rfl⟩:=he
     split at h1
     ·rename_i e ht
      simp only [al,decide_eq_true_eq] at h1;obtain ⟨⟨h1,h2⟩,h3⟩:=h1;obtain rfl:=Sh.beq_eq _ _ hc.1;exact (M4 hs ho hx ht h1 (Sh.beq_eq _ _ h2) h3 hxe hj hc.2).wp
     ·cases h1
    ·cases he
   ·cases he
  ·cases he
 case h_36 i t ho=>
  simp only [aq] at he;obtain ⟨h1,hp,e⟩:=ab.1 he;simp only [ae] at e;obtain ⟨rfl,rfl⟩:=e;obtain ⟨hi,rfl⟩:=cm hp;exact (Lr hs ho hi).wp
 case h_37 x y t x' y' ho=>
  simp only [al] at hok;obtain ⟨⟨hx,hy⟩,hk⟩:=hok;simp only [aq] at he
  split at he
  ·rename_i j k hxe hye
   split at he
   ·rename_i fr es hj
    simp only [a9,ae] at he;obtain ⟨rfl,rfl⟩:=he
    split at hk
    ·rename_i kt et ht
     simp only [al] at hk;obtain ⟨hk,hz⟩:=hk
     split at hk
     ·rename_i hks
      exact (Jb hs ho hx hy ht hks hz hxe hye hj).wp
     ·cases hk
    ·cases hk
   ·cases he
  ·cases he
 case h_38 x y z t x' y' z' ho=>
  simp only [al] at hok;obtain ⟨⟨⟨⟨hx,hy⟩,hz⟩,hdst⟩,hk⟩:=hok;simp only [aq] at he
  split at he
  ·rename_i j k n hxe hye hze
   split at he
   ·rename_i es hj
    simp only [a9,ae] at he;obtain ⟨rfl,rfl⟩:=he
    split at hk
    ·rename_i kt et ht
     split at hk
     ·rename_i hks
      exact (J2 hs ho (by simpa using hdst) hx hy hz ht hks hxe hye hze hj).wp
     ·cases hk
    ·cases hk
   ·cases he
  ·cases he
 case h_39=>simp [aq] at he
 case h_40=>cases hok
end
end Pe

namespace Pe
open Go
variable {P:Program} {num:Nat→Nat}
structure Runs (np:Nat) (C C':Cx) (φ φ':Loc) (h h':Heap):Prop where
 st:Step C C' φ φ' h h'
 kp:Keeps C C' φ φ' h h' (np≤·)
theorem Runs.trans {np:Nat} {C C' C'':Cx} {φ φ' φ'':Loc} {h h' h'':Heap} (a:Runs np C C' φ φ' h h') (b:Runs np C' C'' φ' φ'' h' h''):Runs np C C'' φ φ'' h h'':=
 ⟨a.st.trans b.st,a.kp.trans b.kp⟩
theorem Runs.refl (np:Nat) {C:Cx} {φ:Loc} {h:Heap} (hr:HR C φ h) (hb:∀b,C.I b→b<C.w.heap.size):Runs np C C φ φ h h:=⟨.refl hr hb,Keeps.refl _ _ _ _⟩
theorem Xa {O:ah} {np:Nat} {e:Env} {h h':Heap} {p:Op} {v:V} {j:Nat} (he:aq O np e h p=some (v,h')) (hk:p.kill e v=some j):np≤j:=by
 cases p <;> simp only [Op.kill,reduceCtorEq] at hk
 rename_i sh i bytes x y
 simp only [aq] at he;obtain ⟨w,hw,he⟩:=a8.1 he;obtain ⟨d,hd,he⟩:=a8.1 he
 split at he
 ·rename_i sh1 ys j' off n cap hxe
  rw [hxe] at hk
  split at he
  ·split at he
   ·split at he
    ·rename_i hfr
     simp only [a9,ae] at he;obtain ⟨rfl,rfl⟩:=he;simp at hk;omega
    ·split at he
     ·obtain ⟨h2,hpb,e⟩:=ab.1 he
      simp only [ae] at e;obtain ⟨rfl,rfl⟩:=e;simp at hk;omega
     ·cases he
   ·cases he
  ·cases he
 ·rename_i hxe
  rw [hxe] at hk;cases hk
 ·cases he
theorem xc (p:Nat→Bool):∀(e:Env) (n:Nat),Env.get (e.filter fun q=>p q.1) n=if p n then e.get n else none
 | [],n=>by simp [Env.get]
 | (m,v)::e,n=>by
  have ih:=xc p e n
  by_cases hm:p m=true
  ·rw [List.filter_cons_of_pos (by simpa using hm)]
   simp only [Env.get]
   by_cases hmn:m=n
   ·subst hmn; simp [hm]
   ·rw [if_neg hmn,if_neg hmn]; exact ih
  ·rw [List.filter_cons_of_neg (by simpa using hm),ih]
   simp only [Env.get]
   by_cases hmn:m=n
   ·subst hmn; simp [hm]
   ·rw [if_neg hmn]
theorem I9 {e:Env} {k:Option Nat} {n:Nat} {v:V} (h:(e.kill k).get n=some v):e.get n=some v∧∀j,k=some j→j ∉ v.refs:=by
 cases k with
 | none=>exact ⟨h,by simp⟩
 | some j=>
  simp only [Env.kill] at h;rw [xc (e.clear j) e n] at h
  split at h
  ·rename_i hp
   unfold Env.clear at hp;rw [h] at hp;refine ⟨h,fun j' hj=>?_⟩
   simp only [a9] at hj;subst hj;intro hm;simp at hp;exact hp j hm rfl
  ·cases h
def E1 (P:Program) (num:Nat→Nat) (ops:Array Oper) (N:Nat) (i:Ins) (o:Oper):Bool:=
 decide (i.dst=o.dst)&&(match o.dst with | some d=>decide (d<N) | none=>true)&&Qg P num i.op o &&
 (match i.guard,o.guard with
  | none,none=>true
  | some (n,b),some (g,b')=>b == b'&&decide ((ops[g]?).bind (·.dst)=some n)
  | _,_=>false)
theorem Gt {a:Act} {d n:Nat} {v:Value} (hd:d<a.tmps.size):(a.put (some d) v).tmps[n]? = if n=d then some v else a.tmps[n]?:=by
 simp only [Act.put,gr]
 by_cases h:d=n
 ·subst h; simp [hd]
 ·rw [if_neg h,if_neg (ig h)]
theorem pe (a:Act) (d:Option Nat) (v:Value):(a.put d v).tmps.size=a.tmps.size:=by
 cases d <;> simp [Act.put]
theorem Ew {O:ah} {np:Nat} {s s':St} {i:Ins} (h:nr O np s i=some s'):jq O np s i=some s':=by
 unfold nr at h
 split at h
 ·exact h
 ·cases h
theorem zo {O:ah} {C:Cx} {φ:Loc} {s s':St} {a:Act} {ops:Array Oper} {N np:Nat} {i:Ins} {o:Oper} {j:Nat} {K:Act→World→Prop} {Q:Exit→Act→World→Prop}
 (hO:jp P C.num O) (hs:SR C φ s a.tmps) (hN:N≤a.tmps.size) (hok:E1 P C.num ops N i o=true) (hj:ops[j]? = some o) (he:jq O np s i=some s')
 (hK:∀C' φ' u,Runs np C C' φ φ' s.h s'.h→SR C' φ' s' (a.put o.dst u).tmps→K (a.put o.dst u) C'.w):wpOp P ops Q j K a C.w:=by
 unfold E1 at hok;simp only [al,decide_eq_true_eq] at hok;obtain ⟨⟨⟨hdst,hdN⟩,hop⟩,hguard⟩:=hok
 have hdN':∀d,o.dst=some d→d<a.tmps.size:=by
  intro d hd;have h1:=hdN;simp [hd] at h1;exact jv h1 hN
 -- the guard
 have hwant:∀t,i.on s.e=some t→Region.wanted o (yielded ops a.tmps)=t:=by
  intro t ht;unfold Ins.on at ht;unfold Region.wanted;cases hg:i.guard with
  | none=>
   rw [hg] at hguard ht;cases hg':o.guard with
   | none=>simpa using ht
   | some x=>rw [hg'] at hguard; cases hguard
  | some q=>
   obtain ⟨n,b⟩:=q;rw [hg] at hguard ht;cases hg':o.guard with
   | none=>rw [hg'] at hguard; cases hguard
   | some x=>
    obtain ⟨g,b'⟩:=x;rw [hg'] at hguard;simp only [al,beq_iff_eq,decide_eq_true_eq] at hguard;obtain ⟨rfl,hgn⟩:=hguard;simp only at ht ⊢
    split at ht
    ·rename_i t' hn
     obtain ⟨u,hu,hx⟩:=hs.env n _ hn;have hub:=Gm hx;subst hub
     have hy:yielded ops a.tmps g=some t':=by
      unfold yielded;rw [hgn];simp [hu]
     rw [hy];simp only [a9] at ht;rw [←ht];cases t' <;> cases b <;> rfl
    ·rename_i hn
     obtain ⟨u,hu,hx⟩:=hs.env n _ hn;simp only [RX,RXs] at hx;obtain ⟨us,rfl,-⟩:=hx
     have hy:yielded ops a.tmps g=none:=by
      unfold yielded;rw [hgn];simp [hu]
     rw [hy];simp only [a9] at ht;rw [←ht];rfl
    ·cases ht
 unfold jq at he;unfold wpOp;simp only [hj]
 split at he
 ·rename_i hg
  rw [hwant true hg,if_pos rfl]
  ·obtain ⟨⟨v,h'⟩,hev,rfl⟩:=ab.1 he
   left;refine Sq hO hs hop hev K Q fun C' φ' u st hx k=>hK C' φ' u ⟨st,k.mono fun i hi=>Xa hev hi⟩ ⟨st.hr,st.bd,fun n w hn=>?_⟩
   simp only at hn
   have old:∀w,((s.e.kill (i.op.kill s.e v)).get n=some w)→∃u0,a.tmps[n]? = some u0∧RX C' φ' h' w u0:=by
    intro w hw;obtain ⟨g1,g2⟩:=I9 hw;obtain ⟨u0,h1,h2⟩:=hs.env n w g1;exact ⟨u0,h1,k w u0 (fun j hj hk=>g2 j hk hj) h2⟩
   cases hd:o.dst with
   | none=>
    rw [hdst,hd] at hn;simp only [Env.putO] at hn;exact old w hn
   | some d=>
    rw [hdst,hd] at hn;simp only [Env.putO,Env.get] at hn;rw [Gt (hdN' d hd)]
    by_cases hdn:d=n
    ·subst hdn
     simp only [if_true,a9] at hn;subst hn;refine ⟨u,if_pos rfl,?_⟩;rcases hx with hx | hx
     ·rw [hd] at hx; cases hx
     ·exact hx
    ·rw [if_neg hdn] at hn
     rw [if_neg (ig hdn)];exact old w hn
 ·rename_i hg
  rw [hwant false hg,if_neg (by simp)]
  obtain rfl:=av he;refine hK C φ undef (.refl np hs.hr hs.bd) ⟨hs.hr,hs.bd,fun n w hn=>?_⟩
  cases hd:o.dst with
  | none=>
   rw [hdst,hd] at hn;exact hs.env n w hn
  | some d=>
   rw [hdst,hd] at hn;simp only [Env.putO,Env.get] at hn;rw [Gt (hdN' d hd)]
   by_cases hdn:d=n
   ·subst hdn
    simp only [if_true,a9] at hn;subst hn;exact ⟨undef,if_pos rfl,by simp [RX,RXs,undef]⟩
   ·rw [if_neg hdn] at hn
    rw [if_neg (ig hdn)];exact hs.env n w hn
 ·cases he
theorem C0 {e:Env}:∀{ks:List Nat} {n:Nat} {v:V},(e.keep ks).get n=some v→e.get n=some v
 | [],n,v,h=>by simp [Env.keep,Env.get] at h
 | k::ks,n,v,h=>by
  simp only [Env.keep] at h
  split at h
  ·rename_i u hu
   simp only [Env.get] at h
   by_cases hk:k=n
   ·subst hk
    simp only [if_true,a9] at h;subst h; exact hu
   ·rw [if_neg hk] at h; exact C0 h
  ·exact C0 h
theorem we (e:Env) (np:Nat):∀(j:Nat) (h:Heap) (i:Nat),(pa e np j h)[i]? = (h[i]?).map fun b=>if j+i<np∨e.refd (j+i) then b else .hole
 | j,[],i=>by simp [pa]
 | j,b::bs,i=>by
  simp only [pa];cases i with
  | zero=>simp
  | succ i=>
   simp only [nj];rw [we e np (j+1) bs i];rw [show j+1+i=j+(i+1) by omega]
theorem Ug {e:Env} {n i:Nat} {v:V} (h:e.get n=some v) (hi:i∈v.refs):e.refd i=true:=by
 induction e with
 | nil=>simp [Env.get] at h
 | cons q e ih=>
  obtain ⟨m,u⟩:=q;simp only [Env.get] at h;simp only [Env.refd,ke,Bool.or_eq_true] at ih ⊢
  by_cases hm:m=n
  ·rw [if_pos hm,a9] at h
   subst h;left
   simpa using hi
  ·rw [if_neg hm] at h
   exact .inr (ih h)
theorem Cr {C:Cx} {φ:Loc} {s:St} {tmps:Array Value} (np:Nat) (hs:SR C φ s tmps) (ks:List Nat) :
 Runs np C C φ φ s.h (pa (s.e.keep ks) np 0 s.h)∧SR C φ ⟨s.e.keep ks,pa (s.e.keep ks) np 0 s.h⟩ tmps:=by
 obtain ⟨st,k⟩:=P9 (h':=pa (s.e.keep ks) np 0 s.h) hs.hr hs.bd (fun i B hB=>by
  rw [we] at hB;obtain ⟨b,hb,e⟩:=ab.1 hB
  split at e
  ·subst e; exact .inr hb
  ·exact .inl e.symm) (fun i B hB=>by
  rw [we,hB];refine ⟨_,rfl,?_⟩
  split
  ·exact .inr rfl
  ·exact .inl rfl)
 have hold:∀v u,RX C φ s.h v u→(∀i∈v.refs,i<np∨(s.e.keep ks).refd i=true)→RX C φ (pa (s.e.keep ks) np 0 s.h) v u:=by
  intro v u g hi;refine k v u (fun i hiv hh=>?_) g
  obtain ⟨B,hB,hn⟩:=RX.refs v u g i hiv;have hh:(pa (s.e.keep ks) np 0 s.h)[i]? = some Blk.hole:=hh;rw [we,hB,bw,bf,if_pos (hi i hiv)] at hh;exact hn (av hh)
 refine ⟨⟨st,fun v u hv g=>hold v u g fun i hi=>.inl (by have:=hv i hi; omega)⟩,⟨st.hr,st.bd,fun n v hn=>?_⟩⟩
 obtain ⟨u,h1,h2⟩:=hs.env n v (C0 hn);exact ⟨u,h1,hold v u h2 fun i hi=>.inr (Ug hn hi)⟩
def uh (P:Program) (num:Nat→Nat) (ops:Array Oper) (N:Nat):List Ins→List Oper→Bool
 | [],[]=>true
 | i::is,o::os=>E1 P num ops N i o&&uh P num ops N is os
 | _,_=>false
theorem qk {num:Nat→Nat} {ops:Array Oper} {N:Nat}:∀{is:List Ins} {os:List Oper},uh P num ops N is os=true→is.length=os.length∧∀(k:Nat) i o,is[k]? = some i→os[k]? = some o→E1 P num ops N i o=true
 | [],[],_=>by simp
 | i::is,o::os,h=>by
  simp only [uh,al] at h;obtain ⟨h1,h2⟩:=qk h.2;refine ⟨by simp [h1],fun k i' o' hi ho=>?_⟩
  cases k with
  | zero=>
   simp only [dw,a9] at hi ho;subst hi; subst ho; exact h.1
  | succ k=>exact h2 k i' o' (by simpa using hi) (by simpa using ho)
 | [],_::_,h=>by simp [uh] at h
 | _::_,[],h=>by simp [uh] at h
theorem E8 {O:ah} {ops:Array Oper} {N np:Nat} {Q:Exit→Act→World→Prop} {is:List Ins} (hok:uh P num ops N is ops.toList=true) (hO:jp P num O) :
 ∀(m k:Nat),k+m=is.length→∀(C:Cx) (φ:Loc) (s s':St) (a:Act),C.num=num→SR C φ s a.tmps→N≤a.tmps.size→em O np (is.drop k) s=some s' →
 (∀C' φ' a',C'.num=num→Runs np C C' φ φ' s.h s'.h→SR C' φ' s' a'.tmps→a'.tmps.size=a.tmps.size→a'.defers=a.defers→Q .normal a' C'.w)→wpOps P ops Q (List.range' k m) a C.w
 | 0,k,hk,C,φ,s,s',a,hC,hs,hN,he,hQ=>by
  rw [List.drop_eq_nil_of_le (by omega)] at he
  simp only [em,a9] at he;subst he;simp only [List.range'_zero,wpOps];exact hQ C φ a hC (.refl np hs.hr hs.bd) hs rfl rfl
 | m+1,k,hk,C,φ,s,s',a,hC,hs,hN,he,hQ=>by
  obtain ⟨hl,hget⟩:=qk hok;have hkl:k<is.length:=by omega
  have hi:is[k]? = some is[k]:=ao hkl;have hko:k<ops.toList.length:=by omega
  have ho:ops.toList[k]? = some ops.toList[k]:=ao hko;rw [bv hkl] at he;simp only [em] at he;obtain ⟨s1,h1,he⟩:=a8.1 he;rw [List.range'_succ,wpOps_cons];have ho':ops[k]? = some ops.toList[k]:=by simp
  refine zo (hC▸hO) hs hN (hC▸hget k _ _ hi ho) ho' (Ew h1) fun C' φ' u rn hs'=>?_
  have hC':C'.num=num:=rn.st.le.num.trans hC;refine E8 hok hO m (k+1) (by omega) C' φ' s1 s' _ hC' hs' (by rw [pe]; exact hN) he fun C2 φ2 a2 h2 rn2 hs2 e2 d2=>?_
  refine hQ C2 φ2 a2 h2 (rn.trans rn2) hs2 (by rw [e2,pe]) ?_
  rw [d2];cases ops.toList[k].dst <;> rfl
end Pe

namespace Pe
open Go
def Le (ns:List Nat) (e e':Env):Prop:=∀n∈ns,∀v,e.get n=some v→e'.get n=some v
theorem Le.sub {ns ms:List Nat} {e e':Env} (h:Le ns e e') (hs:∀n∈ms,n∈ns):Le ms e e':=fun n hn v hv=>h n (hs n hn) v hv
theorem c9 {e e':Env} {x:Arg} (h:Le x.temps e e') {v:V} (hv:e.arg x=some v):e'.arg x=some v:=by
 cases x with
 | t n=>exact h n (by simp [Arg.temps]) v hv
 | c d=>exact hv
 | f f=>exact hv
theorem ve {e e':Env}:∀{xs:List Arg},Le (s9 xs) e e'→∀{vs:List V},e.args xs=some vs→e'.args xs=some vs
 | [],_,vs,hv=>hv
 | x::xs,h,vs,hv=>by
  simp only [Env.args] at hv ⊢;obtain ⟨v,h1,hv⟩:=a8.1 hv;obtain ⟨r,h2,rfl⟩:=ab.1 hv;rw [c9 (h.sub fun n hn=>by simp [s9,hn]) h1,ac,ve (h.sub fun n hn=>by simp [s9,hn]) h2,bw]
theorem u5 {e e':Env} {x:Arg} (h:Le x.temps e e') {k:Nat} (hv:(e.arg x).bind V.nat? = some k):(e'.arg x).bind V.nat? = some k:=by
 obtain ⟨v,h1,h2⟩:=a8.1 hv;rw [c9 h h1,ac,h2]
theorem ka {e e':Env} {x:Option Arg} (h:Le (ub x) e e') {m k:Nat} (hv:cq e x m=some k):cq e' x m=some k:=by
 cases x with
 | none=>exact hv
 | some a=>exact u5 h hv
theorem xk {e e':Env} {h:Heap}:∀{ps:List (Nat×Arg)},Le (qx ps) e e'→∀{xs:List (Nat×D)},gn e h ps=some xs→gn e' h ps=some xs∧d5 e' ps=d5 e ps
 | [],_,xs,hv=>⟨hv,rfl⟩
 | (i,a)::r,hl,xs,hv=>by
  simp only [gn] at hv ⊢;obtain ⟨v,h1,hv⟩:=a8.1 hv;obtain ⟨x,h2,hv⟩:=a8.1 hv
  split at hv
  ·cases hv
  ·rename_i hx
   obtain ⟨ys,h3,rfl⟩:=ab.1 hv;have h1':=c9 (hl.sub fun n hn=>by simp [qx,hn]) h1
   obtain ⟨g1,g2⟩:=xk (hl.sub fun n hn=>by simp [qx,hn]) h3
   refine ⟨?_,by simp only [d5,h1',h1,g2]⟩
   rw [h1',ac,h2,ac,if_neg hx,g1,bw]
theorem Vv {O:ah} {np:Nat} {e e':Env} {h:Heap} {p:Op} {r:V×Heap} (hl:Le p.temps e e') (he:aq O np e h p=some r):aq O np e' h p=some r∧p.kill e' r.1=p.kill e r.1:=by
 cases p with
 | mv x=>
  simp only [aq] at he ⊢;obtain ⟨v,hv,e1⟩:=ab.1 he;rw [c9 hl hv]; exact ⟨e1▸rfl,rfl⟩
 | chk x=>
  simp only [aq] at he ⊢
  split at he
  ·rename_i hx; rw [c9 hl hx]; exact ⟨he,rfl⟩
  ·rename_i hx; rw [c9 hl hx]; exact ⟨he,rfl⟩
  ·cases he
 | pick c a b=>
  simp only [aq] at he ⊢
  split at he
  ·rename_i t hc
   obtain ⟨v,hv,e1⟩:=ab.1 he;rw [c9 (hl.sub fun n hn=>by simp [Op.temps,hn]) hc]
   simp only;have:e'.arg (if t then a else b)=some v:=c9 (hl.sub fun n hn=>by cases t <;> simp_all [Op.temps]) hv
   rw [this]; exact ⟨e1▸rfl,rfl⟩
  ·cases he
 | nilOwn i s=>exact ⟨he,rfl⟩
 | box fz i x=>
  simp only [aq] at he ⊢;obtain ⟨v,hv,he⟩:=a8.1 he;rw [c9 hl hv]; exact ⟨he,rfl⟩
 | build fz z ps=>
  simp only [aq] at he ⊢;obtain ⟨v,hv,he⟩:=a8.1 he;obtain ⟨g1,g2⟩:=xk hl hv;rw [g1,g2]; exact ⟨he,rfl⟩
 | buildSl fz i s z n ps=>
  simp only [aq] at he ⊢;obtain ⟨v,hv,he⟩:=a8.1 he;obtain ⟨g1,g2⟩:=xk hl hv;rw [g1,g2]; exact ⟨he,rfl⟩
 | mkSl i s z bytes x y=>
  simp only [aq] at he ⊢
  split at he
  ·rename_i n m hn hm
   rw [u5 (hl.sub fun n hn=>by simp [Op.temps,hn]) hn,u5 (hl.sub fun n hn=>by simp [Op.temps,hn]) hm]
   exact ⟨he,rfl⟩
  ·cases he
 | load s x=>
  simp only [aq] at he ⊢
  split at he
  ·rename_i hx; rw [c9 hl hx]; exact ⟨he,rfl⟩
  ·rename_i hx; rw [c9 hl hx]; exact ⟨he,rfl⟩
  ·cases he
 | store fz s x y=>
  simp only [aq] at he ⊢;obtain ⟨v,hv,he⟩:=a8.1 he;obtain ⟨d,hd,he⟩:=a8.1 he;obtain ⟨h1,hf,he⟩:=a8.1 he;rw [c9 (hl.sub fun n hn=>by simp [Op.temps,hn]) hv,ac,hd,ac,hf,ac]
  split at he
  ·rename_i hx; rw [c9 (hl.sub fun n hn=>by simp [Op.temps,hn]) hx]; exact ⟨he,rfl⟩
  ·cases he
 | bin o x y=>
  simp only [aq] at he ⊢
  split at he
  ·rename_i hx hy
   rw [c9 (hl.sub fun n hn=>by simp [Op.temps,hn]) hx,c9 (hl.sub fun n hn=>by simp [Op.temps,hn]) hy]
   exact ⟨he,rfl⟩
  ·cases he
 | eqv neg q x y=>
  simp only [aq] at he ⊢
  split at he
  ·rename_i hx hy
   rw [c9 (hl.sub fun n hn=>by simp [Op.temps,hn]) hx,c9 (hl.sub fun n hn=>by simp [Op.temps,hn]) hy]
   exact ⟨he,rfl⟩
  ·cases he
 | un o x=>
  simp only [aq] at he ⊢
  split at he
  ·rename_i hx; rw [c9 hl hx]; exact ⟨he,rfl⟩
  ·cases he
 | conv k x=>
  simp only [aq] at he ⊢
  split at he
  ·rename_i hx; rw [c9 hl hx]; exact ⟨he,rfl⟩
  ·cases he
 | cut ar s x lo hi mx=>
  have l1:Le x.temps e e':=hl.sub fun n hn=>by simp [Op.temps,hn]
  have l2:Le (ub lo) e e':=hl.sub fun n hn=>by simp [Op.temps,hn]
  have l3:Le (ub hi) e e':=hl.sub fun n hn=>by simp [Op.temps,hn]
  have l4:Le (ub mx) e e':=hl.sub fun n hn=>by simp [Op.temps,hn]
  cases ar with
  | none=>
   simp only [aq] at he ⊢
   split at he
   ·rename_i hx
    obtain ⟨m,hm,he⟩:=a8.1 he;obtain ⟨b,hb,he⟩:=a8.1 he;obtain ⟨a,ha,he⟩:=a8.1 he;simp only [c9 l1 hx,ka l4 hm,ka l3 hb,ka l2 ha,ac];exact ⟨he,rfl⟩
   ·rename_i hx
    obtain ⟨q,hq,he⟩:=a8.1 he;obtain ⟨m,hm,he⟩:=a8.1 he;obtain ⟨b,hb,he⟩:=a8.1 he;obtain ⟨a,ha,he⟩:=a8.1 he;simp only [c9 l1 hx,hq,ka l4 hm,ka l3 hb,ka l2 ha,ac];exact ⟨he,rfl⟩
   ·cases he
  | some n=>
   simp only [aq] at he ⊢
   split at he
   ·rename_i hx
    obtain ⟨q,hq,he⟩:=a8.1 he;rw [c9 l1 hx];simp only [hq,ac]
    split at he
    ·obtain ⟨m,hm,he⟩:=a8.1 he
     obtain ⟨b,hb,he⟩:=a8.1 he;obtain ⟨a,ha,he⟩:=a8.1 he;simp only [ka l4 hm,ka l3 hb,ka l2 ha,ac];exact ⟨he,rfl⟩
    ·cases he
   ·rename_i hx
    obtain ⟨m,hm,he⟩:=a8.1 he;obtain ⟨b,hb,he⟩:=a8.1 he;obtain ⟨a,ha,he⟩:=a8.1 he;simp only [c9 l1 hx,ka l4 hm,ka l3 hb,ka l2 ha,ac];exact ⟨he,rfl⟩
   ·cases he
 | fldA ss x j=>
  simp only [aq] at he ⊢
  split at he
  ·rename_i hx; rw [c9 hl hx]; exact ⟨he,rfl⟩
  ·rename_i hx; rw [c9 hl hx]; exact ⟨he,rfl⟩
  ·cases he
 | fld ss x j=>
  simp only [aq] at he ⊢
  split at he
  ·rename_i hx; rw [c9 hl hx]; exact ⟨he,rfl⟩
  ·cases he
 | idxA ar s x j=>
  have l1:Le x.temps e e':=hl.sub fun n hn=>by simp [Op.temps,hn]
  have l2:Le j.temps e e':=hl.sub fun n hn=>by simp [Op.temps,hn]
  cases ar <;> simp only [aq] at he ⊢ <;> split at he <;> first
   | cases he; done
   | (rename_i hx hj; rw [c9 l1 hx,u5 l2 hj]; exact ⟨he,rfl⟩)
 | idx ar s x j=>
  have l1:Le x.temps e e':=hl.sub fun n hn=>by simp [Op.temps,hn]
  have l2:Le j.temps e e':=hl.sub fun n hn=>by simp [Op.temps,hn]
  cases ar <;> simp only [aq] at he ⊢ <;> split at he <;> first
   | cases he; done
   | (rename_i hx hj; rw [c9 l1 hx,u5 l2 hj]; exact ⟨he,rfl⟩)
 | ext x j=>
  simp only [aq] at he ⊢
  split at he
  ·rename_i hx; rw [c9 hl hx]; exact ⟨he,rfl⟩
  ·rename_i hx; rw [c9 hl hx]; exact ⟨he,rfl⟩
  ·cases he
 | mkFn f xs ys=>
  simp only [aq] at he ⊢;obtain ⟨us,hu,he⟩:=a8.1 he;obtain ⟨vs,hv,he⟩:=ab.1 he;rw [ve (hl.sub fun n hn=>by simp [Op.temps,hn]) hu,ve (hl.sub fun n hn=>by simp [Op.temps,hn]) hv]
  exact ⟨congrArg some he,rfl⟩
 | len str x=>
  cases str <;> simp only [aq] at he ⊢ <;> split at he <;> first
   | cases he; done
   | (rename_i hx; rw [c9 hl hx]; exact ⟨he,rfl⟩)
 | maxI x y=>
  simp only [aq] at he ⊢
  split at he
  ·rename_i hx hy
   rw [c9 (hl.sub fun n hn=>by simp [Op.temps,hn]) hx,c9 (hl.sub fun n hn=>by simp [Op.temps,hn]) hy]
   exact ⟨he,rfl⟩
  ·cases he
 | minI x y=>
  simp only [aq] at he ⊢
  split at he
  ·rename_i hx hy
   rw [c9 (hl.sub fun n hn=>by simp [Op.temps,hn]) hx,c9 (hl.sub fun n hn=>by simp [Op.temps,hn]) hy]
   exact ⟨he,rfl⟩
  ·cases he
 | append s i bytes x y=>
  simp only [aq] at he ⊢;obtain ⟨w,hw,he⟩:=a8.1 he;obtain ⟨d,hd,he⟩:=a8.1 he;rw [c9 (hl.sub fun n hn=>by simp [Op.temps,hn]) hw,ac,hd,ac]
  split at he
  ·rename_i hx
   have hx':=c9 (hl.sub fun n hn=>by simp [Op.temps,hn]) hx
   simp only [hx',Op.kill,hx];exact ⟨he,trivial⟩
  ·rename_i hx
   have hx':=c9 (hl.sub fun n hn=>by simp [Op.temps,hn]) hx
   simp only [hx',Op.kill,hx];exact ⟨he,trivial⟩
  ·cases he
 | copy s x y=>
  simp only [aq] at he ⊢;obtain ⟨w,hw,he⟩:=a8.1 he;obtain ⟨d,hd,he⟩:=a8.1 he;rw [c9 (hl.sub fun n hn=>by simp [Op.temps,hn]) hw,ac,hd,ac]
  split at he
  ·rename_i hx
   have hx':=c9 (hl.sub fun n hn=>by simp [Op.temps,hn]) hx
   simp only [hx'];exact ⟨he,rfl⟩
  ·cases he
 | call m news f xs=>
  simp only [aq] at he ⊢;obtain ⟨w,hw,he⟩:=a8.1 he;obtain ⟨g,hg,he⟩:=a8.1 he;obtain ⟨vs,hv,he⟩:=a8.1 he;rw [c9 (hl.sub fun n hn=>by simp [Op.temps,hn]) hw,ac,hg,ac,ve (hl.sub fun n hn=>by simp [Op.temps,hn]) hv,ac]
  exact ⟨he,rfl⟩
 | nilq neg x=>
  simp only [aq] at he ⊢
  split at he
  ·rename_i hx; rw [c9 hl hx]; exact ⟨he,rfl⟩
  ·rename_i hx; rw [c9 hl hx]; exact ⟨he,rfl⟩
  ·cases he
 | toStr x=>
  simp only [aq] at he ⊢;obtain ⟨w,hw,he⟩:=a8.1 he;rw [c9 hl hw,ac];exact ⟨he,rfl⟩
 | clear s z x=>
  simp only [aq] at he ⊢
  split at he
  ·rename_i hx; rw [c9 hl hx]; exact ⟨he,rfl⟩
  ·cases he
 | mkMap i=>exact ⟨he,rfl⟩
 | mapGet x k=>
  simp only [aq] at he ⊢
  split at he
  ·rename_i hx hk
   rw [c9 (hl.sub fun n hn=>by simp [Op.temps,hn]) hx,c9 (hl.sub fun n hn=>by simp [Op.temps,hn]) hk]
   exact ⟨he,rfl⟩
  ·cases he
 | mapSet x k v=>
  simp only [aq] at he ⊢
  split at he
  ·rename_i hx hk hv
   rw [c9 (hl.sub fun n hn=>by simp [Op.temps,hn]) hx,c9 (hl.sub fun n hn=>by simp [Op.temps,hn]) hk,c9 (hl.sub fun n hn=>by simp [Op.temps,hn]) hv]
   exact ⟨he,rfl⟩
  ·cases he
 | fail=>simp [aq] at he
mutual
theorem kb {h h2:Heap}:∀(v:V),(∀i∈v.refs,h2[i]? = h[i]?)→toD h2 v=toD h v
 | .d x,_=>by simp [toD]
 | .sl i p off len cap,g=>by simp only [toD]; rw [g i (by simp [V.refs])]
 | .ptr i p,g=>by simp only [toD]; rw [g i (by simp [V.refs])]
 | .mp _,_=>by simp [toD]
 | .fn f first caps,g=>by
  simp only [toD];rw [mz first fun i hi=>g i (by simp [V.refs,hi]),mz caps fun i hi=>g i (by simp [V.refs,hi])]
 | .tup vs,g=>by
  simp only [toD];rw [mz vs fun i hi=>g i (by simpa [V.refs] using hi)]
theorem mz {h h2:Heap}:∀(vs:List V),(∀i∈V.refss vs,h2[i]? = h[i]?)→ll h2 vs=ll h vs
 | [],_=>by simp [ll]
 | v::vs,g=>by
  simp only [ll];rw [kb v fun i hi=>g i (by simp [V.refss,hi]),mz vs fun i hi=>g i (by simp [V.refss,hi])]
end
inductive Cls where
 | z | r | a | s | w | x
 deriving DecidableEq
def Op.cls:Op→Cls
 | .mv _ | .chk _ | .pick _ _ _ | .bin _ _ _ | .eqv _ _ _ _ | .un _ _ | .conv _ _ | .fld _ _ _ | .idx _ _ _ _ | .ext _ _ | .mkFn _ _ _ | .len _ _ | .maxI _ _ | .minI _ _ | .nilq _ _ | .fail=>.z
 | .load _ _ | .cut _ _ _ _ _ _ | .fldA _ _ _ | .idxA _ _ _ _ | .build false _ _ | .call .flat _ _ _ | .call .plain _ _ _=>.r
 | .nilOwn _ _ | .box false _ _ | .buildSl false _ _ _ _ _ | .mkSl _ _ _ _ _ _=>.a
 | .store false _ _ _=>.s
 | .toStr _ | .clear _ _ _ | .mkMap _ | .mapGet _ _ | .mapSet _ _ _=>.x
 | .store true _ _ _ | .box true _ _ | .build true _ _ | .buildSl true _ _ _ _ _ | .copy _ _ _ | .call .data _ _ _ | .call .heap _ _ _ | .append _ _ _ _ _=>.w
theorem qt {e:Env} {ns:List Nat} {n i:Nat} {v:V} (hn:n∈ns) (hv:e.get n=some v) (hi:i∈v.refs):i∈e.refsOf ns:=by
 induction ns with
 | nil=>simp at hn
 | cons m ns ih=>
  simp only [Env.refsOf,ba];rcases da.1 hn with rfl | hn
  ·left; simp [hv,hi]
  ·exact .inr (ih hn)
theorem xw {e:Env} {ns:List Nat} {i:Nat} (h:i∈e.refsOf ns):∃n∈ns,∃v,e.get n=some v∧i∈v.refs:=by
 induction ns with
 | nil=>simp [Env.refsOf] at h
 | cons m ns ih=>
  simp only [Env.refsOf,ba] at h;rcases h with h | h
  ·split at h
   ·rename_i v hv; exact ⟨m,by simp,v,hv,h⟩
   ·simp at h
  ·obtain ⟨n,hn,q⟩:=ih h
   exact ⟨n,by simp [hn],q⟩
theorem Jr {e:Env} {ns ms:List Nat} (hs:∀n∈ns,n∈ms) {i:Nat} (h:i∈e.refsOf ns):i∈e.refsOf ms:=by
 obtain ⟨n,hn,v,hv,hi⟩:=xw h;exact qt (hs n hn) hv hi
theorem eo {e:Env} {x:Arg} {v:V} (hv:e.arg x=some v) {i:Nat} (hi:i∈v.refs):i∈e.refsOf x.temps:=by
 cases x with
 | t n=>exact qt (by simp [Arg.temps]) hv hi
 | c d=>simp only [Env.arg,a9] at hv; subst hv; simp [V.refs] at hi
 | f f=>simp only [Env.arg,a9] at hv; subst hv; simp [V.refs] at hi
theorem cx (e:Env) (ns ms:List Nat):e.refsOf (ns++ms)=e.refsOf ns++e.refsOf ms:=by
 induction ns with
 | nil=>rfl
 | cons n ns ih=>simp [Env.refsOf,ih,f9]
theorem qf {e:Env}:∀{xs:List Arg} {vs:List V},e.args xs=some vs→∀{i:Nat},i∈V.refss vs→i∈e.refsOf (s9 xs)
 | [],vs,hv,i,hi=>by simp only [Env.args,a9] at hv; subst hv; simp [V.refss] at hi
 | x::xs,vs,hv,i,hi=>by
  simp only [Env.args] at hv;obtain ⟨v,h1,hv⟩:=a8.1 hv;obtain ⟨r,h2,rfl⟩:=ab.1 hv;simp only [V.refss,ba] at hi;simp only [s9,cx,ba];rcases hi with hi | hi
  ·exact .inl (eo h1 hi)
  ·exact .inr (qf h2 hi)
theorem pb {e:Env} {h h2:Heap}:∀{ps:List (Nat×Arg)},(∀i∈e.refsOf (qx ps),h2[i]? = h[i]?)→gn e h2 ps=gn e h ps
 | [],_=>rfl
 | (i,a)::r,g=>by
  simp only [gn];cases ha:e.arg a with
  | none=>rfl
  | some v=>
   simp only [ac];rw [kb v fun j hj=>g j (by simp only [qx,cx,ba]; exact .inl (eo ha hj)),pb fun j hj=>g j (by simp only [qx,cx,ba]; exact .inr hj)]
end Pe

namespace Pe
open Go
theorem Er:∀{vs:List V} {j:Nat} {v:V},vs[j]? = some v→∀i∈v.refs,i∈V.refss vs
 | [],j,v,h,i,_=>by simp at h
 | w::vs,0,v,h,i,hi=>by simp at h; subst h; simp [V.refss,hi]
 | w::vs,j+1,v,h,i,hi=>by
  simp only [V.refss,ba];exact .inr (Er (by simpa using h) i hi)
theorem a38 {O:ah} {np:Nat} {e:Env} {h h':Heap} {p:Op} {v:V} (hc:p.cls=.z) (he:aq O np e h p=some (v,h')) :
 h'=h∧(∀h2,aq O np e h2 p=some (v,h2))∧∀i∈v.refs,i∈e.refsOf p.temps:=by
 cases p with
 | mv x=>
  simp only [aq] at he ⊢;obtain ⟨u,hu,e1⟩:=ab.1 he;simp only [ae] at e1;obtain ⟨rfl,rfl⟩:=e1;exact ⟨rfl,fun h2=>by rw [hu]; rfl,fun i hi=>eo hu hi⟩
 | chk x=>
  simp only [aq] at he ⊢
  split at he
  ·rename_i hx
   simp only [a9,ae] at he;obtain ⟨rfl,rfl⟩:=he;exact ⟨rfl,fun h2=>rfl,fun i hi=>eo hx hi⟩
  ·rename_i hx
   simp only [a9,ae] at he;obtain ⟨rfl,rfl⟩:=he;exact ⟨rfl,fun h2=>rfl,fun i hi=>eo hx hi⟩
  ·cases he
 | pick c a b=>
  simp only [aq] at he ⊢
  split at he
  ·rename_i t hc
   obtain ⟨u,hu,e1⟩:=ab.1 he;simp only [ae] at e1;obtain ⟨rfl,rfl⟩:=e1;refine ⟨rfl,fun h2=>by rw [hu]; rfl,fun i hi=>?_⟩
   simp only [Op.temps,cx,ba];cases t
   ·exact .inr (eo hu hi)
   ·exact .inl (.inr (eo hu hi))
  ·cases he
 | bin o x y=>
  simp only [aq] at he ⊢
  split at he
  ·rename_i hx hy
   obtain ⟨u,hu,e1⟩:=ab.1 he;simp only [ae] at e1;obtain ⟨rfl,rfl⟩:=e1;exact ⟨rfl,fun h2=>by rw [hu]; rfl,fun i hi=>by simp [V.refs] at hi⟩
  ·cases he
 | eqv neg q x y=>
  simp only [aq] at he ⊢
  split at he
  ·rename_i hx hy
   obtain ⟨u,hu,e1⟩:=ab.1 he;simp only [ae] at e1;obtain ⟨rfl,rfl⟩:=e1;exact ⟨rfl,fun h2=>by rw [hu]; rfl,fun i hi=>by simp [V.refs] at hi⟩
  ·cases he
 | un o x=>
  simp only [aq] at he ⊢
  split at he
  ·obtain ⟨u,hu,e1⟩:=ab.1 he
   simp only [ae] at e1;obtain ⟨rfl,rfl⟩:=e1;exact ⟨rfl,fun h2=>by rw [hu]; rfl,fun i hi=>by simp [V.refs] at hi⟩
  ·cases he
 | conv k x=>
  simp only [aq] at he ⊢
  split at he
  ·simp only [a9,ae] at he
   obtain ⟨rfl,rfl⟩:=he;exact ⟨rfl,fun h2=>rfl,fun i hi=>by simp [V.refs] at hi⟩
  ·cases he
 | fld ss x j=>
  simp only [aq] at he ⊢
  split at he
  ·split at he
   ·rename_i hs
    obtain ⟨u,hu,e1⟩:=ab.1 he;simp only [ae] at e1;obtain ⟨rfl,rfl⟩:=e1;exact ⟨rfl,fun h2=>by rw [if_pos hs,hu]; rfl,fun i hi=>by simp [V.refs] at hi⟩
   ·cases he
  ·cases he
 | idx ar s x j=>
  cases ar with
  | none=>
   simp only [aq] at he ⊢
   split at he
   ·obtain ⟨u,hu,e1⟩:=ab.1 he
    simp only [ae] at e1;obtain ⟨rfl,rfl⟩:=e1;exact ⟨rfl,fun h2=>by rw [hu]; rfl,fun i hi=>by simp [V.refs] at hi⟩
   ·cases he
  | some n=>
   simp only [aq] at he ⊢
   split at he
   ·split at he
    ·rename_i hs
     obtain ⟨u,hu,e1⟩:=ab.1 he;simp only [ae] at e1;obtain ⟨rfl,rfl⟩:=e1;exact ⟨rfl,fun h2=>by rw [if_pos hs,hu]; rfl,fun i hi=>by simp [V.refs] at hi⟩
    ·cases he
   ·cases he
 | ext x j=>
  simp only [aq] at he ⊢
  split at he
  ·obtain ⟨u,hu,e1⟩:=ab.1 he
   simp only [ae] at e1;obtain ⟨rfl,rfl⟩:=e1;exact ⟨rfl,fun h2=>by rw [hu]; rfl,fun i hi=>by simp [V.refs] at hi⟩
  ·rename_i vs hx
   obtain ⟨u,hu,e1⟩:=ab.1 he;simp only [ae] at e1;obtain ⟨rfl,rfl⟩:=e1;exact ⟨rfl,fun h2=>by rw [hu]; rfl,fun i hi=>eo hx (by simpa [V.refs] using Er hu i hi)⟩
  ·cases he
 | mkFn f xs ys=>
  simp only [aq] at he ⊢;obtain ⟨us,hu,he⟩:=a8.1 he;obtain ⟨vs,hv,e1⟩:=ab.1 he;simp only [ae] at e1;obtain ⟨rfl,rfl⟩:=e1;refine ⟨rfl,fun h2=>by rw [hu,ac,hv]; rfl,fun i hi=>?_⟩
  simp only [V.refs,ba] at hi;simp only [Op.temps,cx,ba];exact hi.imp (qf hu) (qf hv)
 | len str x=>
  cases str <;> simp only [aq] at he ⊢ <;> split at he <;> first
   | cases he; done
   | (simp only [a9,ae] at he
      obtain ⟨rfl,rfl⟩:=he;exact ⟨rfl,fun h2=>rfl,fun i hi=>by simp [V.refs] at hi⟩)
 | maxI x y=>
  simp only [aq] at he ⊢
  split at he
  ·split at he
   ·rename_i hk
    simp only [a9,ae] at he;obtain ⟨rfl,rfl⟩:=he;exact ⟨rfl,fun h2=>by rw [if_pos hk],fun i hi=>by simp [V.refs] at hi⟩
   ·cases he
  ·cases he
 | minI x y=>
  simp only [aq] at he ⊢
  split at he
  ·split at he
   ·rename_i hk
    simp only [a9,ae] at he;obtain ⟨rfl,rfl⟩:=he;exact ⟨rfl,fun h2=>by rw [if_pos hk],fun i hi=>by simp [V.refs] at hi⟩
   ·cases he
  ·cases he
 | nilq neg x=>
  simp only [aq] at he ⊢
  split at he
  ·simp only [a9,ae] at he
   obtain ⟨rfl,rfl⟩:=he;exact ⟨rfl,fun h2=>rfl,fun i hi=>by simp [V.refs] at hi⟩
  ·simp only [a9,ae] at he
   obtain ⟨rfl,rfl⟩:=he;exact ⟨rfl,fun h2=>rfl,fun i hi=>by simp [V.refs] at hi⟩
  ·cases he
 | fail=>simp [aq] at he
 | call m news f xs=>cases m <;> simp [Op.cls] at hc
 | box fz i x=>cases fz <;> simp [Op.cls] at hc
 | build fz z ps=>cases fz <;> simp [Op.cls] at hc
 | buildSl fz i s z n ps=>cases fz <;> simp [Op.cls] at hc
 | store fz s x y=>cases fz <;> simp [Op.cls] at hc
 | nilOwn _ _=>simp [Op.cls] at hc
 | mkSl _ _ _ _ _ _=>simp [Op.cls] at hc
 | load _ _=>simp [Op.cls] at hc
 | cut _ _ _ _ _ _=>simp [Op.cls] at hc
 | fldA _ _ _=>simp [Op.cls] at hc
 | idxA _ _ _ _=>simp [Op.cls] at hc
 | append _ _ _ _ _=>simp [Op.cls] at hc
 | copy _ _ _=>simp [Op.cls] at hc
 | toStr _=>simp [Op.cls] at hc
 | clear _ _ _=>simp [Op.cls] at hc
 | mkMap _=>simp [Op.cls] at hc
 | mapGet _ _=>simp [Op.cls] at hc
 | mapSet _ _ _=>simp [Op.cls] at hc
theorem na {e:Env} {f:Arg} {fv:V} {g:Nat×List V×List V} (hf:e.arg f=some fv) (hg:callee fv=some g):∀i,i∈V.refss g.2.1∨i∈V.refss g.2.2→i∈e.refsOf f.temps:=by
 have hd:∀ds:List D,V.refss (ds.map .d)=[]:=by
  intro ds
  induction ds with
  | nil=>simp [V.refss]
  | cons d ds ih=>simp [V.refss,V.refs,ih]
 intro i hi;unfold callee at hg
 split at hg
 ·simp only [a9] at hg
  subst hg;simp only [hd] at hi;simp at hi
 ·simp only [a9] at hg
  subst hg;exact eo hf (by simpa [V.refs] using hi)
 ·cases hg
theorem t7 (vs ws:List V):V.refss (vs++ws)=V.refss vs++V.refss ws:=by
 induction vs with
 | nil=>simp [V.refss]
 | cons v vs ih=>simp [V.refss,ih,f9]
theorem a4h {O:ah} {np:Nat} {e:Env} {h h':Heap} {p:Op} {v:V} (hc:p.cls=.r) (he:aq O np e h p=some (v,h')) :
 h'=h∧(∀h2,(∀i∈e.refsOf p.temps,h2[i]? = h[i]?)→aq O np e h2 p=some (v,h2))∧∀i∈v.refs,i∈e.refsOf p.temps:=by
 have one:∀{x:Arg} {u:V} {i:Nat} {ts:List Nat},e.arg x=some u→i∈u.refs→(∀n∈x.temps,n∈ts)→i∈e.refsOf ts:=fun hu hi hs=>Jr hs (eo hu hi)
 cases p with
 | load s x=>
  simp only [aq] at he ⊢
  split at he
  ·split at he
   ·rename_i hs
    simp only [a9,ae] at he;obtain ⟨rfl,rfl⟩:=he;exact ⟨rfl,fun h2 _=>by rw [if_pos hs],fun i hi=>by simp [V.refs] at hi⟩
   ·cases he
  ·rename_i i p hx
   obtain ⟨d,hd,he⟩:=a8.1 he
   split at he
   ·rename_i hs
    simp only [a9,ae] at he;obtain ⟨rfl,rfl⟩:=he;exact ⟨rfl,fun h2 g=>by rw [g i (one hx (by simp [V.refs]) (fun n hn=>hn)),hd,ac,if_pos hs],fun i hi=>by simp [V.refs] at hi⟩
   ·cases he
  ·cases he
 | cut ar s x lo hi mx=>
  have hxs:∀n∈x.temps,n∈(Op.cut ar s x lo hi mx).temps:=fun n hn=>by simp [Op.temps,hn]
  cases ar with
  | none=>
   simp only [aq] at he ⊢
   split at he
   ·obtain ⟨m,hm,he⟩:=a8.1 he
    obtain ⟨b,hb,he⟩:=a8.1 he;obtain ⟨a,ha,he⟩:=a8.1 he
    split at he
    ·rename_i hcc
     simp only [a9,ae] at he;obtain ⟨rfl,rfl⟩:=he;exact ⟨rfl,fun h2 _=>by simp only [hm,hb,ha,ac]; rw [if_pos hcc],fun i hi=>by simp [V.refs] at hi⟩
    ·cases he
   ·rename_i i p off n cap hx
    obtain ⟨q,hq,he⟩:=a8.1 he;obtain ⟨m,hm,he⟩:=a8.1 he;obtain ⟨b,hb,he⟩:=a8.1 he;obtain ⟨a,ha,he⟩:=a8.1 he
    split at he
    ·rename_i hcc
     simp only [a9,ae] at he;obtain ⟨rfl,rfl⟩:=he;have hii:=one hx (i:=i) (by simp [V.refs]) hxs
     exact ⟨rfl,fun h2 g=>by simp only [g i hii,hq,hm,hb,ha,ac]; rw [if_pos hcc],fun j hj=>by simp only [V.refs,bu] at hj; subst hj; exact hii⟩
    ·cases he
   ·cases he
  | some n=>
   simp only [aq] at he ⊢
   split at he
   ·rename_i i p hx
    obtain ⟨q,hq,he⟩:=a8.1 he
    split at he
    ·obtain ⟨m,hm,he⟩:=a8.1 he
     obtain ⟨b,hb,he⟩:=a8.1 he;obtain ⟨a,ha,he⟩:=a8.1 he
     split at he
     ·rename_i hcc
      simp only [a9,ae] at he;obtain ⟨rfl,rfl⟩:=he;have hii:=one hx (i:=i) (by simp [V.refs]) hxs
      exact ⟨rfl,fun h2 g=>by simp only [g i hii,hq,hm,hb,ha,ac]; rw [if_pos hcc],fun j hj=>by simp only [V.refs,bu] at hj; subst hj; exact hii⟩
     ·cases he
    ·cases he
   ·obtain ⟨m,hm,he⟩:=a8.1 he
    obtain ⟨b,hb,he⟩:=a8.1 he;obtain ⟨a,ha,he⟩:=a8.1 he
    split at he
    ·rename_i hcc
     simp only [a9,ae] at he;obtain ⟨rfl,rfl⟩:=he;exact ⟨rfl,fun h2 _=>by simp only [hm,hb,ha,ac]; rw [if_pos hcc],fun i hi=>by simp [V.refs] at hi⟩
    ·cases he
   ·cases he
 | fldA ss x j=>
  simp only [aq] at he ⊢
  split at he
  ·rename_i i p hx
   obtain ⟨d,hd,he⟩:=a8.1 he;have hii:=one hx (i:=i) (ts:=x.temps) (by simp [V.refs]) (fun n hn=>hn)
   split at he
   ·rename_i hs
    simp only [a9,ae] at he;obtain ⟨rfl,rfl⟩:=he;exact ⟨rfl,fun h2 g=>by rw [g i hii,hd,ac,if_pos hs],fun j hj=>by simp only [V.refs,bu] at hj; subst hj; exact hii⟩
   ·cases he
  ·split at he
   ·rename_i hs
    obtain ⟨u,hu,e1⟩:=ab.1 he;simp only [ae] at e1;obtain ⟨rfl,rfl⟩:=e1;exact ⟨rfl,fun h2 _=>by rw [if_pos hs,hu]; rfl,fun i hi=>by simp [V.refs] at hi⟩
   ·cases he
  ·cases he
 | idxA ar s x j=>
  have hxs:∀n∈x.temps,n∈(Op.idxA ar s x j).temps:=fun n hn=>by simp [Op.temps,hn]
  cases ar with
  | none=>
   simp only [aq] at he ⊢
   split at he
   ·rename_i i p off n cap k hx hk
    obtain ⟨d,hd,he⟩:=a8.1 he;have hii:=one hx (i:=i) (by simp [V.refs]) hxs
    split at he
    ·rename_i hs
     simp only [a9,ae] at he;obtain ⟨rfl,rfl⟩:=he;exact ⟨rfl,fun h2 g=>by rw [g i hii,hd,ac,if_pos hs],fun j hj=>by simp only [V.refs,bu] at hj; subst hj; exact hii⟩
    ·cases he
   ·split at he
    ·rename_i hs
     obtain ⟨u,hu,e1⟩:=ab.1 he;simp only [ae] at e1;obtain ⟨rfl,rfl⟩:=e1;exact ⟨rfl,fun h2 _=>by rw [if_pos hs,hu]; rfl,fun i hi=>by simp [V.refs] at hi⟩
    ·cases he
   ·cases he
  | some n=>
   simp only [aq] at he ⊢
   split at he
   ·rename_i i p k hx hk
    obtain ⟨d,hd,he⟩:=a8.1 he;have hii:=one hx (i:=i) (by simp [V.refs]) hxs
    split at he
    ·split at he
     ·rename_i hs
      simp only [a9,ae] at he;obtain ⟨rfl,rfl⟩:=he;exact ⟨rfl,fun h2 g=>by rw [g i hii,hd]; simp only [ac]; rw [if_pos hs],fun j hj=>by simp only [V.refs,bu] at hj; subst hj; exact hii⟩
     ·cases he
    ·cases he
   ·split at he
    ·rename_i hs
     obtain ⟨u,hu,e1⟩:=ab.1 he;simp only [ae] at e1;obtain ⟨rfl,rfl⟩:=e1;exact ⟨rfl,fun h2 _=>by rw [if_pos hs,hu]; rfl,fun i hi=>by simp [V.refs] at hi⟩
    ·cases he
   ·cases he
 | build fz z ps=>
  cases fz with
  | true=>simp [Op.cls] at hc
  | false=>
   simp only [aq] at he ⊢;obtain ⟨xs,hx,he⟩:=a8.1 he;obtain ⟨h1,hf,he'⟩:=a8.1 he;clear he
   have hh:∀h2,freezeIf false h2 (d5 e ps)=some h2:=by
    intro h2;unfold freezeIf at hf ⊢;simp only [au,if_false] at hf ⊢
    split at hf
    ·rename_i hr; rw [if_pos hr]
    ·cases hf
   have heq:h1=h:=av (hf.symm.trans (hh h));rw [heq] at he'
   split at he'
   ·obtain ⟨cs,hcs,e1⟩:=ab.1 he'
    simp only [ae] at e1;obtain ⟨rfl,rfl⟩:=e1;exact ⟨rfl,fun h2 g=>by rw [pb g,hx,ac,hh h2,ac]; simp only [hcs,bw],fun i hi=>by simp [V.refs] at hi⟩
   ·obtain ⟨cs,hcs,e1⟩:=ab.1 he'
    simp only [ae] at e1;obtain ⟨rfl,rfl⟩:=e1;exact ⟨rfl,fun h2 g=>by rw [pb g,hx,ac,hh h2,ac]; simp only [hcs,bw],fun i hi=>by simp [V.refs] at hi⟩
   ·cases he'
 | call m news f xs=>
  simp only [aq] at he ⊢;obtain ⟨fv,hf,he⟩:=a8.1 he;obtain ⟨g,hg,he⟩:=a8.1 he;obtain ⟨vs,hv,he⟩:=a8.1 he
  have hr:∀i∈V.refss (g.2.1++vs++g.2.2),i∈e.refsOf (Op.call m news f xs).temps:=by
   intro i hi;simp only [t7,ba] at hi;simp only [Op.temps,cx,ba];rcases hi with (hi | hi) | hi
   ·exact .inl (na hf hg i (.inl hi))
   ·exact .inr (qf hv hi)
   ·exact .inl (na hf hg i (.inr hi))
  cases m with
  | flat=>
   simp only [fu] at he ⊢;obtain ⟨ds,hds,he⟩:=a8.1 he;obtain ⟨ans,hans,he⟩:=a8.1 he;obtain ⟨x,hx,he⟩:=a8.1 he
   split at he
   ·rename_i hfl
    simp only [a9,ae] at he;obtain ⟨rfl,rfl⟩:=he;refine ⟨rfl,fun h2 gg=>?_,fun i hi=>by simp [V.refs] at hi⟩
    simp only [hf,hg,hv,ac];rw [mz _ fun i hi=>gg i (hr i hi),hds,ac,hans,ac,hx,ac,if_pos hfl]
   ·cases he
  | plain=>
   simp only [fu] at he ⊢;obtain ⟨ds,hds,he⟩:=a8.1 he;obtain ⟨ans,hans,he⟩:=a8.1 he;obtain ⟨x,hx,he⟩:=a8.1 he
   split at he
   ·rename_i hfl
    simp only [a9,ae] at he;obtain ⟨rfl,rfl⟩:=he;refine ⟨rfl,fun h2 gg=>?_,fun i hi=>by simp [V.refs] at hi⟩
    simp only [hf,hg,hv,ac];rw [mz _ fun i hi=>gg i (hr i hi),hds,ac,hans,ac,hx,ac,if_pos hfl]
   ·cases he
  | data=>simp [Op.cls] at hc
  | heap=>simp [Op.cls] at hc
 | box fz i x=>cases fz <;> simp [Op.cls] at hc
 | buildSl fz i s z n ps=>cases fz <;> simp [Op.cls] at hc
 | store fz s x y=>cases fz <;> simp [Op.cls] at hc
 | _=>simp [Op.cls] at hc
end Pe

namespace Pe
open Go
theorem nm {h h1:Heap} {is:List Nat} (hf:freezeIf false h is=some h1):is=[]∧h1=h:=by
 unfold freezeIf at hf;simp only [au,if_false] at hf
 split at hf
 ·rename_i he
  exact ⟨by simpa using he,(av hf).symm⟩
 ·cases hf
theorem sc {e:Env}:∀{ps:List (Nat×Arg)} {i:Nat},i∈d5 e ps→i∈e.refsOf (qx ps)
 | [],i,h=>by simp [d5] at h
 | (k,a)::r,i,h=>by
  simp only [d5,ba] at h;simp only [qx,cx,ba];refine h.imp (fun h=>?_) sc
  split at h
  ·rename_i v hv; exact eo hv h
  ·simp at h
theorem Ds {e:Env} {h h2:Heap}:∀{ps:List (Nat×Arg)},d5 e ps=[]→gn e h2 ps=gn e h ps
 | [],_=>rfl
 | (k,a)::r,g=>by
  simp only [d5,List.append_eq_nil_iff] at g;simp only [gn];cases ha:e.arg a with
  | none=>rfl
  | some v=>
   have hv:v.refs=[]:=by simpa [ha] using g.1
   simp only [ac];rw [kb v (h:=h) (h2:=h2) (by simp [hv]),Ds g.2]
theorem a3p {O:ah} {np:Nat} {e:Env} {h h':Heap} {p:Op} {v:V} (hc:p.cls=.a) (he:aq O np e h p=some (v,h')) :
 ∃j b,p.news=[j]∧h[np+j]? = some .hole∧b≠Blk.hole∧h'=h.set (np+j) b∧(∀h2:Heap,h2[np+j]? = some .hole→aq O np e h2 p=some (v,h2.set (np+j) b))∧∀i∈v.refs,i=np+j:=by
 have put:∀{h2:Heap} {i:Nat} {b:Blk},h2[i]? = some .hole→f6 h2 i b=some (h2.set i b):=fun hh=>by simp [f6,hh]
 cases p with
 | nilOwn i s=>
  simp only [aq] at he ⊢;obtain ⟨h1,hp,e1⟩:=ab.1 he;simp only [ae] at e1;obtain ⟨rfl,rfl⟩:=e1;obtain ⟨hi,rfl⟩:=cm hp;exact ⟨i,_,rfl,hi,by simp,rfl,fun h2 hh=>by rw [put hh]; rfl,fun j hj=>by simpa [V.refs] using hj⟩
 | mkSl i s z bytes x y=>
  simp only [aq] at he ⊢
  split at he
  ·split at he
   ·rename_i hcc
    obtain ⟨h1,hp,e1⟩:=ab.1 he;simp only [ae] at e1;obtain ⟨rfl,rfl⟩:=e1;obtain ⟨hi,rfl⟩:=cm hp;exact ⟨i,_,rfl,hi,by simp,rfl,fun h2 hh=>by rw [if_pos hcc,put hh]; rfl,fun j hj=>by simpa [V.refs] using hj⟩
   ·cases he
  ·cases he
 | box fz i x=>
  cases fz with
  | true=>simp [Op.cls] at hc
  | false=>
   simp only [aq] at he ⊢;obtain ⟨u,hu,he1⟩:=a8.1 he;obtain ⟨d,hd,he2⟩:=a8.1 he1;obtain ⟨h1,hf,he3⟩:=a8.1 he2;obtain ⟨h2,hp,e1⟩:=ab.1 he3;clear he he1 he2 he3;simp only [ae] at e1;obtain ⟨rfl,rfl⟩:=e1;obtain ⟨hr,rfl⟩:=nm hf;obtain ⟨hi,rfl⟩:=cm hp;refine ⟨i,_,rfl,hi,by simp,rfl,fun h2 hh=>?_,fun j hj=>by simpa [V.refs] using hj⟩
   have:v5 h2 u=some d:=by
    unfold v5 at hd ⊢;rw [kb u (h:=h1) (h2:=h2) (by simp [hr])]; exact hd
   rw [hu,ac,this,ac,hr];simp only [freezeIf,au,if_false,List.isEmpty_nil,if_true,ac];rw [put hh]; rfl
 | buildSl fz i s z n ps=>
  cases fz with
  | true=>simp [Op.cls] at hc
  | false=>
   simp only [aq] at he ⊢;obtain ⟨xs,hx,he1⟩:=a8.1 he;obtain ⟨cs,hcs,he2⟩:=a8.1 he1;obtain ⟨h1,hf,he3⟩:=a8.1 he2;obtain ⟨h2,hp,e1⟩:=ab.1 he3;clear he he1 he2 he3;simp only [ae] at e1;obtain ⟨rfl,rfl⟩:=e1;obtain ⟨hr,rfl⟩:=nm hf;obtain ⟨hi,rfl⟩:=cm hp;refine ⟨i,_,rfl,hi,by simp,rfl,fun h2 hh=>?_,fun j hj=>by simpa [V.refs] using hj⟩
   rw [Ds (h:=h1) (h2:=h2) hr,hx,ac,hcs,ac,hr];simp only [freezeIf,au,if_false,List.isEmpty_nil,if_true,ac];rw [put hh]; rfl
 | build fz _ _=>cases fz <;> simp [Op.cls] at hc
 | store fz _ _ _=>cases fz <;> simp [Op.cls] at hc
 | call m _ _ _=>cases m <;> simp [Op.cls] at hc
 | _=>simp [Op.cls] at hc
theorem Blk.set_nh {b b':Blk} {p:List Nat} {d:D} (h:b.set p d=some b'):b'≠.hole:=by
 cases b with
 | hole=>simp [Blk.set] at h
 | box fr x=>
  cases fr
  ·simp only [Blk.set] at h
   obtain ⟨y,_,rfl⟩:=ab.1 h;simp
  ·simp [Blk.set] at h
 | sl fr s cs=>
  cases fr
  ·cases p with
   | nil=>simp [Blk.set] at h
   | cons i p=>
    simp only [Blk.set] at h;obtain ⟨c,_,h⟩:=a8.1 h;obtain ⟨y,_,rfl⟩:=ab.1 h;simp
  ·cases p <;> simp [Blk.set] at h
 | mp fr es=>cases p <;> simp [Blk.set] at h
theorem a3j {O:ah} {np:Nat} {e:Env} {h h':Heap} {p:Op} {v:V} (hc:p.cls=.s) (he:aq O np e h p=some (v,h')) :
 ∃i b,i∈e.refsOf p.temps∧b≠Blk.hole∧h'=h.set i b∧(∀h2:Heap,(∀i∈e.refsOf p.temps,h2[i]? = h[i]?)→aq O np e h2 p=some (v,h2.set i b))∧v.refs=[]:=by
 cases p with
 | store fz s x y=>
  cases fz with
  | true=>simp [Op.cls] at hc
  | false=>
   simp only [aq] at he ⊢;obtain ⟨u,hu,he1⟩:=a8.1 he;obtain ⟨d,hd,he2⟩:=a8.1 he1;obtain ⟨h1,hf,he3⟩:=a8.1 he2;clear he he1 he2;obtain ⟨hr,rfl⟩:=nm hf
   split at he3
   ·rename_i i p hp
    split at he3
    ·rename_i hs
     obtain ⟨b,hb,he4⟩:=a8.1 he3;obtain ⟨b',hb',e1⟩:=ab.1 he4;simp only [ae] at e1;obtain ⟨rfl,rfl⟩:=e1
     have hi:i∈e.refsOf (Op.store false s x y).temps:=by
      simp only [Op.temps,cx,ba];exact .inl (eo hp (by simp [V.refs]))
     refine ⟨i,b',hi,Blk.set_nh hb',rfl,fun h2 g=>?_,by simp [V.refs,V.refss]⟩
     have hd2:v5 h2 u=some d:=by
      unfold v5 at hd ⊢;rw [kb u (h:=h1) (h2:=h2) (by simp [hr])]; exact hd
     rw [hu,ac,hd2,ac,hr];simp only [freezeIf,au,if_false,List.isEmpty_nil,if_true,ac];rw [g i hi,hb,ac,hb',if_pos hs]; rfl
    ·cases he3
   ·cases he3
 | box fz _ _=>cases fz <;> simp [Op.cls] at hc
 | buildSl fz _ _ _ _ _=>cases fz <;> simp [Op.cls] at hc
 | build fz _ _=>cases fz <;> simp [Op.cls] at hc
 | call m _ _ _=>cases m <;> simp [Op.cls] at hc
 | _=>simp [Op.cls] at hc
def Laid (h:Heap) (i:Nat):Prop:=∃B:Blk,h[i]? = some B∧B≠.hole
theorem Laid.set {h:Heap} {i j:Nat} {b:Blk} (hb:b≠.hole) (g:Laid h i):Laid (h.set j b) i:=by
 obtain ⟨B,hB,hn⟩:=g
 by_cases hij:j=i
 ·subst hij
  exact ⟨b,b9 (ap.1 hB).1,hb⟩
 ·exact ⟨B,by rw [bn hij]; exact hB,hn⟩
theorem Laid.new {h:Heap} {j:Nat} {b:Blk} (hb:b≠.hole) (g:h[j]? = some .hole):Laid (h.set j b) j:=
 ⟨b,b9 (ap.1 g).1,hb⟩
theorem Laid.freeze {h:Heap} {i:Nat} (is:List Nat) (g:Laid h i):Laid (freeze h is) i:=by
 obtain ⟨B,hB,hn⟩:=g
 by_cases hi:i∈is
 ·exact ⟨B.freeze,by rw [gk,if_pos hi,hB]; rfl,fun e=>hn (Blk.freeze_hole e)⟩
 ·exact ⟨B,by rw [gk,if_neg hi]; exact hB,hn⟩
theorem Laid.freezeIf {h h1:Heap} {i:Nat} {fz:Bool} {is:List Nat} (hf:freezeIf fz h is=some h1) (g:Laid h i):Laid h1 i:=by
 cases fz with
 | false=>rw [(nm hf).2]; exact g
 | true=>
  simp only [Pe.freezeIf,if_true,a9] at hf;subst hf; exact g.freeze is
theorem D9:∀{is:List Nat} {bs:Heap} {h h':Heap},h.put is bs=some h'→∀i,Laid h i→Laid h' i
 | [],[],h,h',e,i,g=>by simp only [Heap.put,a9] at e; subst e; exact g
 | j::is,b::bs,h,h',e,i,g=>by
  simp only [Heap.put] at e
  split at e
  ·cases e
  ·rename_i hb
   exact D9 e i (g.set (by rintro rfl; simp [Blk.isHole] at hb))
 | [],_::_,_,_,e,_,_=>by simp [Heap.put] at e
 | _::_,[],_,_,e,_,_=>by simp [Heap.put] at e
theorem tc:∀{is:List Nat} {bs:Heap} {h h':Heap},putNews h is bs=some h'→bs.length≤is.length∧(∀i,Laid h i→Laid h' i)∧∀(k j:Nat),k<bs.length→is[k]? = some j→Laid h' j
 | is,[],h,h',e=>by
  cases is <;> simp only [putNews,a9] at e <;> subst e <;> exact ⟨by simp,fun _ g=>g,fun k j hk=>by simp at hk⟩
 | j::is,b::bs,h,h',e=>by
  simp only [putNews] at e
  split at e
  ·cases e
  ·rename_i hb
   have hb':b≠.hole:=by rintro rfl; simp [Blk.isHole] at hb
   obtain ⟨h0,e0,e⟩:=a8.1 e;obtain ⟨hj,rfl⟩:=cm e0;obtain ⟨h1,h2,h3⟩:=tc e;refine ⟨by simpa using h1,fun i g=>h2 i (g.set hb'),fun k i hk hi=>?_⟩
   cases k with
   | zero=>
    simp only [dw,a9] at hi;subst hi;exact h2 _ (.new hb' hj)
   | succ k=>exact h3 k i (by simpa using hk) (by simpa using hi)
 | [],_::_,_,_,e=>by simp [putNews] at e
theorem Ey {O:ah} {np:Nat} {e:Env} {h h':Heap} {p:Op} {v:V} (hc:p.cls=.x∨p.cls=.w) (he:aq O np e h p=some (v,h')) (hp:∀i∈e.refsOf p.temps,Laid h i) :
 (∀i,Laid h i→Laid h' i)∧∀i∈v.refs,Laid h' i:=by
 cases p with
 | box fz i x=>
  simp only [aq] at he;obtain ⟨u,hu,he⟩:=a8.1 he;obtain ⟨d,hd,he⟩:=a8.1 he;obtain ⟨h1,hf,he⟩:=a8.1 he;obtain ⟨h2,hpb,e1⟩:=ab.1 he;simp only [ae] at e1;obtain ⟨rfl,rfl⟩:=e1;obtain ⟨hi,rfl⟩:=cm hpb;refine ⟨fun _ g=>(g.freezeIf hf).set (by simp),fun j hj=>?_⟩
  simp only [V.refs,bu] at hj;subst hj;exact .new (by simp) hi
 | build fz z ps=>
  simp only [aq] at he;obtain ⟨xs,hx,he⟩:=a8.1 he;obtain ⟨h1,hf,he⟩:=a8.1 he
  split at he
  ·obtain ⟨cs,hcs,e1⟩:=ab.1 he
   simp only [ae] at e1;obtain ⟨rfl,rfl⟩:=e1;exact ⟨fun _ g=>g.freezeIf hf,fun j hj=>by simp [V.refs] at hj⟩
  ·obtain ⟨cs,hcs,e1⟩:=ab.1 he
   simp only [ae] at e1;obtain ⟨rfl,rfl⟩:=e1;exact ⟨fun _ g=>g.freezeIf hf,fun j hj=>by simp [V.refs] at hj⟩
  ·cases he
 | buildSl fz i s z n ps=>
  simp only [aq] at he;obtain ⟨xs,hx,he⟩:=a8.1 he;obtain ⟨cs,hcs,he⟩:=a8.1 he;obtain ⟨h1,hf,he⟩:=a8.1 he;obtain ⟨h2,hpb,e1⟩:=ab.1 he;simp only [ae] at e1;obtain ⟨rfl,rfl⟩:=e1;obtain ⟨hi,rfl⟩:=cm hpb;refine ⟨fun _ g=>(g.freezeIf hf).set (by simp),fun j hj=>?_⟩
  simp only [V.refs,bu] at hj;subst hj;exact .new (by simp) hi
 | store fz s x y=>
  simp only [aq] at he;obtain ⟨u,hu,he⟩:=a8.1 he;obtain ⟨d,hd,he⟩:=a8.1 he;obtain ⟨h1,hf,he⟩:=a8.1 he
  split at he
  ·split at he
   ·obtain ⟨b,hb,he⟩:=a8.1 he
    obtain ⟨b',hb',e1⟩:=ab.1 he;simp only [ae] at e1;obtain ⟨rfl,rfl⟩:=e1;exact ⟨fun _ g=>(g.freezeIf hf).set (Blk.set_nh hb'),fun j hj=>by simp [V.refs,V.refss] at hj⟩
   ·cases he
  ·cases he
 | append s i bytes x y=>
  simp only [aq] at he;obtain ⟨w,hw,he⟩:=a8.1 he;obtain ⟨d,hd,he⟩:=a8.1 he
  split at he
  ·rename_i sh1 ys j off n cap hxe
   split at he
   ·rename_i fr sh2 cs hB
    split at he
    ·split at he
     ·simp only [a9,ae] at he
      obtain ⟨rfl,rfl⟩:=he;refine ⟨fun _ g=>g.set (by simp),fun k hk=>?_⟩
      simp only [V.refs,bu] at hk;subst hk;exact Laid.set (by simp) ⟨_,hB,by simp⟩
     ·split at he
      ·obtain ⟨h2,hpb,e1⟩:=ab.1 he
       simp only [ae] at e1;obtain ⟨rfl,rfl⟩:=e1;obtain ⟨hi,rfl⟩:=cm hpb;refine ⟨fun _ g=>g.set (by simp),fun k hk=>?_⟩
       simp only [V.refs,bu] at hk;subst hk;exact .new (by simp) hi
      ·cases he
    ·cases he
   ·cases he
  ·split at he
   ·obtain ⟨h2,hpb,e1⟩:=ab.1 he
    simp only [ae] at e1;obtain ⟨rfl,rfl⟩:=e1;obtain ⟨hi,rfl⟩:=cm hpb;refine ⟨fun _ g=>g.set (by simp),fun k hk=>?_⟩
    simp only [V.refs,bu] at hk;subst hk;exact .new (by simp) hi
   ·cases he
  ·cases he
 | copy s x y=>
  simp only [aq] at he;obtain ⟨w,hw,he⟩:=a8.1 he;obtain ⟨d,hd,he⟩:=a8.1 he
  split at he
  ·split at he
   ·split at he
    ·simp only [a9,ae] at he
     obtain ⟨rfl,rfl⟩:=he;exact ⟨fun _ g=>g.set (by simp),fun k hk=>by simp [V.refs] at hk⟩
    ·cases he
   ·cases he
  ·cases he
 | call m news f xs=>
  simp only [aq] at he;obtain ⟨fv,hf,he⟩:=a8.1 he;obtain ⟨g,hg,he⟩:=a8.1 he;obtain ⟨vs,hv,he⟩:=a8.1 he
  have hr:∀i∈V.refss (g.2.1++vs++g.2.2),Laid h i:=by
   intro i hi;apply hp;simp only [t7,ba] at hi;simp only [Op.temps,cx,ba];rcases hi with (hi | hi) | hi
   ·exact .inl (na hf hg i (.inl hi))
   ·exact .inr (qf hv hi)
   ·exact .inl (na hf hg i (.inr hi))
  cases m with
  | flat=>simp [Op.cls] at hc
  | plain=>simp [Op.cls] at hc
  | data=>
   simp only [fu] at he;obtain ⟨ds,hds,he⟩:=a8.1 he;obtain ⟨ans,hans,he⟩:=a8.1 he;obtain ⟨x,hx,he⟩:=a8.1 he;simp only [a9,ae] at he;obtain ⟨rfl,rfl⟩:=he;exact ⟨fun _ g=>g.freeze _,fun k hk=>by simp [V.refs] at hk⟩
  | heap=>
   simp only [k9] at he;obtain ⟨bs,hbs,he⟩:=a8.1 he;obtain ⟨ans,hans,he⟩:=a8.1 he;obtain ⟨h1,hh1,he⟩:=a8.1 he;obtain ⟨h2,hh2,he⟩:=a8.1 he
   split at he
   case isFalse=>cases he
   rename_i hall
   simp only [a9,ae] at he;obtain ⟨rfl,rfl⟩:=he;obtain ⟨n1,n2,n3⟩:=tc hh2;refine ⟨fun i g=>n2 i (D9 hh1 i g),fun i hi=>?_⟩
   rw [V.ren_refs,cb] at hi;obtain ⟨k,hk,rfl⟩:=hi;have hkl:=dq.1 hall k hk;simp only [decide_eq_true_eq] at hkl
   by_cases h0:k<(pn (V.refss (g.2.1++vs++g.2.2))).length
   ·rw [if_pos h0]
    have hm:(pn (V.refss (g.2.1++vs++g.2.2))).getD k 0∈pn (V.refss (g.2.1++vs++g.2.2)):=by
     rw [bt,ao h0]; exact ce h0
    exact n2 _ (D9 hh1 _ (hr _ (ua.1 hm)))
   ·rw [if_neg h0]
    have h2:k-(pn (V.refss (g.2.1++vs++g.2.2))).length<ans.2.2.length:=by omega
    refine n3 _ _ h2 ?_;rw [bt,ao (by omega)]
    rfl
 | toStr x=>
  simp only [aq] at he;obtain ⟨w,hw,he⟩:=a8.1 he;obtain ⟨d,hd,he⟩:=a8.1 he
  split at he
  ·obtain ⟨bs,hb,e1⟩:=ab.1 he
   simp only [ae] at e1;obtain ⟨rfl,rfl⟩:=e1;exact ⟨fun _ g=>g,fun i hi=>by simp [V.refs] at hi⟩
  ·cases he
 | clear s z x=>
  simp only [aq] at he
  split at he
  ·split at he
   ·split at he
    ·simp only [a9,ae] at he
     obtain ⟨rfl,rfl⟩:=he;exact ⟨fun _ g=>g.set (by simp),fun i hi=>by simp [V.refs,V.refss] at hi⟩
    ·cases he
   ·cases he
  ·cases he
 | mkMap i=>
  simp only [aq] at he;obtain ⟨h2,hpb,e1⟩:=ab.1 he;simp only [ae] at e1;obtain ⟨rfl,rfl⟩:=e1;obtain ⟨hi,rfl⟩:=cm hpb;refine ⟨fun _ g=>g.set (by simp),fun j hj=>?_⟩
  simp only [V.refs,bu] at hj;subst hj;exact .new (by simp) hi
 | mapGet x k=>
  simp only [aq] at he
  split at he
  ·split at he
   ·simp only [a9,ae] at he
    obtain ⟨rfl,rfl⟩:=he;exact ⟨fun _ g=>g,fun i hi=>by simp [V.refs] at hi⟩
   ·cases he
  ·cases he
 | mapSet x k y=>
  simp only [aq] at he
  split at he
  ·split at he
   ·simp only [a9,ae] at he
    obtain ⟨rfl,rfl⟩:=he;exact ⟨fun _ g=>g.set (by simp),fun i hi=>by simp [V.refs,V.refss] at hi⟩
   ·cases he
  ·cases he
 | _=>simp [Op.cls] at hc
theorem Vx {O:ah} {np:Nat} {e:Env} {h h':Heap} {p:Op} {v:V} (he:aq O np e h p=some (v,h')) (hp:∀i∈e.refsOf p.temps,Laid h i) :
 (∀i,Laid h i→Laid h' i)∧∀i∈v.refs,Laid h' i:=by
 cases hc:p.cls with
 | z=>
  obtain ⟨rfl,_,h3⟩:=a38 hc he;exact ⟨fun _ g=>g,fun i hi=>hp i (h3 i hi)⟩
 | r=>
  obtain ⟨rfl,_,h3⟩:=a4h hc he;exact ⟨fun _ g=>g,fun i hi=>hp i (h3 i hi)⟩
 | a=>
  obtain ⟨j,b,_,hj,hb,rfl,_,h3⟩:=a3p hc he;exact ⟨fun _ g=>g.set hb,fun i hi=>by rw [h3 i hi]; exact .new hb hj⟩
 | s=>
  obtain ⟨j,b,_,hb,rfl,_,h3⟩:=a3j hc he;exact ⟨fun _ g=>g.set hb,fun i hi=>by rw [h3] at hi; simp at hi⟩
 | w=>exact Ey (.inr hc) he hp
 | x=>exact Ey (.inl hc) he hp
end Pe

namespace Pe
open Go
structure Par (W:List Nat) (h h2 g g2:Heap):Prop where
 on:∀i∈W,g2[i]? = g[i]?
 off1:∀i,i ∉ W→g[i]? = h[i]?
 off2:∀i,i ∉ W→g2[i]? = h2[i]?
 len:g.length=h.length
theorem Par.start {W:List Nat} {h h2:Heap} (a:∀i∈W,h2[i]? = h[i]?):Par W h h2 h h2:=⟨a,fun _ _=>rfl,fun _ _=>rfl,rfl⟩
theorem D7:∀(is:List Nat) (h:Heap),(freeze h is).length=h.length
 | [],_=>rfl
 | i::is,h=>by
  unfold freeze;rw [D7 is,List.length_modify]
theorem Par.freeze {W is:List Nat} {h h2 g g2:Heap} (p:Par W h h2 g g2) (hs:∀i∈is,i∈W):Par W h h2 (Pe.freeze g is) (Pe.freeze g2 is) where
 on i hi:=by rw [gk,gk,p.on i hi]
 off1 i hi:=by rw [gk,if_neg fun k=>hi (hs i k),p.off1 i hi]
 off2 i hi:=by rw [gk,if_neg fun k=>hi (hs i k),p.off2 i hi]
 len:=(D7 is g).trans p.len
theorem Ek {g g2:Heap} {j:Nat} (h:g2[j]? = g[j]?):j<g2.length↔j<g.length:=by
 have h1:=List.getElem?_eq_none_iff (l:=g) (i:=j);have h2:=List.getElem?_eq_none_iff (l:=g2) (i:=j);rw [h] at h2;have h3:=h1.symm.trans h2;omega
theorem Par.set {W:List Nat} {h h2 g g2:Heap} (p:Par W h h2 g g2) {j:Nat} (hj:j∈W) (b:Blk):Par W h h2 (g.set j b) (g2.set j b) where
 on i hi:=by
  by_cases hij:j=i
  ·subst hij
   have hl:=Ek (p.on j hj)
   by_cases hk:j<g.length
   ·rw [b9 hk,b9 (hl.2 hk)]
   ·rw [c5 (by rw [cg]; omega),c5 (by rw [cg]; omega)]
  ·rw [bn hij,bn hij,p.on i hi]
 off1 i hi:=by rw [bn (by rintro rfl; exact hi hj),p.off1 i hi]
 off2 i hi:=by rw [bn (by rintro rfl; exact hi hj),p.off2 i hi]
 len:=by rw [cg,p.len]
theorem pf {g:Heap} {i:Nat} {b:Blk} (hh:g[i]? = some .hole):f6 g i b=some (g.set i b):=by simp [f6,hh]
theorem Par.put {W:List Nat} {h h2:Heap}:∀{is:List Nat} {bs g g2 g1:Heap},Par W h h2 g g2→(∀i∈is,i∈W)→g.put is bs=some g1→∃g3,g2.put is bs=some g3∧Par W h h2 g1 g3
 | [],[],g,g2,g1,p,_,e=>by
  simp only [Heap.put,a9] at e ⊢;subst e;exact ⟨_,rfl,p⟩
 | i::is,b::bs,g,g2,g1,p,hs,e=>by
  simp only [Heap.put] at e ⊢
  split at e
  ·cases e
  ·rename_i hb
   rw [if_neg hb];exact Par.put (p.set (hs i (by simp)) b) (fun j hj=>hs j (by simp [hj])) e
 | [],_::_,_,_,_,_,_,e=>by simp [Heap.put] at e
 | _::_,[],_,_,_,_,_,e=>by simp [Heap.put] at e
theorem Par.putNews {W:List Nat} {h h2:Heap}:∀{is:List Nat} {bs g g2 g1:Heap},Par W h h2 g g2→(∀i∈is.take bs.length,i∈W)→putNews g is bs=some g1→∃g3,putNews g2 is bs=some g3∧Par W h h2 g1 g3
 | is,[],g,g2,g1,p,_,e=>by
  cases is <;> simp only [Pe.putNews,a9] at e ⊢ <;> subst e <;> exact ⟨_,rfl,p⟩
 | i::is,b::bs,g,g2,g1,p,hs,e=>by
  simp only [Pe.putNews] at e ⊢
  split at e
  ·cases e
  ·rename_i hb
   rw [if_neg hb];obtain ⟨g0,e0,e⟩:=a8.1 e;obtain ⟨hj,rfl⟩:=cm e0;have hi:i∈W:=hs i (by simp)
   rw [pf ((p.on i hi).trans hj),ac];exact Par.putNews (p.set hi b) (fun j hj=>hs j (by simp [hj])) e
 | [],_::_,_,_,_,_,_,e=>by simp [Pe.putNews] at e
theorem J7 {g:Heap} {i j:Nat} {b:Blk} (hb:b≠.hole) (h:(g.set i b)[j]? = some .hole):g[j]? = some .hole:=by
 by_cases hij:i=j
 ·subst hij
  have hl:i<g.length:=by
   have:=(ap.1 h).1
   rwa [cg] at this
  rw [b9 hl] at h;exact absurd (av h) hb
 ·rwa [bn hij] at h
theorem J1:∀{is:List Nat} {bs g g1:Heap},g.put is bs=some g1→∀j:Nat,g1[j]? = some Blk.hole→g[j]? = some Blk.hole
 | [],[],g,g1,e,j,h=>by simp only [Heap.put,a9] at e; subst e; exact h
 | i::is,b::bs,g,g1,e,j,h=>by
  simp only [Heap.put] at e
  split at e
  ·cases e
  ·rename_i hb
   exact J7 (by rintro rfl; simp [Blk.isHole] at hb) (J1 e j h)
 | [],_::_,_,_,e,_,_=>by simp [Heap.put] at e
 | _::_,[],_,_,e,_,_=>by simp [Heap.put] at e
theorem yx:∀{is:List Nat} {bs g g1:Heap},putNews g is bs=some g1→∀j∈is.take bs.length,g[j]? = some Blk.hole
 | is,[],_,_,_,j,h=>by simp at h
 | i::is,b::bs,g,g1,e,j,h=>by
  simp only [putNews] at e
  split at e
  ·cases e
  ·rename_i hb
   obtain ⟨g0,e0,e⟩:=a8.1 e;obtain ⟨hi,rfl⟩:=cm e0;rw [cl,ee] at h;rcases da.1 h with rfl | h
   ·exact hi
   ·exact J7 (by rintro rfl; simp [Blk.isHole] at hb) (yx e j h)
 | [],_::_,_,_,e,_,_=>by simp [putNews] at e
theorem A9 {h:Heap} {is:List Nat} {j:Nat} (g:(freeze h is)[j]? = some .hole):h[j]? = some .hole:=by
 rw [gk] at g
 split at g
 ·obtain ⟨B,hB,e⟩:=ab.1 g
  rw [hB,Blk.freeze_hole e]
 ·exact g
theorem D8 {h h2:Heap}:∀{is:List Nat},(∀i∈is,h2[i]? = h[i]?)→h2.pick is=h.pick is
 | [],_=>rfl
 | i::is,a=>by
  simp only [Heap.pick];rw [a i (by simp),D8 fun j hj=>a j (by simp [hj])]
theorem p4 {h h1:Heap} {is:List Nat} (hf:freezeIf true h is=some h1):h1=freeze h is:=by
 simp only [freezeIf,if_true,a9] at hf;exact hf.symm
theorem Dc {h h2:Heap} (u:V) (g:∀i∈u.refs,h2[i]? = h[i]?):v5 h2 u=v5 h u:=by
 unfold v5;rw [kb u g]
theorem a76 {O:ah} {np:Nat} {e:Env} {h h':Heap} {p:Op} {v:V} (hc:p.cls=.w) (he:aq O np e h p=some (v,h')) :
 ∃N:List Nat,(∀i∈N,h[i]? = some .hole∧Laid h' i)∧∀h2:Heap,(∀i∈e.refsOf p.temps++N,h2[i]? = h[i]?)→∃h3,aq O np e h2 p=some (v,h3)∧Par (e.refsOf p.temps++N) h h2 h' h3:=by
 cases p with
 | box fz i x=>
  cases fz with
  | false=>simp [Op.cls] at hc
  | true=>
   simp only [aq] at he ⊢;obtain ⟨u,hu,he1⟩:=a8.1 he;obtain ⟨d,hd,he2⟩:=a8.1 he1;obtain ⟨h1,hf,he3⟩:=a8.1 he2;obtain ⟨g,hp,e1⟩:=ab.1 he3;clear he he1 he2 he3;simp only [ae] at e1;obtain ⟨rfl,rfl⟩:=e1;obtain rfl:=p4 hf;obtain ⟨hi,rfl⟩:=cm hp;refine ⟨[np+i],fun j hj=>?_,fun h2 a=>?_⟩
   ·obtain rfl:=bu.1 hj
    exact ⟨A9 hi,.new (by simp) hi⟩
   ·have hs:∀j∈u.refs,j∈e.refsOf (Op.box true i x).temps++[np+i]:=fun j hj=>bx _ (eo hu hj)
    have hn:np+i∈e.refsOf (Op.box true i x).temps++[np+i]:=by simp
    have p1:=(Par.start a).freeze hs;refine ⟨_,?_,p1.set hn _⟩;rw [hu,ac,Dc u fun j hj=>a j (hs j hj),hd,ac]
    simp only [freezeIf,if_true,ac];rw [pf ((p1.on _ hn).trans hi),bw]
 | build fz z ps=>
  cases fz with
  | false=>simp [Op.cls] at hc
  | true=>
   simp only [aq] at he ⊢;obtain ⟨xs,hx,he1⟩:=a8.1 he;obtain ⟨h1,hf,he2⟩:=a8.1 he1;clear he he1;obtain rfl:=p4 hf;refine ⟨[],by simp,fun h2 a=>?_⟩
   have hs:∀j∈d5 e ps,j∈e.refsOf (Op.build true z ps).temps++[]:=fun j hj=>bx _ (sc hj)
   have p1:=(Par.start a).freeze hs
   have hpc:gn e h2 ps=some xs:=by
    rw [pb fun j hj=>a j (bx _ hj)]; exact hx
   split at he2
   ·obtain ⟨cs,hcs,e1⟩:=ab.1 he2
    simp only [ae] at e1;obtain ⟨rfl,rfl⟩:=e1;refine ⟨_,?_,p1⟩;rw [hpc];simp only [freezeIf,if_true,ac,hcs,bw]
   ·obtain ⟨cs,hcs,e1⟩:=ab.1 he2
    simp only [ae] at e1;obtain ⟨rfl,rfl⟩:=e1;refine ⟨_,?_,p1⟩;rw [hpc];simp only [freezeIf,if_true,ac,hcs,bw]
   ·cases he2
 | buildSl fz i s z n ps=>
  cases fz with
  | false=>simp [Op.cls] at hc
  | true=>
   simp only [aq] at he ⊢;obtain ⟨xs,hx,he1⟩:=a8.1 he;obtain ⟨cs,hcs,he2⟩:=a8.1 he1;obtain ⟨h1,hf,he3⟩:=a8.1 he2;obtain ⟨g,hp,e1⟩:=ab.1 he3;clear he he1 he2 he3;simp only [ae] at e1;obtain ⟨rfl,rfl⟩:=e1;obtain rfl:=p4 hf;obtain ⟨hi,rfl⟩:=cm hp;refine ⟨[np+i],fun j hj=>?_,fun h2 a=>?_⟩
   ·obtain rfl:=bu.1 hj
    exact ⟨A9 hi,.new (by simp) hi⟩
   ·have hs:∀j∈d5 e ps,j∈e.refsOf (Op.buildSl true i s z n ps).temps++[np+i]:=fun j hj=>bx _ (sc hj)
    have hn:np+i∈e.refsOf (Op.buildSl true i s z n ps).temps++[np+i]:=by simp
    have p1:=(Par.start a).freeze hs
    have hpc:gn e h2 ps=some xs:=by
     rw [pb fun j hj=>a j (bx _ hj)]; exact hx
    refine ⟨_,?_,p1.set hn _⟩;rw [hpc,ac,hcs,ac];simp only [freezeIf,if_true,ac];rw [pf ((p1.on _ hn).trans hi),bw]
 | store fz s x y=>
  cases fz with
  | false=>simp [Op.cls] at hc
  | true=>
   simp only [aq] at he ⊢;obtain ⟨u,hu,he1⟩:=a8.1 he;obtain ⟨d,hd,he2⟩:=a8.1 he1;obtain ⟨h1,hf,he3⟩:=a8.1 he2;clear he he1 he2;obtain rfl:=p4 hf;refine ⟨[],by simp,fun h2 a=>?_⟩
   have hs:∀j∈u.refs,j∈e.refsOf (Op.store true s x y).temps++[]:=fun j hj=>bx _ (by
    simp only [Op.temps,cx,ba]; exact .inr (eo hu hj))
   have p1:=(Par.start a).freeze hs
   split at he3
   ·rename_i i p hp
    split at he3
    ·rename_i hss
     obtain ⟨b,hb,he4⟩:=a8.1 he3;obtain ⟨b',hb',e1⟩:=ab.1 he4;simp only [ae] at e1;obtain ⟨rfl,rfl⟩:=e1
     have hi:i∈e.refsOf (Op.store true s x y).temps++[]:=bx _ (by
      simp only [Op.temps,cx,ba]; exact .inl (eo hp (by simp [V.refs])))
     refine ⟨_,?_,p1.set hi _⟩;rw [hu,ac,Dc u fun j hj=>a j (hs j hj),hd,ac]
     simp only [freezeIf,if_true,ac];rw [if_pos hss,p1.on i hi,hb,ac,hb',bw]
    ·cases he3
   ·cases he3
 | copy s x y=>
  simp only [aq] at he ⊢;obtain ⟨w,hw,he1⟩:=a8.1 he;obtain ⟨d,hd,he2⟩:=a8.1 he1;clear he he1;refine ⟨[],by simp,fun h2 a=>?_⟩
  have hs:∀j∈w.refs,j∈e.refsOf (Op.copy s x y).temps++[]:=fun j hj=>bx _ (by
   simp only [Op.temps,cx,ba]; exact .inr (eo hw hj))
  have hd2:toD h2 w=some d:=by rw [kb w fun j hj=>a j (hs j hj)]; exact hd
  split at he2
  ·rename_i t ys j off n cap hx
   have hj:j∈e.refsOf (Op.copy s x y).temps++[]:=bx _ (by
    simp only [Op.temps,cx,ba]; exact .inl (eo hx (by simp [V.refs])))
   split at he2
   ·rename_i t' cs hB
    split at he2
    ·rename_i hcc
     simp only [a9,ae] at he2;obtain ⟨rfl,rfl⟩:=he2;refine ⟨_,?_,(Par.start a).set hj _⟩;rw [hw,ac,hd2,ac];simp only [hx,a j hj,hB];rw [if_pos hcc]
    ·cases he2
   ·cases he2
  ·cases he2
 | call m news f xs=>
  simp only [aq] at he ⊢;obtain ⟨fv,hf,he1⟩:=a8.1 he;obtain ⟨g,hg,he2⟩:=a8.1 he1;obtain ⟨vs,hv,he3⟩:=a8.1 he2;clear he he1 he2
  have hr:∀i∈V.refss (g.2.1++vs++g.2.2),i∈e.refsOf (Op.call m news f xs).temps:=by
   intro i hi;simp only [t7,ba] at hi;simp only [Op.temps,cx,ba];rcases hi with (hi | hi) | hi
   ·exact .inl (na hf hg i (.inl hi))
   ·exact .inr (qf hv hi)
   ·exact .inl (na hf hg i (.inr hi))
  cases m with
  | flat=>simp [Op.cls] at hc
  | plain=>simp [Op.cls] at hc
  | data=>
   simp only [fu] at he3 ⊢;obtain ⟨ds,hds,he4⟩:=a8.1 he3;obtain ⟨ans,hans,he5⟩:=a8.1 he4;obtain ⟨x,hx,he6⟩:=a8.1 he5;clear he3 he4 he5;simp only [a9,ae] at he6;obtain ⟨rfl,rfl⟩:=he6;refine ⟨[],by simp,fun h2 a=>?_⟩
   have hs:∀i∈V.refss (g.2.1++vs++g.2.2),i∈e.refsOf (Op.call Mode.data news f xs).temps++[]:=fun i hi=>bx _ (hr i hi)
   refine ⟨_,?_,(Par.start a).freeze hs⟩;simp only [hf,hg,hv,ac];rw [mz _ fun i hi=>a i (hs i hi),hds,ac,hans,ac,hx,ac]
  | heap=>
   simp only [k9] at he3 ⊢;obtain ⟨bs,hbs,he4⟩:=a8.1 he3;obtain ⟨ans,hans,he5⟩:=a8.1 he4;obtain ⟨h1,hh1,he6⟩:=a8.1 he5;obtain ⟨h2',hh2,he7⟩:=a8.1 he6;clear he3 he4 he5 he6
   split at he7
   case isFalse=>cases he7
   rename_i hall
   simp only [a9,ae] at he7;obtain ⟨rfl,rfl⟩:=he7;obtain ⟨n1,n2,n3⟩:=tc hh2;refine ⟨(news.map (np + ·)).take ans.2.2.length,fun j hj=>⟨J1 hh1 j (yx hh2 j hj),?_⟩,fun h2 a=>?_⟩
   ·obtain ⟨k,hk,e1⟩:=me hj
    have hk':k<ans.2.2.length:=by rw [bp] at hk; omega
    refine n3 k j hk' ?_;rw [o7] at e1;rw [←e1];exact ao (by rw [bp] at hk; omega)
   ·have hs:∀i∈pn (V.refss (g.2.1++vs++g.2.2)),i∈e.refsOf (Op.call Mode.heap news f xs).temps++(news.map (np + ·)).take ans.2.2.length:=fun i hi=>bx _ (hr i (ua.1 hi))
    obtain ⟨g3,q1,q2⟩:=(Par.start a).put hs hh1;obtain ⟨g4,q3,q4⟩:=q2.putNews (fun i hi=>List.mem_append_right _ hi) hh2
    refine ⟨g4,?_,q4⟩;simp only [hf,hg,hv,ac];rw [D8 fun i hi=>a i (hs i hi),hbs,ac,hans,ac,q1,ac,q3,ac,if_pos hall]
 | append s i bytes x y=>
  simp only [aq] at he ⊢;obtain ⟨w,hw,he1⟩:=a8.1 he;obtain ⟨d,hd,he2⟩:=a8.1 he1;clear he he1
  have hwr:∀j∈w.refs,j∈e.refsOf (Op.append s i bytes x y).temps:=fun j hj=>by
   simp only [Op.temps,cx,ba];exact .inr (eo hw hj)
  split at he2
  ·rename_i t ys j off n cap hx
   have hjr:j∈e.refsOf (Op.append s i bytes x y).temps:=by
    simp only [Op.temps,cx,ba];exact .inl (eo hx (by simp [V.refs]))
   split at he2
   ·rename_i fr t' cs hj
    split at he2
    ·rename_i hC
     split at he2
     ·rename_i hF
      simp only [a9,ae] at he2;obtain ⟨rfl,rfl⟩:=he2;refine ⟨[],by simp,fun h2 a=>?_⟩
      have aj:=a j (bx _ hjr);refine ⟨_,?_,(Par.start a).set (bx _ hjr) _⟩;simp only [hw,ac,kb w fun j hj=>a j (bx _ (hwr j hj)),hd,hx,aj,hj]
      rw [if_pos hC,if_pos hF]
     ·rename_i hF
      split at he2
      ·rename_i hG
       obtain ⟨g,hp,e1⟩:=ab.1 he2;simp only [ae] at e1;obtain ⟨rfl,rfl⟩:=e1;obtain ⟨hi,rfl⟩:=cm hp;refine ⟨[np+i],fun j hj=>?_,fun h2 a=>?_⟩
       ·obtain rfl:=bu.1 hj
        exact ⟨hi,.new (by simp) hi⟩
       ·have aj:=a j (bx _ hjr)
        have ai:=a (np+i) (by simp)
        refine ⟨_,?_,(Par.start a).set (by simp) _⟩
        simp only [hw,ac,kb w fun j hj=>a j (bx _ (hwr j hj)),hd,hx,aj,hj]
        rw [if_pos hC,if_neg hF,if_pos hG,pf (ai.trans hi)];rfl
      ·cases he2
    ·cases he2
   ·cases he2
  ·rename_i t y' ys t' hx
   split at he2
   ·rename_i hC
    obtain ⟨g,hp,e1⟩:=ab.1 he2;simp only [ae] at e1;obtain ⟨rfl,rfl⟩:=e1;obtain ⟨hi,rfl⟩:=cm hp;refine ⟨[np+i],fun j hj=>?_,fun h2 a=>?_⟩
    ·obtain rfl:=bu.1 hj
     exact ⟨hi,.new (by simp) hi⟩
    ·have ai:=a (np+i) (by simp)
     refine ⟨_,?_,(Par.start a).set (by simp) _⟩
     simp only [hw,ac,kb w fun j hj=>a j (bx _ (hwr j hj)),hd,hx]
     rw [if_pos hC,pf (ai.trans hi)];rfl
   ·cases he2
  ·cases he2
 | _=>simp [Op.cls] at hc
end Pe

namespace Pe
open Go
def Ins.look (i:Ins):List Nat:=i.op.temps++(match i.guard with | some (n,_)=>[n] | none=>[])
def Op.isAppend:Op→Bool
 | .append _ _ _ _ _=>true
 | _=>false
inductive Kd where
 | off | z | r
 | a (j:Nat) (b:Blk)
 | s (j:Nat) (b:Blk)
 | w (W:List Nat) (h:Heap)
 | x (h:Heap)
def over (h h':Heap) (W:List Nat):Heap:=h.mapIdx fun i b=>if i∈W then (h'[i]?).getD b else b
structure Tr where
 i:Ins
 s:St
 k:Kd
 v:V
def Tr.T (t:Tr):List Nat:=t.s.e.refsOf t.i.op.temps
def Tr.hag (t:Tr) (h:Heap):Prop:=
 match t.k with
 | .off | .z=>True
 | .r | .s _ _=>∀i∈t.T,h[i]? = t.s.h[i]?
 | .a j _=>h[j]? = some .hole
 | .w W _=>∀i∈W,h[i]? = t.s.h[i]?
 | .x _=>h=t.s.h
def Tr.ag (t:Tr) (s:St):Prop:=Le t.i.look t.s.e s.e∧t.hag s.h
def Tr.heff (t:Tr) (h:Heap):Heap:=
 match t.k with
 | .off | .z | .r=>h
 | .a j b | .s j b=>h.set j b
 | .w W h'=>over h h' W
 | .x h'=>h'
def Tr.eeff (t:Tr) (e:Env):Env:=(e.kill (t.i.op.kill t.s.e t.v)).putO t.i.dst t.v
def Tr.eff (t:Tr) (s:St):St:=⟨t.eeff s.e,t.heff s.h⟩
def PI (s:St):Prop:=∀n v,s.e.get n=some v→∀i∈v.refs,Laid s.h i
structure Tr.Valid (O:ah) (np:Nat) (t:Tr):Prop where
 exec:∀s,t.ag s→jq O np s t.i=some (t.eff s)
 laid:∀s,t.ag s→PI s→PI (t.eff s)
 keep:∀s,t.ag s→PI s→∀i,Laid s.h i→Laid (t.heff s.h) i
 cls:match t.k with
  | .off=>True
  | .z=>t.i.op.cls=.z
  | .r=>t.i.op.cls=.r
  | .a _ b=>t.i.op.cls=.a∧b≠.hole
  | .s j b=>t.i.op.cls=.s∧b≠.hole∧j∈t.T
  | .w W h'=>t.i.op.cls=.w∧h'.length=t.s.h.length∧∃N:List Nat,W=t.T++N∧∀i∈N,t.s.h[i]? = some .hole∧Laid h' i
  | .x _=>t.i.op.cls=.x
theorem Qf {p:Op} (h:p.isAppend=false) (e:Env) (v:V):p.kill e v=none:=by
 cases p <;> simp_all [Op.isAppend,Op.kill]
theorem ro {e:Env} {d:Option Nat} {v:V} {n:Nat}:(e.putO d v).get n=if d=some n then some v else e.get n:=by
 cases d with
 | none=>simp [Env.putO]
 | some d=>
  simp only [Env.putO,Env.get,a9]
theorem PI.put {e:Env} {h h':Heap} {k:Option Nat} {d:Option Nat} {v:V} (hp:PI ⟨e,h⟩) (h1:∀i,Laid h i→Laid h' i) (h2:∀i∈v.refs,Laid h' i):PI ⟨(e.kill k).putO d v,h'⟩:=by
 intro n w hn i hi;simp only [ro] at hn
 split at hn
 ·obtain rfl:=av hn
  exact h2 i hi
 ·exact h1 i (hp n w (I9 hn).1 i hi)
theorem PI.refsOf {s:St} (hp:PI s) {e:Env} {ns:List Nat} (hl:Le ns e s.e) {i:Nat} (hi:i∈e.refsOf ns):Laid s.h i:=by
 obtain ⟨n,hn,v,hv,h⟩:=xw hi;exact hp n v (hl n hn v hv) i h
theorem O3 {i:Ins} {e e':Env} (hl:Le i.look e e') {b:Bool} (h:i.on e=some b):i.on e'=some b:=by
 unfold Ins.on at h ⊢;cases hg:i.guard with
 | none=>rw [hg] at h; exact h
 | some q=>
  obtain ⟨n,b'⟩:=q;rw [hg] at h;simp only at h ⊢
  split at h
  ·rename_i t hn
   rw [hl n (by simp [Ins.look,hg]) _ hn]; exact h
  ·rename_i hn
   rw [hl n (by simp [Ins.look,hg]) _ hn]; exact h
  ·cases h
theorem Le.refl (ns:List Nat) (e:Env):Le ns e e:=fun _ _ _ h=>h
theorem Ce (h h':Heap) (W:List Nat) (i:Nat):(over h h' W)[i]? = (h[i]?).map fun b=>if i∈W then (h'[i]?).getD b else b:=by
 unfold over;rw [List.getElem?_mapIdx]
theorem Nx {h h' k:Heap} {W:List Nat} {i:Nat} (hi:i∈W) (hl:h'.length=k.length) (ha:h[i]? = k[i]?):(over h h' W)[i]? = h'[i]?:=by
 rw [Ce,ha]
 by_cases hk:i<k.length
 ·rw [ao hk,ao (show i<h'.length by omega),bw,if_pos hi]
  rfl
 ·rw [c5 (by omega),c5 (by omega)]
  rfl
theorem J0 {h h':Heap} {W:List Nat} {i:Nat} (hi:i ∉ W):(over h h' W)[i]? = h[i]?:=by
 rw [Ce];simp only [if_neg hi,Option.map_id']
theorem J3 {W:List Nat} {h h2 h' h3:Heap} (p:Par W h h2 h' h3) (a:∀i∈W,h2[i]? = h[i]?):h3=over h2 h' W:=by
 refine d9 fun i=>?_
 by_cases hi:i∈W
 ·rw [Nx hi p.len (a i hi),p.on i hi]
 ·rw [J0 hi,p.off2 i hi]
theorem a3w {O:ah} {np:Nat} {s s':St} {i:Ins} (h:jq O np s i=some s'):∃t:Tr,t.i=i∧t.s=s∧t.ag s∧t.eff s=s'∧t.Valid O np:=by
 unfold jq at h
 split at h
 ·rename_i hon
  obtain ⟨⟨v,h'⟩,hev,rfl⟩:=ab.1 h
  -- what holds of all
  have common:∀(k:Kd),(∀s0:St,Le i.look s.e s0.e→(Tr.mk i s k v).hag s0.h→aq O np s.e s0.h i.op=some (v,(Tr.mk i s k v).heff s0.h)) →
   ∀s0,(Tr.mk i s k v).ag s0→jq O np s0 i=some ((Tr.mk i s k v).eff s0)∧(PI s0→PI ((Tr.mk i s k v).eff s0)∧∀j,Laid s0.h j→Laid ((Tr.mk i s k v).heff s0.h) j):=by
   intro k hx s0 ⟨g1,g3⟩;simp only at g1;have ht:Le i.op.temps s.e s0.e:=Le.sub g1 fun n hn=>by simp [Ins.look,hn]
   obtain ⟨m1,m2⟩:=Vv ht (hx s0 g1 g3);refine ⟨?_,fun hp=>?_⟩
   ·unfold jq
    rw [O3 g1 hon];simp only [m1,bw,Tr.eff,Tr.eeff,m2]
   ·obtain ⟨l1,l2⟩:=Vx m1 fun j hj=>hp.refsOf (Le.refl _ _) hj
    simp only [Tr.eff,Tr.eeff];exact ⟨PI.put hp l1 l2,l1⟩
  cases hc:i.op.cls with
  | z=>
   obtain ⟨rfl,h2,_⟩:=a38 hc hev;have c:=common .z fun s0 _ _=>h2 s0.h
   refine ⟨⟨i,s,.z,v⟩,rfl,rfl,⟨Le.refl _ _,trivial⟩,?_,fun s0 g=>(c s0 g).1,fun s0 g hp=>((c s0 g).2 hp).1,fun s0 g hp=>((c s0 g).2 hp).2,hc⟩
   simp [Tr.eff,Tr.eeff,Tr.heff]
  | r=>
   obtain ⟨rfl,h2,_⟩:=a4h hc hev;have c:=common .r fun s0 _ g=>h2 s0.h g
   refine ⟨⟨i,s,.r,v⟩,rfl,rfl,⟨Le.refl _ _,fun _ _=>rfl⟩,?_,fun s0 g=>(c s0 g).1,fun s0 g hp=>((c s0 g).2 hp).1,fun s0 g hp=>((c s0 g).2 hp).2,hc⟩
   simp [Tr.eff,Tr.eeff,Tr.heff]
  | a=>
   obtain ⟨j,b,_,hj,hb,rfl,h2,_⟩:=a3p hc hev;have c:=common (.a (np+j) b) fun s0 _ g=>h2 s0.h g
   refine ⟨⟨i,s,.a (np+j) b,v⟩,rfl,rfl,⟨Le.refl _ _,hj⟩,?_,fun s0 g=>(c s0 g).1,fun s0 g hp=>((c s0 g).2 hp).1,fun s0 g hp=>((c s0 g).2 hp).2,hc,hb⟩
   simp [Tr.eff,Tr.eeff,Tr.heff]
  | s=>
   obtain ⟨j,b,hj,hb,rfl,h2,_⟩:=a3j hc hev;have c:=common (.s j b) fun s0 _ g=>h2 s0.h g
   refine ⟨⟨i,s,.s j b,v⟩,rfl,rfl,⟨Le.refl _ _,fun _ _=>rfl⟩,?_,fun s0 g=>(c s0 g).1,fun s0 g hp=>((c s0 g).2 hp).1,fun s0 g hp=>((c s0 g).2 hp).2,hc,hb,hj⟩
   simp [Tr.eff,Tr.eeff,Tr.heff]
  | w=>
   obtain ⟨N,hN,h2⟩:=a76 hc hev
   have c:=common (.w (s.e.refsOf i.op.temps++N) h') fun s0 _ g=>by
    have g':∀j∈s.e.refsOf i.op.temps++N,s0.h[j]? = s.h[j]?:=g;obtain ⟨h3,q1,q2⟩:=h2 s0.h g';rw [q1,J3 q2 g'];rfl
   obtain ⟨h3,q1,q2⟩:=h2 s.h fun _ _=>rfl
   have e3:h3=h':=by
    have:=q1.symm.trans hev
    simpa using this
   subst e3;refine ⟨⟨i,s,.w (s.e.refsOf i.op.temps++N) h3,v⟩,rfl,rfl,⟨Le.refl _ _,fun _ _=>rfl⟩,?_,fun s0 g=>(c s0 g).1,fun s0 g hp=>((c s0 g).2 hp).1,fun s0 g hp=>((c s0 g).2 hp).2,hc,q2.len,N,rfl,hN⟩
   simp [Tr.eff,Tr.eeff,Tr.heff,←J3 q2 fun _ _=>rfl]
  | x=>
   have c:=common (.x h') fun s0 _ g=>by
    have g':s0.h=s.h:=g;rw [g']; exact hev
   refine ⟨⟨i,s,.x h',v⟩,rfl,rfl,⟨Le.refl _ _,rfl⟩,?_,fun s0 g=>(c s0 g).1,fun s0 g hp=>((c s0 g).2 hp).1,fun s0 g hp=>((c s0 g).2 hp).2,hc⟩
   simp [Tr.eff,Tr.eeff,Tr.heff]
 ·rename_i hon
  obtain rfl:=av h
  have hk:i.op.kill s.e (.tup [])=none:=by
   cases i.op <;> try rfl
   simp only [Op.kill]
   split <;> simp_all
  refine ⟨⟨i,s,.off,.tup []⟩,rfl,rfl,⟨Le.refl _ _,trivial⟩,by simp [Tr.eff,Tr.eeff,Tr.heff,hk,Env.kill],fun s0 g=>?_,fun s0 _ hp=>?_,fun s0 _ _ i hi=>hi,trivial⟩
  ·unfold jq
   obtain ⟨g1,_⟩:=g;rw [O3 g1 hon];simp [Tr.eff,Tr.eeff,Tr.heff,hk,Env.kill]
  ·simp only [Tr.eff,Tr.eeff,Tr.heff,hk]
   exact PI.put hp (fun _ h=>h) (fun i hi=>by simp [V.refs,V.refss] at hi)
 ·cases h
structure Sim (s t:St):Prop where
 h:s.h=t.h
 e:∀n,s.e.get n=t.e.get n
theorem Sim.refl (s:St):Sim s s:=⟨rfl,fun _=>rfl⟩
theorem Sim.symm {s t:St} (h:Sim s t):Sim t s:=⟨h.h.symm,fun n=>(h.e n).symm⟩
theorem Sim.trans {s t u:St} (h:Sim s t) (g:Sim t u):Sim s u:=⟨h.h.trans g.h,fun n=>(h.e n).trans (g.e n)⟩
theorem rz (e:Env) (k:Option Nat) (n:Nat):(e.kill k).get n=match k with | some j=>if e.clear j n then e.get n else none | none=>e.get n:=by
 cases k with
 | none=>rfl
 | some j=>exact xc (e.clear j) e n
theorem Sim.kill {e e':Env} (h:∀n,e.get n=e'.get n) (k:Option Nat) (n:Nat):(e.kill k).get n=(e'.kill k).get n:=by
 rw [rz,rz];cases k with
 | none=>exact h n
 | some j=>
  have hc:e.clear j n=e'.clear j n:=by unfold Env.clear; rw [h n]
  simp only [hc,h n]
theorem Sim.eff {s t:St} (h:Sim s t) (x:Tr):Sim (x.eff s) (x.eff t):=by
 refine ⟨by simp only [Tr.eff,h.h],fun n=>?_⟩
 simp only [Tr.eff,Tr.eeff,ro,Sim.kill h.e]
theorem Sim.ag {s t:St} (h:Sim s t) {x:Tr} (g:x.ag s):x.ag t:=by
 obtain ⟨g1,g3⟩:=g;exact ⟨fun n hn v hv=>by rw [←h.e n]; exact g1 n hn v hv,by rw [←h.h]; exact g3⟩
def Ins.free (d:Option Nat) (ns:List Nat):Bool:=
 match d with
 | some d=>!ns.contains d
 | none=>true
def Se:Option Nat→Option Nat→Bool
 | some a,some b=>a != b
 | _,_=>true
def ju:Cls→Cls→Option Bool
 | .z,_ | _,.z | .r,.r | .r,.a | .a,.r | .a,.a | .a,.s | .s,.a | .a,.w | .w,.a=>some false
 | .r,.s | .s,.r | .s,.s | .r,.w | .w,.r | .s,.w | .w,.s | .w,.w=>some true
 | _,_=>none
def Ins.isLoad (i:Ins):Bool:=match i.op,i.guard with
 | .load _ _,none=>true
 | _,_=>false
def Hh (y x:Ins):Bool:=Ins.free y.dst x.look&&Ins.free x.dst y.look&&Se y.dst x.dst && !y.op.isAppend&&(!x.op.isAppend||y.isLoad)
theorem I7 {i:Ins} (h:i.isLoad=true):i.op.isAppend=false∧i.guard=none∧∃s x,i.op=.load s x:=by
 unfold Ins.isLoad at h
 split at h
 ·rename_i s x h1 h2
  exact ⟨by rw [h1]; rfl,h2,s,x,h1⟩
 ·cases h
theorem sr {d:Option Nat} {ns:List Nat} (h:Ins.free d ns=true) {n:Nat} (hn:n∈ns):d≠some n:=by
 rintro rfl
 simp [Ins.free,hn] at h
theorem Dh {a b:Option Nat} (h:Se a b=true) {n:Nat} (ha:a=some n):b≠some n:=by
 subst ha
 rintro rfl
 simp [Se] at h
theorem ur {t:Tr} (ha:t.i.op.isAppend=false) (e:Env) (n:Nat):(t.eeff e).get n=if t.i.dst=some n then some t.v else e.get n:=by
 unfold Tr.eeff;rw [ro,Qf ha]; rfl
theorem yi {t:Tr} (ha:t.i.op.isAppend=false) {e:Env} {n:Nat} (hn:t.i.dst≠some n):(t.eeff e).get n=e.get n:=by
 rw [ur ha,if_neg hn]
theorem Uk {O:ah} {np:Nat} {t:Tr} (vt:t.Valid O np) {s:St} (g:t.ag s) (hl:t.i.isLoad=true) {n:Nat} (hn:t.i.dst=some n):∃d,t.v=.d d:=by
 obtain ⟨l1,l2,sh,x,l3⟩:=I7 hl;have h:=vt.exec s g;unfold jq Ins.on at h;rw [l2] at h;simp only [l3] at h;obtain ⟨⟨v,h'⟩,hev,heq⟩:=ab.1 h
 have e1:((t.eff s).e.get n)=some t.v:=by
  simp only [Tr.eff,Tr.eeff,ro,hn,if_true]
 rw [←heq] at e1;simp only [ro,hn,if_true,a9] at e1;subst e1;simp only [aq] at hev
 split at hev
 ·split at hev
  ·simp only [a9,ae] at hev; exact ⟨_,hev.1.symm⟩
  ·cases hev
 ·obtain ⟨q,_,hev⟩:=a8.1 hev
  split at hev
  ·simp only [a9,ae] at hev; exact ⟨_,hev.1.symm⟩
  ·cases hev
 ·cases hev
theorem A2 (t:Tr) (e:Env) (n:Nat):(t.eeff e).get n=if t.i.dst=some n then some t.v else (match t.i.op.kill t.s.e t.v with | some j=>if e.clear j n then e.get n else none | none=>e.get n):=by
 unfold Tr.eeff;rw [ro,rz]
theorem Nj {p:Op} {e:Env} {v:V} {j:Nat} (h:p.kill e v=some j):j∈e.refsOf p.temps:=by
 unfold Op.kill at h
 split at h
 ·split at h
  ·rename_i hx
   split at h
   ·obtain rfl:=av h
    simp only [Op.temps,cx,ba];exact .inl (eo hx (by simp [V.refs]))
   ·cases h
  ·cases h
 ·cases h
theorem zb {e:Env} {j n:Nat} {v:V} (h:e.get n=some v):e.clear j n=true↔j ∉ v.refs:=by
 unfold Env.clear;rw [h];simp only [dh,List.any_eq_false,beq_iff_eq];exact ⟨fun h hj=>h j hj rfl,fun h x hx e=>h (e▸hx)⟩
def Kd.rd (T:List Nat):Kd→Nat→Prop
 | .off,_ | .z,_=>False
 | .r,i=>i∈T
 | .a j _,i=>i=j
 | .s _ _,i=>i∈T
 | .w W _,i=>i∈W
 | .x _,_=>True
def Kd.wr:Kd→Nat→Prop
 | .off,_ | .z,_ | .r,_=>False
 | .a j _,i | .s j _,i=>i=j
 | .w W _,i=>i∈W
 | .x _,_=>True
def Kd.isX:Kd→Bool
 | .x _=>true
 | _=>false
theorem sv {t:Tr} (hx:t.k.isX=false) {i:Nat} (hi:¬ t.k.wr i) (h:Heap):(t.heff h)[i]? = h[i]?:=by
 unfold Tr.heff;cases hk:t.k with
 | off | z | r=>rfl
 | a j b | s j b=>
  rw [hk] at hi;exact bn fun e=>hi e.symm
 | w W h'=>
  rw [hk] at hi;exact J0 hi
 | x h'=>rw [hk] at hx; cases hx
theorem O1 {t:Tr} (_hx:t.k.isX=false) {i:Nat} {h h2:Heap} (he:h2[i]? = h[i]?):(t.heff h2)[i]? = (t.heff h)[i]?:=by
 unfold Tr.heff;cases hk:t.k with
 | off | z | r=>exact he
 | a j b | s j b=>
  simp only
  by_cases hij:j=i
  ·subst hij
   have hl:=Ek he
   by_cases hk:j<h.length
   ·rw [b9 hk,b9 (hl.2 hk)]
   ·rw [c5 (by rw [cg]; omega),c5 (by rw [cg]; omega)]
  ·rw [bn hij,bn hij,he]
 | w W h'=>simp only [Ce,he]
 | x h'=>rfl
theorem To {t:Tr} (hx:t.k.isX=false) {h h2:Heap} (he:∀i,t.k.rd t.T i→h2[i]? = h[i]?) (g:t.hag h):t.hag h2:=by
 unfold Tr.hag at g ⊢;cases hk:t.k with
 | off | z=>trivial
 | r=>rw [hk] at g he; exact fun i hi=>(he i hi).trans (g i hi)
 | a j b=>rw [hk] at g he; exact (he j rfl).trans g
 | s j b=>rw [hk] at g he; exact fun i hi=>(he i hi).trans (g i hi)
 | w W h'=>rw [hk] at g he; exact fun i hi=>(he i hi).trans (g i hi)
 | x h'=>rw [hk] at hx; cases hx
theorem U7 {O:ah} {np:Nat} {t:Tr} (vt:t.Valid O np) (hx:t.k.isX=false) {h:Heap} (hg:t.hag h) {i:Nat} (hi:t.k.wr i) :
 (i∈t.T∧(t.i.op.cls=.s∨t.i.op.cls=.w))∨(h[i]? = some .hole∧Laid (t.heff h) i):=by
 have vc:=vt.cls;unfold Tr.hag at hg;unfold Tr.heff;cases hk:t.k with
 | off | z | r=>rw [hk] at hi; exact hi.elim
 | a j b=>
  rw [hk] at hi hg;simp only [hk] at vc;obtain rfl:i=j:=hi;exact .inr ⟨hg,.new vc.2 hg⟩
 | s j b=>
  rw [hk] at hi;simp only [hk] at vc;obtain rfl:i=j:=hi;exact .inl ⟨vc.2.2,.inl vc.1⟩
 | w W h'=>
  rw [hk] at hi hg;simp only [hk] at vc;obtain ⟨c1,c2,N,rfl,hN⟩:=vc;have hi':i∈t.T++N:=hi;rcases ba.1 hi' with hT | hn
  ·exact .inl ⟨hT,.inr c1⟩
  ·obtain ⟨q1,B,hB,hb⟩:=hN i hn
   exact .inr ⟨(hg i hi').trans q1,B,(Nx hi' c2 (hg i hi')).trans hB,hb⟩
 | x h'=>rw [hk] at hx; cases hx
theorem Ok {O:ah} {np:Nat} {t:Tr} (vt:t.Valid O np) (hx:t.k.isX=false) {h:Heap} (hg:t.hag h) {i:Nat} (hi:t.k.rd t.T i) :
 (i∈t.T∧(t.i.op.cls=.r∨t.i.op.cls=.s∨t.i.op.cls=.w))∨(h[i]? = some .hole∧t.k.wr i):=by
 have vc:=vt.cls;unfold Tr.hag at hg;cases hk:t.k with
 | off | z=>rw [hk] at hi; exact hi.elim
 | r=>
  rw [hk] at hi;simp only [hk] at vc;exact .inl ⟨hi,.inl vc⟩
 | a j b=>
  rw [hk] at hi hg;obtain rfl:i=j:=hi;exact .inr ⟨hg,rfl⟩
 | s j b=>
  rw [hk] at hi;simp only [hk] at vc;exact .inl ⟨hi,.inr (.inl vc.1)⟩
 | w W h'=>
  rw [hk] at hi hg;simp only [hk] at vc;obtain ⟨c1,c2,N,rfl,hN⟩:=vc;have hi':i∈t.T++N:=hi;rcases ba.1 hi' with hT | hn
  ·exact .inl ⟨hT,.inr (.inr c1)⟩
  ·exact .inr ⟨(hg i hi').trans (hN i hn).1,hi'⟩
 | x h'=>rw [hk] at hx; cases hx
theorem oa {h:Heap} {i:Nat} (h1:h[i]? = some .hole) (h2:Laid h i):False:=by
 obtain ⟨B,hB,hn⟩:=h2;rw [hB] at h1;exact hn (av h1)
theorem Sp {O:ah} {np:Nat} {y x:Tr} (vy:y.Valid O np) (vx:x.Valid O np) {b:Bool} (hc:ju y.i.op.cls x.i.op.cls=some b) (h:y.k.isX=true):x.k=.off∨x.k=.z:=by
 have vyc:=vy.cls;have vxc:=vx.cls;cases hky:y.k with
 | x hy=>
  simp only [hky] at vyc;rw [vyc] at hc;cases hkx:x.k with
  | off=>exact .inl rfl
  | z=>exact .inr rfl
  | r=>simp only [hkx] at vxc; rw [vxc] at hc; simp [ju] at hc
  | a j b=>simp only [hkx] at vxc; rw [vxc.1] at hc; simp [ju] at hc
  | s j b=>simp only [hkx] at vxc; rw [vxc.1] at hc; simp [ju] at hc
  | w W h'=>simp only [hkx] at vxc; rw [vxc.1] at hc; simp [ju] at hc
  | x h'=>simp only [hkx] at vxc; rw [vxc] at hc; simp [ju] at hc
 | _=>rw [hky] at h; cases h
theorem Pp {O:ah} {np:Nat} {y x:Tr} (vy:y.Valid O np) (vx:x.Valid O np) {b:Bool} (hc:ju y.i.op.cls x.i.op.cls=some b) (h:x.k.isX=true):y.k=.off∨y.k=.z:=by
 have vyc:=vy.cls;have vxc:=vx.cls;cases hkx:x.k with
 | x hx=>
  simp only [hkx] at vxc;rw [vxc] at hc;cases hky:y.k with
  | off=>exact .inl rfl
  | z=>exact .inr rfl
  | r=>simp only [hky] at vyc; rw [vyc] at hc; simp [ju] at hc
  | a j b=>simp only [hky] at vyc; rw [vyc.1] at hc; simp [ju] at hc
  | s j b=>simp only [hky] at vyc; rw [vyc.1] at hc; simp [ju] at hc
  | w W h'=>simp only [hky] at vyc; rw [vyc.1] at hc; simp [ju] at hc
  | x h'=>simp only [hky] at vyc; rw [vyc] at hc; simp [ju] at hc
 | _=>rw [hkx] at h; cases h
theorem swap {O:ah} {np:Nat} {y x:Tr} {s:St} (hp:PI s) (vy:y.Valid O np) (vx:x.Valid O np) (ay:y.ag s) (ax:x.ag (y.eff s)) (hd:Hh y.i x.i=true)
 {b:Bool} (hc:ju y.i.op.cls x.i.op.cls=some b) (hap:b=true→∀i∈y.T,i ∉ x.T):x.ag s∧y.ag (x.eff s)∧Sim (y.eff (x.eff s)) (x.eff (y.eff s)):=by
 have aya:=ay;have axa:=ax;unfold Hh at hd;simp only [al,dh,Bool.or_eq_true] at hd;obtain ⟨⟨⟨⟨d1,d2⟩,d3⟩,ny⟩,nx⟩:=hd;obtain ⟨ay1,ay3⟩:=ay;obtain ⟨ax1,ax3⟩:=ax
 -- variables
 have lx:Le x.i.look x.s.e s.e:=fun n hn v hv=>by
  have:=ax1 n hn v hv
  rwa [Tr.eff,yi ny (sr d1 hn)] at this
 have ly:Le y.i.look y.s.e (x.eff s).e:=fun n hn v hv=>by
  have h1:=ay1 n hn v hv;rcases nx with nx | nx
  ·rw [Tr.eff,yi nx (sr d2 hn)]
   exact h1
  ·simp only [Tr.eff,Tr.eeff,ro,if_neg (sr d2 hn),rz]
   cases hk:x.i.op.kill x.s.e x.v with
   | none=>exact h1
   | some j=>
    obtain ⟨l1,l2,sh,a,l3⟩:=I7 nx;have hj:=Nj hk
    have hnt:n∈y.i.op.temps:=by
     unfold Ins.look at hn;rw [l2] at hn
     simpa using hn
    have hb:b=true:=by
     have c1:y.i.op.cls=.r:=by rw [l3]; rfl
     have c2:x.i.op.cls=.w:=by
      cases hop:x.i.op <;> rw [hop] at hk <;> first | rfl | (simp only [Op.kill] at hk; cases hk)
     rw [c1,c2] at hc
     simpa [ju] using hc.symm
    have hcl:s.e.clear j n=true:=(zb h1).2 fun hi=>hap hb j (qt hnt hv hi) hj
    simp only [hcl,if_true];exact h1
 have es:∀n,(y.eff (x.eff s)).e.get n=(x.eff (y.eff s)).e.get n:=by
  intro n;rcases nx with nx | nx
  ·simp only [Tr.eff,ur ny,ur nx]
   by_cases h1:y.i.dst=some n
   ·have h2:=Dh d3 h1
    simp only [h1,h2,if_true,if_false]
   ·simp only [h1,if_false]
  ·show (y.eeff (x.eeff s.e)).get n=(x.eeff (y.eeff s.e)).get n
   rw [ur ny,A2 x (y.eeff s.e),A2 x s.e]
   by_cases h1:y.i.dst=some n
   ·have h2:=Dh d3 h1
    obtain ⟨d,hd⟩:=Uk vy aya nx h1;have hg:(y.eeff s.e).get n=some y.v:=by rw [ur ny,if_pos h1]
    rw [if_pos h1,if_neg h2];cases hk:x.i.op.kill x.s.e x.v with
    | none=>exact hg.symm
    | some j=>
     have hcl:(y.eeff s.e).clear j n=true:=(zb hg).2 (by rw [hd]; simp [V.refs])
     simp only [hcl,if_true];exact hg.symm
   ·rw [if_neg h1]
    by_cases h2:x.i.dst=some n
    ·rw [if_pos h2,if_pos h2]
    ·rw [if_neg h2,if_neg h2]
     have hg:(y.eeff s.e).get n=s.e.get n:=yi ny h1;cases hk:x.i.op.kill x.s.e x.v with
     | none=>exact hg.symm
     | some j=>
      have hcl:(y.eeff s.e).clear j n=s.e.clear j n:=by unfold Env.clear; rw [hg]
      simp only [hcl,hg]
 -- what is laid
 have tx:∀i∈x.T,Laid s.h i:=fun i hi=>hp.refsOf (Le.sub lx fun n hn=>by simp [Ins.look,hn]) hi
 have ty:∀i∈y.T,Laid s.h i:=fun i hi=>hp.refsOf (Le.sub ay1 fun n hn=>by simp [Ins.look,hn]) hi
 have ky:∀i,Laid s.h i→Laid (y.heff s.h) i:=vy.keep s aya hp;have ax3':x.hag (y.heff s.h):=ax3
 have hm:x.hag s.h∧y.hag (x.heff s.h)∧y.heff (x.heff s.h)=x.heff (y.heff s.h):=by
  cases hyx:y.k.isX with
  | true=>
   rcases Sp vy vx hc hyx with hk | hk
   ·simp only [Tr.hag,Tr.heff,hk] at ay3 ⊢
    exact ⟨trivial,ay3,trivial⟩
   ·simp only [Tr.hag,Tr.heff,hk] at ay3 ⊢
    exact ⟨trivial,ay3,trivial⟩
  | false=>
   cases hxx:x.k.isX with
   | true=>
    rcases Pp vy vx hc hxx with hk | hk
    ·simp only [Tr.hag,Tr.heff,hk] at ax3' ⊢
     exact ⟨ax3',trivial,trivial⟩
    ·simp only [Tr.hag,Tr.heff,hk] at ax3' ⊢
     exact ⟨ax3',trivial,trivial⟩
   | false=>
    -- both reach the same place only if they are told to be apart
    have two:∀i,i∈y.T→i∈x.T→(y.i.op.cls=.s∨y.i.op.cls=.w∨(y.i.op.cls=.r∧(x.i.op.cls=.s∨x.i.op.cls=.w)))→(x.i.op.cls=.r∨x.i.op.cls=.s∨x.i.op.cls=.w)→False:=by
     intro i h1 h2 h3 h4
     have hb:b=true:=by
      rcases h3 with h3 | h3 | ⟨h3,h5⟩
      ·rcases h4 with h4 | h4 | h4 <;> rw [h3,h4] at hc <;> simpa [ju] using hc.symm
      ·rcases h4 with h4 | h4 | h4 <;> rw [h3,h4] at hc <;> simpa [ju] using hc.symm
      ·rcases h5 with h5 | h5 <;> rw [h3,h5] at hc <;> simpa [ju] using hc.symm
     exact hap hb i h1 h2
    have D1:∀i,y.k.wr i→¬ x.k.rd x.T i:=by
     intro i hw hr;rcases U7 vy hyx ay3 hw with ⟨w1,w2⟩ | ⟨w1,w2⟩
     ·rcases Ok vx hxx ax3' hr with ⟨r1,r2⟩ | ⟨r1,_⟩
      ·exact two i w1 r1 (w2.imp id .inl) r2
      ·exact oa r1 (ky i (ty i w1))
     ·rcases Ok vx hxx ax3' hr with ⟨r1,r2⟩ | ⟨r1,_⟩
      ·exact oa w1 (tx i r1)
      ·exact oa r1 w2
    have D2:∀i,x.k.wr i→¬ y.k.rd y.T i:=by
     intro i hw hr;rcases U7 vx hxx ax3' hw with ⟨w1,w2⟩ | ⟨w1,w2⟩
     ·rcases Ok vy hyx ay3 hr with ⟨r1,r2⟩ | ⟨r1,_⟩
      ·refine two i r1 w1 ?_ (.inr w2)
       rcases r2 with r2 | r2 | r2
       ·exact .inr (.inr ⟨r2,w2⟩)
       ·exact .inl r2
       ·exact .inr (.inl r2)
      ·exact oa r1 (tx i w1)
     ·rcases Ok vy hyx ay3 hr with ⟨r1,r2⟩ | ⟨r1,r2⟩
      ·exact oa w1 (ky i (ty i r1))
      ·rcases U7 vy hyx ay3 r2 with ⟨q1,q2⟩ | ⟨q1,q2⟩
       ·exact oa r1 (ty i q1)
       ·exact oa w1 q2
    have rw_:∀{t:Tr},t.Valid O np→t.k.isX=false→∀i,t.k.wr i→t.k.rd t.T i:=by
     intro t vt ht i hi;have vc:=vt.cls;cases hk:t.k with
     | off | z | r=>rw [hk] at hi; exact hi.elim
     | a j b=>rw [hk] at hi; exact hi
     | s j b=>
      rw [hk] at hi;simp only [hk] at vc;obtain rfl:i=j:=hi;exact vc.2.2
     | w W h'=>rw [hk] at hi; exact hi
     | x h'=>rw [hk] at ht; cases ht
    refine ⟨To hxx (fun i hi=>(sv hyx (fun hw=>D1 i hw hi) s.h).symm) ax3',To hyx (fun i hi=>sv hxx (fun hw=>D2 i hw hi) s.h) ay3,d9 fun i=>?_⟩
    by_cases hw:x.k.wr i
    ·have h1:¬ y.k.wr i:=fun h=>D1 i h (rw_ vx hxx i hw)
     rw [sv hyx h1,O1 hxx (sv hyx h1 s.h)]
    ·rw [sv hxx hw,O1 hyx (sv hxx hw s.h)]
 exact ⟨⟨lx,hm.1⟩,⟨ly,hm.2.1⟩,⟨hm.2.2,es⟩⟩
end Pe

namespace Pe
open Go
variable {P:Program} {num:Nat→Nat}
def Chain:List Tr→St→St→Prop
 | [],s,s'=>Sim s s'
 | t::L,s,s'=>t.ag s∧Chain L (t.eff s) s'
theorem Chain.sim:∀{L:List Tr} {s t s':St},Sim s t→Chain L s s'→Chain L t s'
 | [],_,_,_,h,g=>h.symm.trans g
 | x::_L,_s,_t,_s',h,g=>⟨h.ag g.1,Chain.sim (h.eff x) g.2⟩
def Ind (y x:Tr):Prop:=Hh y.i x.i=true∧∃b,ju y.i.op.cls x.i.op.cls=some b∧(b=true→∀i∈y.T,i ∉ x.T)
theorem Xm {O:ah} {np:Nat} {x:Tr} {post:List Tr} {s':St} (vx:x.Valid O np):∀{pre:List Tr} {s:St},PI s→(∀t∈pre,t.Valid O np)→Chain (pre++x::post) s s'→(∀y∈pre,Ind y x)→x.ag s∧Chain (pre++post) (x.eff s) s'
 | [],s,_,_,hc,_=>hc
 | y::pre,s,hp,hv,hc,hi=>by
  have vy:=hv y (by simp)
  obtain ⟨ay,hc⟩:=hc;obtain ⟨ax,hc'⟩:=Xm vx (pre:=pre) (vy.laid s ay hp) (fun t ht=>hv t (by simp [ht])) hc (fun z hz=>hi z (by simp [hz]))
  obtain ⟨i1,b,i2,i3⟩:=hi y (by simp)
  obtain ⟨g1,g2,g3⟩:=swap hp vy vx ay ax i1 i2 i3;exact ⟨g1,g2,Chain.sim g3.symm hc'⟩
def Seq:List Tr→St→St→Prop
 | [],s,s'=>s=s'
 | t::L,s,s'=>t.s=s∧t.ag s∧t.i.side s.e=true∧Seq L (t.eff s) s'
theorem Seq.chain:∀{L:List Tr} {s s':St},Seq L s s'→Chain L s s'
 | [],_,_,h=>h▸Sim.refl _
 | _::_,_,_,h=>⟨h.2.1,Seq.chain h.2.2.2⟩
theorem T5 {O:ah} {np:Nat}:∀{is:List Ins} {s s':St},em O np is s=some s'→∃L:List Tr,L.map (·.i)=is∧(∀t∈L,t.Valid O np)∧Seq L s s'
 | [],s,s',h=>by
  simp only [em,a9] at h;exact ⟨[],rfl,by simp,h⟩
 | i::is,s,s',h=>by
  simp only [em] at h;obtain ⟨s1,h1,h⟩:=a8.1 h;obtain ⟨L,g1,g2,g3⟩:=T5 h
  have hside:i.side s.e=true:=by
   unfold nr at h1
   split at h1
   ·assumption
   ·cases h1
  obtain ⟨t,e1,e2,e3,e4,e5⟩:=a3w (Ew h1);exact ⟨t::L,by simp [e1,g1],by simpa using ⟨e5,g2⟩,e2,e3,by rw [e1]; exact hside,by rw [e4]; exact g3⟩
theorem Mr {i:Ins} {e:Env} (h:i.side e=true) {n:Nat} (hn:n∈i.apart) {v:V} (hv:e.get n=some v) {j:Nat} (hj:j∈v.refs):j ∉ e.refsOf i.op.temps:=by
 intro hx;have hmem:j∈e.refsOf i.apart:=qt hn hv hj;unfold Ins.side at h
 have hne:i.apart.isEmpty=false:=by
  cases hq:i.apart with
  | nil=>rw [hq] at hn; simp at hn
  | cons _ _=>rfl
 rw [hne] at h;simp only [Bool.false_or] at h;have h1:=dq.1 h j hmem;simp only [dh,List.any_eq_false,beq_iff_eq] at h1;exact h1 j hx rfl
theorem Seq.keeps {ns:List Nat}:∀{mid:List Tr} {x:Tr} {post:List Tr} {s s':St},Seq (mid++x::post) s s'→(∀z∈mid,(z.i.op.isAppend=false∨∀n∈ns,n∈z.i.apart)∧Ins.free z.i.dst ns=true)→x.s=x.s∧x.i.side x.s.e=true∧∀n∈ns,x.s.e.get n=s.e.get n
 | [],x,post,s,s',h,_=>by
  obtain ⟨rfl,_,h2,_⟩:=h;exact ⟨rfl,h2,fun _ _=>rfl⟩
 | z::mid,x,post,s,s',h,hm=>by
  obtain ⟨hzs,_,hside,h⟩:=h;obtain ⟨_,h2,h3⟩:=Seq.keeps h fun y hy=>hm y (by simp [hy])
  obtain ⟨m1,m2⟩:=hm z (by simp)
  refine ⟨rfl,h2,fun n hn=>(h3 n hn).trans ?_⟩
  rw [Tr.eff];rcases m1 with m1 | m1
  ·exact yi m1 (sr m2 hn)
  ·show (z.eeff s.e).get n=s.e.get n
   rw [A2,if_neg (sr m2 hn)];cases hk:z.i.op.kill z.s.e z.v with
   | none=>rfl
   | some j=>
    have hj:=Nj hk;rw [hzs] at hj;cases hv:s.e.get n with
    | none=>
     have hcl:s.e.clear j n=true:=by unfold Env.clear; rw [hv]
     simp only [hcl,if_true]
    | some v=>
     have hcl:s.e.clear j n=true:=(zb hv).2 fun hi=>Mr hside (m1 n hn) hv hi hj
     simp only [hcl,if_true]
theorem Seq.apart:∀{pre:List Tr} {y x:Tr} {mid post:List Tr} {s s':St},Seq (pre++y::(mid++x::post)) s s'→(∀z∈y::mid,(z.i.op.isAppend=false∨∀n∈y.i.op.temps,n∈z.i.apart)∧Ins.free z.i.dst y.i.op.temps=true)→(∀n∈y.i.op.temps,n∈x.i.apart)→∀i∈y.T,i ∉ x.T
 | z::pre,y,x,mid,post,s,s',h,hm,ha=>Seq.apart (pre:=pre) h.2.2.2 hm ha
 | [],y,x,mid,post,s,s',h,hm,ha=>by
  intro i hi hx;have hys:y.s=s:=h.1;obtain ⟨_,hside,hk⟩:=Seq.keeps (ns:=y.i.op.temps) (mid:=y::mid) (s:=s) h hm;obtain ⟨n,hn,v,hv,hiv⟩:=xw hi;have hn':=ha n hn;have hxv:x.s.e.get n=some v:=by rw [hk n hn,←hys]; exact hv
  have hmem:i∈x.s.e.refsOf x.i.apart:=qt hn' hxv hiv;unfold Ins.side at hside
  have hne:x.i.apart.isEmpty=false:=by
   cases hq:x.i.apart with
   | nil=>rw [hq] at hn'; simp at hn'
   | cons _ _=>rfl
  rw [hne] at hside;simp only [Bool.false_or] at hside;have h1:=dq.1 hside i hmem;simp only [dh,List.any_eq_false,beq_iff_eq] at h1;exact h1 i hx rfl
def a0b (acc:List Nat) (o:Oper):Nat:=o.after.toList.foldr (fun e m=>if Region.binds .any e then m ||| (1 <<< e.on) ||| acc.getD e.on 0 else m) 0
def uo:List Oper→List Nat→List Nat
 | [],acc=>acc
 | o::os,acc=>uo os (acc++[a0b acc o])
def Mf (is:List Ins) (ky kx:Nat) (y x:Ins):Bool:=
 Hh y x&&match ju y.op.cls x.op.cls with
  | some false=>true
  | some true=>y.op.temps.all (x.apart.contains ·)&&((is.drop ky).take (kx-ky)).all fun z=>(!z.op.isAppend||y.op.temps.all (z.apart.contains ·))&&Ins.free z.dst y.op.temps
  | none=>false
def L2 (ops:List Oper) (is:List Ins):Bool:=
 let ms:=uo ops []
 (List.range is.length).all fun kx=>match ops[kx]?,is[kx]? with
  | some o,some x=>(o.after.toList.all fun e=>!Region.binds .any e||decide (e.on<kx)) &&
   (List.range kx).all fun ky=>(ms.getD kx 0).testBit ky||match is[ky]? with | some y=>Mf is ky kx y x | none=>false
  | _,_=>false
def Ju (ops:List Oper) (L:Nat→Prop):Prop:=∀(k:Nat) o,ops[k]? = some o→L k→∀e∈o.after.toList,Region.binds .any e=true→L e.on
def yw (ops:List Oper) (acc:List Nat):Prop:=
 ∀(k m:Nat),acc[k]? = some m→∀o,ops[k]? = some o→∀L,Ju ops L→(∀e∈o.after.toList,Region.binds .any e=true→L e.on)→∀y,m.testBit y=true→L y
theorem Hq {ops:List Oper} {acc:List Nat} (hl:acc.length≤ops.length) (hg:yw ops acc) {L:Nat→Prop} (hL:Ju ops L) (es:List Edge) (hes:∀e∈es,Region.binds .any e=true→L e.on) (y:Nat)
 (hy:(es.foldr (fun e m=>if Region.binds .any e then m ||| (1 <<< e.on) ||| acc.getD e.on 0 else m) 0).testBit y=true):L y:=by
 induction es with
 | nil=>simp at hy
 | cons e es ih=>
  have ih':=ih fun e' he'=>hes e' (by simp [he'])
  simp only [List.foldr_cons] at hy
  split at hy
  ·rename_i hb
   simp only [Nat.testBit_or,Bool.or_eq_true] at hy;have he:=hes e (by simp) hb
   rcases hy with (hy | hy) | hy
   ·exact ih' hy
   ·have:e.on=y:=by
     rw [Nat.shiftLeft_eq,Nat.one_mul,Nat.testBit_two_pow] at hy
     simpa using hy
    exact this▸he
   ·by_cases hk:e.on<acc.length
    ·have h1:acc[e.on]? = some acc[e.on]:=ao hk
     have h2:acc.getD e.on 0=acc[e.on]:=by simp [bt,h1]
     have h3:ops[e.on]? = some ops[e.on]:=ao (by omega)
     rw [h2] at hy;exact hg e.on _ h1 _ h3 L hL (fun e' he' hb'=>hL e.on _ h3 he e' he' hb') y hy
    ·have h1:acc[e.on]? = none:=c5 (by omega)
     simp [bt,h1] at hy
  ·exact ih' hy
theorem Aa {ops:List Oper}:∀(os:List Oper) (acc:List Nat),(∃pre,ops=pre++os∧pre.length=acc.length)→yw ops acc→yw ops (uo os acc)
 | [],acc,_,hg=>hg
 | o::os,acc,⟨pre,e,hl⟩,hg=>by
  refine Aa os _ ⟨pre++[o],by simp [e],by simp [hl]⟩ ?_
  intro k m hk o' ho' L hL hp y hy;rcases ct k acc.length with h | h
  ·rw [bh h] at hk
   exact hg k m hk o' ho' L hL hp y hy
  ·rw [bk h] at hk
   have hk0:k-acc.length=0:=by
    rcases ia (k-acc.length) with h0 | h0
    ·exact h0
    ·rw [c5 (by simp only [cl,mn]; omega)] at hk; cases hk
   rw [hk0] at hk;simp only [dw,a9] at hk;subst hk;have hkl:k=pre.length:=by omega
   have:o'=o:=by
    rw [e,hkl,bk (az _),tn] at ho'
    simpa using ho'.symm
   subst this;exact Hq (by rw [e]; simp; omega) hg hL _ hp y hy
theorem Lp (ops:List Oper):yw ops (uo ops []):=
 Aa ops [] ⟨[],rfl,rfl⟩ (by intro k m hk; simp at hk)
def t0:Tr:=⟨default,⟨[],[]⟩,.off,default⟩
theorem SR.pi {C:Cx} {φ:Loc} {s:St} {tmps:Array Value} (hs:SR C φ s tmps):PI s:=by
 intro n v hn i hi;obtain ⟨u,_,h⟩:=hs.env n v hn;exact RX.refs v u h i hi
theorem SR.sim {C:Cx} {φ:Loc} {s t:St} {tmps:Array Value} (hs:SR C φ s tmps) (h:Sim s t):SR C φ t tmps:=
 ⟨h.h▸hs.hr,hs.bd,fun n v hn=>by rw [←h.e n] at hn; rw [←h.h]; exact hs.env n v hn⟩
theorem getD_some {α:Type} {l:List α} {d:α} {k:Nat} {x:α} (h:l[k]? = some x):l.getD k d=x:=by
 rw [bt,h]; rfl
theorem P8 {O:ah} {ops:Array Oper} {N np:Nat} {Q:Exit→Act→World→Prop} {is:List Ins} (hok:uh P num ops N is ops.toList=true) (hdr:L2 ops.toList is=true) (hO:jp P num O)
 {L:List Tr} (hL:L.map (·.i)=is) (hV:∀t∈L,t.Valid O np) {s0 s':St} (hseq:Seq L s0 s') :
 ∀(fuel:Nat) (listed:Array Bool) (rem:List Nat) (C:Cx) (φ:Loc) (s:St) (a:Act),rem.length=fuel→rem.Pairwise (· < ·)→listed.size=ops.size→(∀j,j∈rem↔listed[j]? = some false) →
 Ju ops.toList (fun j=>listed[j]? = some true)→C.num=num→SR C φ s a.tmps→N≤a.tmps.size→Chain (rem.map fun k=>L.getD k t0) s s' →
 (∀C' φ' a',C'.num=num→Runs np C C' φ φ' s.h s'.h→SR C' φ' s' a'.tmps→a'.tmps.size=a.tmps.size→a'.defers=a.defers→Q .normal a' C'.w)→wpAny P .any ops Q fuel listed a C.w:=by
 obtain ⟨hlen,hget⟩:=qk hok;have hLlen:L.length=is.length:=by rw [←hL]; simp
 have hol:ops.toList.length=ops.size:=by simp
 intro fuel
 induction fuel with
 | zero=>
  intro listed rem C φ s a hrl _ _ hrem _ hC hs hN hch hQ;have:rem=[]:=ez.1 hrl;subst this;simp only [iu,Chain] at hch;refine ⟨?_,?_⟩
  ·apply List.eq_nil_iff_forall_not_mem.2
   intro j hj;have h1:=(mem_ready.1 hj).1
   have:listed[j]? = some false:=by
    cases hq:listed[j]? with
    | none=>rw [cw,hq] at h1; cases h1
    | some b=>rw [cw,hq] at h1; simpa using h1
   have:=(hrem j).2 this;simp at this
  ·refine hQ C φ a hC ?_ (hs.sim hch) rfl rfl
   rw [←hch.h];exact .refl np hs.hr hs.bd
 | succ fuel ih=>
  intro listed rem C φ s a hrl hsort hsz hrem hcl hC hs hN hch hQ
  have hlt:∀j,j∈rem→j<ops.size:=by
   intro j hj;have:=(hrem j).1 hj;rw [←hsz]; exact (cj.1 this).1
  -- a line's facts
  have hline:∀j,j<ops.size→∃t i o,L[j]? = some t∧is[j]? = some i∧t.i=i∧ops[j]? = some o∧t.Valid O np∧E1 P num ops N i o=true:=by
   intro j hj;have hjL:j<L.length:=by omega
   have e1:L[j]? = some L[j]:=ao hjL;have e2:is[j]? = some L[j].i:=by rw [←hL,d8,e1]; rfl
   have e3:ops.toList[j]? = some ops.toList[j]:=ao (by omega)
   exact ⟨L[j],L[j].i,ops.toList[j],e1,e2,rfl,by simp,hV _ (ce hjL),hget j _ _ e2 e3⟩
  have hdr':∀kx,kx<ops.size→∀o x,ops[kx]? = some o→is[kx]? = some x→(∀e∈o.after.toList,Region.binds .any e=true→e.on<kx)∧∀ky,ky<kx→((uo ops.toList []).getD kx 0).testBit ky=true∨∃y,is[ky]? = some y∧Mf is ky kx y x=true:=by
   intro kx hkx o x ho hx;unfold L2 at hdr;have h1:=dq.1 hdr kx (ef.2 (by omega))
   have ho':ops.toList[kx]? = some o:=by simpa using ho
   rw [ho',hx] at h1;simp only [al] at h1;refine ⟨fun e he hb=>?_,fun ky hky=>?_⟩
   ·have:=dq.1 h1.1 e he
    simpa [hb] using this
   ·have:=dq.1 h1.2 ky (ef.2 hky)
    simp only [Bool.or_eq_true] at this;refine this.imp id fun h=>?_
    split at h
    ·rename_i y hy; exact ⟨y,hy,h⟩
    ·cases h
  refine ⟨fun h0=>?_,fun i hi=>?_⟩
  ·-- the first line that is left is ready
   exfalso;cases rem with
   | nil=>simp at hrl
   | cons r rem=>
    have hr:r<ops.size:=hlt r (by simp)
    obtain ⟨t,ir,o,e1,e2,e3,e4,_⟩:=hline r hr
    have hmem:r∈Region.ready .any ops listed:=by
     rw [mem_ready];have h1:=(hrem r).1 (by simp)
     refine ⟨by rw [cw,h1]; rfl,o,e4,fun e he hb=>?_⟩
     have hon:=(hdr' r hr o ir e4 e2).1 e (by simpa using he) hb
     have hnot:e.on ∉ r::rem:=by
      intro hm;rcases da.1 hm with rfl | hm
      ·omega
      ·have:=List.rel_of_pairwise_cons hsort hm
       omega
     have hin:e.on<listed.size:=by omega
     have h2:listed[e.on]? = some listed[e.on]:=ik hin;rw [cw,h2];cases hq:listed[e.on] with
     | true=>rfl
     | false=>exact absurd ((hrem e.on).2 (by rw [h2,hq])) hnot
    rw [h0] at hmem;simp at hmem
  ·obtain ⟨hun,o,ho,hpre⟩:=mem_ready.1 hi
   have hil:i<ops.size:=(cj.1 ho).1
   have hif:listed[i]? = some false:=by
    have h2:listed[i]? = some (listed[i]'(by omega)):=ik (by omega)
    rw [cw,h2] at hun;rw [h2]; exact congrArg some hun
   have hirem:=(hrem i).2 hif;obtain ⟨pre,post,rfl⟩:=List.append_of_mem hirem;obtain ⟨t,ii,o',e1,e2,e3,e4,e5,e6⟩:=hline i hil;obtain rfl:o'=o:=av (e4.symm.trans ho)
   have hpreL:∀e∈o'.after.toList,Region.binds .any e=true→listed[e.on]? = some true:=by
    intro e he hb;have:=hpre e (by simpa using he) hb
    cases hq:listed[e.on]? with
    | none=>rw [cw,hq] at this; cases this
    | some b=>rw [cw,hq] at this; simpa using this
   have hsort':=f0.1 hsort
   have hind:∀y∈pre,Ind (L.getD y t0) (L.getD i t0):=by
    intro y hy;have hyi:y<i:=hsort'.2.2 y hy i (by simp)
    have hyrem:y∈pre++i::post:=by simp [hy]
    obtain ⟨ty,iy,oy,y1,y2,y3,y4,y5,y6⟩:=hline y (by omega)
    rcases (hdr' i hil o' ii ho e2).2 y hyi with h1 | ⟨y',h1,h2⟩
    ·exfalso
     have hm:(uo ops.toList [])[i]? = some ((uo ops.toList []).getD i 0):=by
      cases hq:(uo ops.toList [])[i]? with
      | none=>rw [bt,hq] at h1; simp at h1
      | some m=>rw [getD_some hq]
     have:=Lp ops.toList i _ hm o' (by simpa using ho) _ hcl hpreL y h1
     rw [(hrem y).1 hyrem] at this;cases this
    ·obtain rfl:y'=iy:=av (h1.symm.trans y2)
     rw [getD_some y1,getD_some e1];unfold Mf at h2;simp only [al] at h2;obtain ⟨p1,p2⟩:=h2;rw [←y3,←e3] at p1 p2;refine ⟨p1,?_⟩
     split at p2
     ·rename_i hc
      exact ⟨false,hc,by simp⟩
     ·rename_i hc
      refine ⟨true,hc,fun _=>?_⟩
      simp only [al] at p2;obtain ⟨q1,q2⟩:=p2
      -- the text between them
      have hyl:y<L.length:=by omega
      have hil':i<L.length:=by omega
      have split1:L=L.take y++L[y]::(((L.drop (y+1)).take (i-y-1))++L[i]::L.drop (i+1)):=by
       have s1:L.drop (y+1)=(L.drop (y+1)).take (i-y-1)++(L.drop (y+1)).drop (i-y-1):=(fe _ _).symm
       have s2:(L.drop (y+1)).drop (i-y-1)=L[i]::L.drop (i+1):=by
        rw [f8,show y+1+(i-y-1)=i by omega,bv hil']
       have s3:L.drop (y+1)=(L.drop (y+1)).take (i-y-1)++L[i]::L.drop (i+1):=s1.trans (by rw [s2])
       have s4:L=L.take y++L[y]::L.drop (y+1):=by rw [←bv hyl,fe]
       exact s4.trans (congrArg (fun q=>L.take y++L[y]::q) s3)
      have ey:L[y]=ty:=av ((ao hyl).symm.trans y1);have ei:L[i]=t:=av ((ao hil').symm.trans e1);rw [ey,ei] at split1;have hseq':=hseq;rw [split1] at hseq';refine Seq.apart hseq' ?_ ?_
      ·intro z hz
       have hz':z∈(L.drop y).take (i-y):=by
        rw [bv hyl,ey,show i-y=(i-y-1)+1 by omega,ee]
        exact hz
       have hzi:z.i∈(is.drop y).take (i-y):=by
        rw [←hL,←List.map_drop,←List.map_take];exact List.mem_map_of_mem hz'
       have:=dq.1 q2 z.i hzi
       simpa using this
      ·intro n hn
       have:=dq.1 q1 n hn
       simpa using this
     ·cases p2
   have hvp:∀t∈pre.map (fun k=>L.getD k t0),t.Valid O np:=by
    intro t ht;obtain ⟨y,hy,rfl⟩:=cb.1 ht;obtain ⟨ty,_,_,y1,_,_,_,y5,_⟩:=hline y (hlt y (by simp [hy]))
    rw [getD_some y1]; exact y5
   rw [gq,fj] at hch
   obtain ⟨hag,hch'⟩:=Xm (by rw [getD_some e1]; exact e5) hs.pi hvp hch (by
    intro t ht;obtain ⟨y,hy,rfl⟩:=cb.1 ht;exact hind y hy)
   rw [getD_some e1] at hag hch';have hex:=e5.exec s hag;rw [e3] at hex;refine zo (hC▸hO) hs hN (hC▸e6) ho hex fun C' φ' u rn hs'=>?_
   have hC':C'.num=num:=rn.st.le.num.trans hC;have hnd:(pre++i::post).Nodup:=hsort.imp fun h=>by omega
   have hgetset:∀j:Nat,(listed.setIfInBounds i true)[j]? = if j=i then some true else listed[j]?:=by
    intro j;rw [gr]
    by_cases hij:i=j
    ·subst hij; simp [hsz,hil]
    ·rw [if_neg hij,if_neg (ig hij)]
   refine ih (listed.setIfInBounds i true) (pre++post) C' φ' _ _ (by simp at hrl ⊢; omega) ?_ (by simpa using hsz) ?_ ?_ hC' hs' (by rw [pe]; exact hN) (by rw [gq]; exact hch') ?_
   ·exact hsort.sublist (List.Sublist.append (List.Sublist.refl _) (List.sublist_cons_self _ _))
   ·intro j
    rw [hgetset]
    by_cases hij:j=i
    ·subst hij
     rw [if_pos rfl];refine ⟨fun h=>?_,fun h=>by cases h⟩
     have hn:=List.nodup_append.1 hnd;rcases ba.1 h with h | h
     ·exact absurd rfl (hn.2.2 j h j (by simp))
     ·exact absurd h (im.1 hn.2.1).1
    ·rw [if_neg hij,←hrem j]
     simp [hij]
   ·intro k o2 hk hkl e he hb
    rw [hgetset] at hkl ⊢
    by_cases hei:e.on=i
    ·rw [if_pos hei]
    ·rw [if_neg hei]
     by_cases hki:k=i
     ·subst hki
      have:o2=o':=by
       have h2:ops[k]? = some o2:=by simpa using hk
       exact av (h2.symm.trans ho)
      subst this;exact hpreL e he hb
     ·rw [if_neg hki] at hkl
      exact hcl k o2 hk hkl e he hb
   ·intro C2 φ2 a2 h2 rn2 hs2 z2 d2
    refine hQ C2 φ2 a2 h2 (rn.trans rn2) hs2 (by rw [z2,pe]) ?_
    rw [d2];cases o'.dst <;> rfl
end Pe

namespace Pe
open Go
variable {P:Program} {num:Nat→Nat}
def gj (P:Program) (num:Nat→Nat) (N:Nat):Cd→Code→Bool
 | .skip,.skip=>true
 | .region is _,.region _ ops draw=>uh P num ops N is ops.toList&&(if draw then L2 ops.toList is else true)
 | .seq a b,.seq x y=>gj P num N a x&&gj P num N b y
 | .cond c a b,.cond c' x y=>ca num c c'&&gj P num N a x&&gj P num N b y
 | .block i c,.block j x=>i == j&&gj P num N c x
 | .loop c,.loop x=>gj P num N c x
 | .exit i,.exit j=>i == j
 | .ret,.ret=>true
 | _,_=>false
def Out.exit':Out→Exit
 | .normal=>.normal
 | .exit id=>.exit id
 | .ret=>.ret
def Vs (num:Nat→Nat) (np:Nat) (Q:Exit→Act→World→Prop) (o:Out) (C:Cx) (φ:Loc) (h:Heap) (s':St) (a:Act):Prop:=
 ∀C' φ' a',C'.num=num→Runs np C C' φ φ' h s'.h→SR C' φ' s' a'.tmps→a'.tmps.size=a.tmps.size→a'.defers=a.defers→Q o.exit' a' C'.w
theorem G3 {O:ah} {np N:Nat} (hO:jp P num O) (hm:P.follows .mixedOrders=true) {is:List Ins} {ks:List Nat} {id:Nat} {ops:Array Oper} {draw:Bool} (hok:gj P num N (.region is ks) (.region id ops draw)=true)
 {C:Cx} {φ:Loc} {s s1:St} {a:Act} (hC:C.num=num) (hs:SR C φ s a.tmps) (hN:N≤a.tmps.size) (he:em O np is s=some s1) {Q:Exit→Act→World→Prop}
 (hQ:Vs num np Q .normal C φ s.h ⟨s1.e.keep ks,pa (s1.e.keep ks) np 0 s1.h⟩ a):(Code.region id ops draw).wp P Q a C.w:=by
 simp only [gj,al] at hok;obtain ⟨hok,hdr⟩:=hok;have hlen:=(qk hok).1
 have hend:∀C' φ' a',C'.num=num→Runs np C C' φ φ' s.h s1.h→SR C' φ' s1 a'.tmps→a'.tmps.size=a.tmps.size→a'.defers=a.defers→Q .normal a' C'.w:=by
  intro C' φ' a' h1 h2 h3 h4 h5;obtain ⟨r1,r2⟩:=Cr np h3 ks;exact hQ C' φ' a' h1 (h2.trans r1) r2 h4 h5
 cases draw with
 | false=>
  refine wp_region ?_;have:=E8 (Q:=Q) hok hO is.length 0 (by omega) C φ s s1 a hC hs hN (by simpa using he) hend
  rw [hlen] at this;rw [List.range_eq_range']
  simpa using this
 | true=>
  simp only [if_true] at hdr;refine wp_region_any hm ?_;obtain ⟨st,k⟩:=Pc (w':={ C.w with drawn:=C.w.drawn+1 }) hs.hr hs.bd ⟨rfl,rfl,rfl,rfl⟩
  have hs':SR { C with w:={ C.w with drawn:=C.w.drawn+1 } } φ s a.tmps:=⟨st.hr,st.bd,fun n v hn=>by
   obtain ⟨u,h1,h2⟩:=hs.env n v hn;exact ⟨u,h1,k v u (by simp) h2⟩⟩
  obtain ⟨L,g1,g2,g3⟩:=T5 he
  have hLl:L.length=ops.size:=by
   have:L.length=is.length:=by rw [←g1]; simp
   rw [this,hlen]; simp
  refine P8 (s0:=s) (s':=s1) hok hdr hO g1 g2 g3 ops.size (Array.replicate ops.size false) (List.range ops.size) { C with w:={ C.w with drawn:=C.w.drawn+1 } } φ s a (by simp) List.pairwise_lt_range (by simp) ?_ ?_ hC hs' hN ?_ ?_
  ·intro j
   rw [ef,Array.getElem?_replicate]
   split <;> simp_all
  ·intro k o hk hkl
   rw [Array.getElem?_replicate] at hkl
   split at hkl <;> simp at hkl
  ·have:(List.range ops.size).map (fun k=>L.getD k t0)=L:=by
    apply d9;intro i;rw [d8]
    by_cases hi:i<ops.size
    ·rw [gu hi,bw,ao (by omega)]
     rw [getD_some (ao (by omega))]
    ·rw [c5 (by simpa using hi),c5 (by omega)]; rfl
   rw [this];exact g3.chain
  ·intro C' φ' a' h1 h2 h3 h4 h5
   exact hend C' φ' a' h1 (Runs.trans ⟨st,k.mono (by simp)⟩ h2) h3 h4 h5
theorem Ow {p:Nat→Prop}:∀{m:Nat},p m→∃m,p m∧∀k,p k→m≤k:=by
 intro m
 induction m using Nat.strongRecOn with
 | _ m ih=>
  intro h
  by_cases hx:∃k,k<m∧p k
  ·obtain ⟨k,hk,hp⟩:=hx
   exact ih k hk hp
  ·exact ⟨m,h,fun k hk=>Nat.le_of_not_lt fun hl=>hx ⟨k,hl,hk⟩⟩
theorem Ql {c:Code} {Q:Exit→Act→World→Prop} (R:Nat→Act→World→Prop) (round:∀m a w,R m a w→c.wp P (Exit.then (fun a' w'=>∃m',m'<m∧R m' a' w') Q) a w) {m:Nat} {a:Act} {w:World} (h0:R m a w) :
 (Code.loop c).wp P Q a w:=by
 have hl:∀a w,(∃m,R m a w)→∃m,R m a w∧∀k,R k a w→m≤k:=fun a w ⟨m,h⟩=>Ow (p:=fun m=>R m a w) h
 let μ:Act→World→Nat:=fun a w=>by
  classical
  exact if h:∃m,R m a w then Classical.choose (hl a w h) else 0
 have hμ:∀a w,(∃m,R m a w)→R (μ a w) a w∧∀k,R k a w→μ a w≤k:=by
  intro a w h;have:=ci (hl a w h);simp only [μ,h,dite_true];exact this
 refine wp_loop (fun a w=>∃m,R m a w) μ ⟨m,h0⟩ fun a w hI=>?_
 refine wp_mono (round (μ a w) a w (hμ a w hI).1) fun e a' w' hq=>?_
 cases e with
 | normal=>
  obtain ⟨m',hm',hR⟩:=hq;exact ⟨⟨m',hR⟩,Nat.lt_of_le_of_lt ((hμ a' w' ⟨m',hR⟩).2 m' hR) hm'⟩
 | _=>exact hq
theorem rp {O:ah} {np N:Nat} (hO:jp P num O) (hm:P.follows .mixedOrders=true) (n:Nat):∀(c:Cd) (x:Code),gj P num N c x=true→∀(C:Cx) (φ:Loc) (s s':St) (a:Act) (o:Out),C.num=num→SR C φ s a.tmps→N≤a.tmps.size →
 cr O np n c s=some (o,s')→∀(Q:Exit→Act→World→Prop),Vs num np Q o C φ s.h s' a→x.wp P Q a C.w:=by
 intro c
 induction c with
 | skip=>
  intro x hok C φ s s' a o hC hs hN he Q hQ;cases x <;> simp only [gj,au] at hok
  simp only [cr,a9,ae] at he;obtain ⟨rfl,rfl⟩:=he;exact wp_skip (hQ C φ a hC (.refl np hs.hr hs.bd) hs rfl rfl)
 | ret=>
  intro x hok C φ s s' a o hC hs hN he Q hQ;cases x <;> simp only [gj,au] at hok
  simp only [cr,a9,ae] at he;obtain ⟨rfl,rfl⟩:=he;exact wp_ret (hQ C φ a hC (.refl np hs.hr hs.bd) hs rfl rfl)
 | exit id=>
  intro x hok C φ s s' a o hC hs hN he Q hQ;cases x <;> simp only [gj,au] at hok
  rename_i j
  have:id=j:=by simpa using hok
  subst this;simp only [cr,a9,ae] at he;obtain ⟨rfl,rfl⟩:=he;exact wp_exit (hQ C φ a hC (.refl np hs.hr hs.bd) hs rfl rfl)
 | region is ks=>
  intro x hok C φ s s' a o hC hs hN he Q hQ;cases x <;> simp only [gj,au] at hok
  simp only [cr] at he;obtain ⟨s1,h1,e⟩:=ab.1 he;simp only [ae] at e;obtain ⟨rfl,rfl⟩:=e;exact G3 hO hm (by simpa only [gj] using hok) hC hs hN h1 hQ
 | seq c d ihc ihd=>
  intro x hok C φ s s' a o hC hs hN he Q hQ;cases x <;> simp only [gj,au,al] at hok
  simp only [cr] at he;obtain ⟨⟨o1,s1⟩,h1,he⟩:=a8.1 he;refine wp_seq (ihc _ hok.1 C φ s s1 a o1 hC hs hN h1 _ ?_);intro C1 φ1 a1 k1 r1 hs1 z1 d1;cases o1 with
  | normal=>
   simp only at he;refine ihd _ hok.2 C1 φ1 s1 s' a1 o k1 hs1 (by rw [z1]; exact hN) he Q ?_
   intro C2 φ2 a2 k2 r2 hs2 z2 d2;exact hQ C2 φ2 a2 k2 (r1.trans r2) hs2 (z2.trans z1) (d2.trans d1)
  | exit id=>
   simp only [a9,ae] at he;obtain ⟨rfl,rfl⟩:=he;exact hQ C1 φ1 a1 k1 r1 hs1 z1 d1
  | ret=>
   simp only [a9,ae] at he;obtain ⟨rfl,rfl⟩:=he;exact hQ C1 φ1 a1 k1 r1 hs1 z1 d1
 | cond q c d ihc ihd=>
  intro x hok C φ s s' a o hC hs hN he Q hQ;cases x <;> simp only [gj,au,al] at hok
  simp only [cr] at he
  split at he
  ·rename_i t ht
   have hb:=Gm (bi hs (hC▸hok.1.1) ht);cases t with
   | true=>exact wp_cond_true hb (ihc _ hok.1.2 C φ s s' a o hC hs hN (by simpa using he) Q hQ)
   | false=>exact wp_cond_false hb (ihd _ hok.2 C φ s s' a o hC hs hN (by simpa using he) Q hQ)
  ·cases he
 | block id c ihc=>
  intro x hok C φ s s' a o hC hs hN he Q hQ;cases x <;> simp only [gj,au,al] at hok
  rename_i j d
  obtain ⟨hij,hok⟩:=hok;have:id=j:=by simpa using hij
  subst this;simp only [cr] at he;obtain ⟨⟨o1,s1⟩,h1,he⟩:=ab.1 he;refine wp_block (ihc _ hok C φ s s1 a o1 hC hs hN h1 _ ?_);intro C1 φ1 a1 k1 r1 hs1 z1 d1;cases o1 with
  | normal=>
   simp only [ae] at he;obtain ⟨rfl,rfl⟩:=he;exact hQ C1 φ1 a1 k1 r1 hs1 z1 d1
  | exit i=>
   simp only at he;simp only [Out.exit',Exit.inBlock]
   split at he
   ·rename_i hi
    rw [if_pos hi];simp only [ae] at he;obtain ⟨rfl,rfl⟩:=he;exact hQ C1 φ1 a1 k1 r1 hs1 z1 d1
   ·rename_i hi
    rw [if_neg hi];simp only [ae] at he;obtain ⟨rfl,rfl⟩:=he;exact hQ C1 φ1 a1 k1 r1 hs1 z1 d1
  | ret=>
   simp only [ae] at he;obtain ⟨rfl,rfl⟩:=he;exact hQ C1 φ1 a1 k1 r1 hs1 z1 d1
 | loop c ihc=>
  intro x hok C φ s s' a o hC hs hN he Q hQ;cases x <;> simp only [gj,au] at hok
  rename_i d
  simp only [cr] at he;refine Ql (fun m a1 w=>∃C1 φ1 s1,C1.w=w∧C1.num=num∧Runs np C C1 φ φ1 s.h s1.h∧SR C1 φ1 s1 a1.tmps∧a1.tmps.size=a.tmps.size∧a1.defers=a.defers∧t9 (cr O np n c) m s1=some (o,s')) ?_ (m:=n) ⟨C,φ,s,rfl,hC,.refl np hs.hr hs.bd,hs,rfl,rfl,he⟩
  rintro m a1 w ⟨C1,φ1,s1,rfl,k1,r1,hs1,z1,d1,hit⟩
  cases m with
  | zero=>simp [t9] at hit
  | succ m=>
   simp only [t9] at hit;obtain ⟨⟨o2,s2⟩,h2,hit⟩:=a8.1 hit;refine ihc _ hok C1 φ1 s1 s2 a1 o2 k1 hs1 (by rw [z1]; exact hN) h2 _ ?_
   intro C2 φ2 a2 k2 r2 hs2 z2 d2;cases o2 with
   | normal=>exact ⟨m,Nat.lt_succ_self m,C2,φ2,s2,rfl,k2,r1.trans r2,hs2,z2.trans z1,d2.trans d1,hit⟩
   | exit id=>
    simp only [a9,ae] at hit;obtain ⟨rfl,rfl⟩:=hit;exact hQ C2 φ2 a2 k2 (r1.trans r2) hs2 (z2.trans z1) (d2.trans d1)
   | ret=>
    simp only [a9,ae] at hit;obtain ⟨rfl,rfl⟩:=hit;exact hQ C2 φ2 a2 k2 (r1.trans r2) hs2 (z2.trans z1) (d2.trans d1)
end Pe

namespace Pe
open Go
variable {P:Program} {num:Nat→Nat}
def Ny (P:Program):Res→ResultVar→Bool
 | .tmp n,.tmp m=>n == m
 | .cell n s,.cell m t=>n == m&&mh P t s
 | _,_=>false
def xm (P:Program):List Res→List ResultVar→Bool
 | [],[]=>true
 | r::rs,v::vs=>Ny P r v&&xm P rs vs
 | _,_=>false
def Cm (tmps:Array Value):ResultVar→Sem Value
 | .tmp t=>pure (tmps.getD t undef)
 | .cell a t=>do loadVar t (←asAddr (tmps.getD a undef))
theorem Mu (fn:Func) (tmps:Array Value):Go.results fn tmps=(do
 let vs ←fn.results.mapM (Cm tmps)
 pure (if h:vs.size=1 then vs[0] else .tuple vs)):=rfl
theorem Qn {C:Cx} {φ:Loc} {s:St} {tmps:Array Value} (hs:SR C φ s tmps) {r:Res} {rv:ResultVar} (hok:Ny P r rv=true) {v:V} (hv:L0 s r=some v) :
 ∃u,(Cm tmps rv).run P C.w=.ok u C.w∧RX C φ s.h v u:=by
 cases r with
 | tmp n=>
  cases rv <;> simp only [Ny,au] at hok
  rename_i m
  have hnm:n=m:=by simpa using hok
  subst hnm;simp only [L0] at hv;obtain ⟨u,hu,h⟩:=hs.env n v hv;exact ⟨u,by simp [Cm,hu],h⟩
 | cell n sh=>
  cases rv <;> simp only [Ny,au,al] at hok
  rename_i m t
  have hnm:n=m:=by simpa using hok.1
  subst hnm;simp only [L0] at hv
  split at hv
  ·rename_i i p hp
   obtain ⟨d,hd,hv⟩:=a8.1 hv;obtain ⟨B,hB,hg⟩:=a8.1 hd
   split at hv
   ·rename_i hsh
    obtain rfl:=av hv;obtain rfl:=Sh.beq_eq _ _ hsh;obtain ⟨u,hu,hx⟩:=hs.env n _ hp;simp only [RX] at hx;obtain ⟨B',b,off,q,hB',hφ,hq,e⟩:=hx;obtain rfl:B=B':=av (hB.symm.trans hB');obtain ⟨b',o',off',cs,hφ',ho',hx,hc⟩:=rx (hs.hr.blk i B hB) hg;obtain ⟨rfl,rfl⟩:b=b'∧off=o':=by simpa using hφ.symm.trans hφ'
    have e2:=hq.symm.trans ho';simp only [a9] at e2;subst e2;obtain ⟨u',hrun,hu'⟩:=Di (P:=P) hok.2 hc hx;refine ⟨u',?_,by simpa only [RX] using hu'⟩
    simp [Instr.loadAt,Instr.sureAddr] at hrun;simp [Cm,hu,e,asAddr,hrun]
   ·cases hv
  ·cases hv
theorem Dj {C:Cx} {φ:Loc} {s:St} {tmps:Array Value} (hs:SR C φ s tmps):∀{rs:List Res} {rvs:List ResultVar},xm P rs rvs=true→∀{vs:List V},tr s rs=some vs →
 ∃us,(rvs.mapM (Cm tmps)).run P C.w=.ok us C.w∧RXs C φ s.h vs us
 | [],[],_,vs,hv=>by
  simp only [tr,a9] at hv; subst hv;exact ⟨[],by simp,by simp [RXs]⟩
 | r::rs,rv::rvs,hok,vs,hv=>by
  simp only [xm,al] at hok;simp only [tr] at hv;obtain ⟨v,h1,hv⟩:=a8.1 hv;obtain ⟨vs',h2,rfl⟩:=ab.1 hv;obtain ⟨u,g1,g2⟩:=Qn hs hok.1 h1;obtain ⟨us,g3,g4⟩:=Dj hs hok.2 h2;exact ⟨u::us,by simp [g1,g3],by simp only [RXs]; exact ⟨u,us,rfl,g2,g4⟩⟩
 | [],_::_,hok,_,_=>by simp [xm] at hok
 | _::_,[],hok,_,_=>by simp [xm] at hok
def Am (P:Program) (num:Nat→Nat) (fn:Fn) (g:Func):Bool:=
 g.name != "runtime.NumGoroutine" && decide (fn.nparams ≤ g.ntmps) && xm P fn.results g.results.toList &&
 (match g.body with
  | some c=>gj P num g.ntmps fn.body c
  | none=>false)
theorem xo {C:Cx} {φ:Loc} {h:Heap}:∀{vs:List V} {us:List Value},RXs C φ h vs us→us.length=vs.length
 | [],us,g=>by simp only [RXs] at g; subst g; rfl
 | v::vs,us,g=>by
  simp only [RXs] at g;obtain ⟨u,r,rfl,_,g2⟩:=g;simp [xo g2]
theorem Nu {C:Cx} {φ:Loc} {h:Heap}:∀{vs:List V} {us:List Value} {k:Nat} {v:V},RXs C φ h vs us→vs[k]? = some v→∃u,us[k]? = some u∧RX C φ h v u
 | [],us,k,v,_,hk=>by simp at hk
 | x::vs,us,k,v,g,hk=>by
  simp only [RXs] at g;obtain ⟨u,r,rfl,g1,g2⟩:=g;cases k with
  | zero=>simp at hk; subst hk; exact ⟨u,rfl,g1⟩
  | succ k=>simpa using Nu g2 (by simpa using hk)
theorem Bl:∀{vs:List V} {n k:Nat} {v:V},(params n vs).get k=some v→n≤k∧vs[k-n]? = some v
 | [],n,k,v,h=>by simp [params,Env.get] at h
 | x::vs,n,k,v,h=>by
  simp only [params,Env.get] at h
  by_cases hk:n=k
  ·subst hk
   simp only [if_true,a9] at h;subst h;simp
  ·rw [if_neg hk] at h
   obtain ⟨h1,h2⟩:=Bl h;refine ⟨by omega,?_⟩
   rw [show k-n=(k-(n+1))+1 by omega]
   simpa using h2
theorem Uq (fn : Fn) {f : Nat} {g : Func} (hg : P.funcs[num f]? = some g) (hname : g.name ≠ "runtime.NumGoroutine") (hnp : fn.nparams ≤ g.ntmps) (hres : xm P fn.results g.results.toList = true) {code : Code} (hcode : g.body = some code) {vs : List V} {bs : Heap} {ans : Ans} (o : Out) (s' : St)
 (hlen:vs.length=fn.nparams)
 (hrun:(match o with
  | .exit _=>none
  | _=>if s'.h.length=bs.length+fn.nblk then (tr s' fn.results).bind fun rs=>
   let v:=jf rs
   let own:=(pn v.refs).filter (bs.length≤·)
   (s'.h.pick own).map fun nb=>
    (v.ren (fun i=>if i<bs.length then i else bs.length+own.idxOf i),s'.h.take bs.length,nb)
   else none)=some ans)
 (hw:∀(C:Cx) (φ:Loc) (a:Act),C.num=num→SR C φ ⟨params 0 vs,bs++List.replicate fn.nblk .hole⟩ a.tmps→g.ntmps≤a.tmps.size→∀(Q:Exit→Act→World→Prop),Vs num bs.length Q o C φ (bs++List.replicate fn.nblk .hole) s' a→code.wp P Q a C.w)
 {C:Cx} {φ:Loc} {us:List Value} (hC:C.num=num) (hr:HR C φ bs) (hb:∀b,C.I b→b<C.w.heap.size) (hv:RXs C φ bs vs us) :
 ans.2.1.length=bs.length∧N7 P (num f) us C φ bs (ans.2.1++ans.2.2) ans.1:=by
 have hul:=xo hv
 -- what the function begins with
 have hh0:∀i:Nat,i<bs.length→(bs++List.replicate fn.nblk Blk.hole)[i]? = bs[i]?:=fun i hi=>bh hi
 have hh1:∀(i:Nat) (B:Blk),bs.length≤i→(bs++List.replicate fn.nblk Blk.hole)[i]? = some B→B=.hole:=by
  intro i B hi hB;rw [bk hi,List.getElem?_replicate] at hB
  split at hB
  ·exact (av hB).symm
  ·cases hB
 have hr0:HR C φ (bs++List.replicate fn.nblk .hole):=by
  refine ⟨fun i B hB=>?_,fun i j Bi Bj b oi oj hij hi hj hoi hoj hφi hφj=>?_⟩
  ·by_cases hi:i<bs.length
   ·rw [hh0 i hi] at hB; exact hr.blk i B hB
   ·obtain rfl:=hh1 i B (by omega) hB
    trivial
  ·by_cases hi':i<bs.length
   ·by_cases hj':j<bs.length
    ·rw [hh0 i hi'] at hi
     rw [hh0 j hj'] at hj;exact hr.inj i j Bi Bj b oi oj hij hi hj hoi hoj hφi hφj
    ·obtain rfl:=hh1 j Bj (by omega) hj
     simp [Blk.own] at hoj
   ·obtain rfl:=hh1 i Bi (by omega) hi
    simp [Blk.own] at hoi
 have hold:∀v u,RX C φ bs v u→RX C φ (bs++List.replicate fn.nblk .hole) v u:=by
  intro v u gx;refine RX.congr (.refl C) v u (fun i hi B hB=>⟨B,?_,.refl B⟩) (fun _ _=>rfl) (fun _ _ _ _ _=>.of_eq rfl) gx
  rw [hh0 i (ap.1 hB).1]; exact hB
 have hsize:us.toArray.size=fn.nparams:=by simp [hul,hlen]
 have hs0:SR C φ ⟨params 0 vs,bs++List.replicate fn.nblk .hole⟩ (us.toArray++Array.replicate (g.ntmps-us.toArray.size) undef):=by
  refine ⟨hr0,hb,fun n v hn=>?_⟩
  obtain ⟨_,h2⟩:=Bl hn;obtain ⟨u,h3,h4⟩:=Nu hv h2;refine ⟨u,?_,hold v u h4⟩
  have hnl:n<us.toArray.size:=by
   have:=(ap.1 h3).1
   simpa using this
  rw [Array.getElem?_append_left hnl]
  simpa using h3
 have hN:g.ntmps≤(us.toArray++Array.replicate (g.ntmps-us.toArray.size) undef).size:=by
  rw [Array.size_append,Array.size_replicate]; omega
 have hHB:Oe P (num f):=⟨g,hg,hname,by simp [hcode]⟩
 -- the jf
 have hlast:(∃id,o=.exit id)∨(s'.h.length=bs.length+fn.nblk∧∃rs nb,tr s' fn.results=some rs∧s'.h.pick ((pn (jf rs).refs).filter (bs.length≤·))=some nb ∧
  ans=((jf rs).ren (fun i=>if i<bs.length then i else bs.length+((pn (jf rs).refs).filter (bs.length≤·)).idxOf i),s'.h.take bs.length,nb)):=by
  cases o with
  | exit id=>exact .inl ⟨id,rfl⟩
  | normal | ret=>
   right;simp only at hrun
   split at hrun
   ·rename_i hl
    obtain ⟨rs,h1,hrun⟩:=a8.1 hrun;obtain ⟨nb,h2,h3⟩:=ab.1 hrun;exact ⟨hl,rs,nb,h1,h2,h3.symm⟩
   ·cases hrun
 rcases hlast with ⟨id,rfl⟩ | ⟨hl,rs,nb,h1,h2,rfl⟩
 ·simp at hrun
 generalize hown:(pn (jf rs).refs).filter (bs.length≤·)=own at *
 have hownn:own.Nodup:=by rw [←hown]; exact (xq _).filter _
 have hownm:∀i,i∈own↔i∈(jf rs).refs∧bs.length≤i:=by
  intro i;rw [←hown,List.mem_filter,ua];simp
 obtain ⟨pl,pg⟩:=Bu h2;have htl:(s'.h.take bs.length).length=bs.length:=by rw [bp]; omega
 refine ⟨htl,hHB,?_⟩;refine calls_of_wp hg hcode ?_;refine hw C φ _ hC hs0 hN _ ?_;intro C' φ' a' hC' rn hs' _ hdef
 have hfin:∃v,(results g a'.tmps).run P C'.w=.ok v C'.w∧RX C' φ' s'.h (jf rs) v:=by
  obtain ⟨us',g1,g2⟩:=Dj hs' hres h1;have hl2:=xo g2;rw [Mu];refine ⟨if h:us'.toArray.size=1 then us'.toArray[0] else .tuple us'.toArray,?_,?_⟩
  ·simp only [Array.mapM_eq_mapM_toList,Sem.run_bind,Sem.run_map,g1]
   simp
  ·unfold jf
   split
   ·rename_i v
    cases us' with
    | nil=>simp at hl2
    | cons u us'=>
     cases us' with
     | nil=>
      simp only [RXs] at g2;obtain ⟨u0,r,e,g3,g4⟩:=g2;simp only [List.cons.injEq] at e;obtain ⟨rfl,rfl⟩:=e
      simpa using g3
     | cons _ _=>simp at hl2
   ·rename_i hne
    have h1':¬ us'.toArray.size=1:=by
     intro h;have:rs.length=1:=by rw [←hl2]; simpa using h
     match rs,this with
     | [v],_=>exact hne v rfl
    rw [dif_neg h1'];simp only [RX];exact ⟨us'.toArray,rfl,by simpa using g2⟩
 obtain ⟨v,hvr,hvx⟩:=hfin
 -- the blocks that are handed back
 let φ3:Loc:=fun i=>if i<bs.length then φ' i else φ' (own.getD (i-bs.length) 0)
 have src:∀i B,(s'.h.take bs.length++nb)[i]? = some B→∃j,s'.h[j]? = some B∧φ3 i=φ' j∧((i<bs.length∧j=i)∨(bs.length≤i∧own[i-bs.length]? = some j)):=by
  intro i B hB
  by_cases hi:i<bs.length
  ·rw [bh (by omega),dj,if_pos hi] at hB
   exact ⟨i,hB,by simp [φ3,hi],.inl ⟨hi,rfl⟩⟩
  ·rw [bk (by omega),htl] at hB
   have hil:i-bs.length<own.length:=by rw [←pl]; exact (ap.1 hB).1
   have ho:own[i-bs.length]? = some own[i-bs.length]:=ao hil;obtain ⟨B',g1,g2,_⟩:=pg _ _ ho;obtain rfl:B'=B:=av (g2.symm.trans hB);refine ⟨_,g1,?_,.inr ⟨by omega,ho⟩⟩
   simp only [φ3,if_neg hi,getD_some ho]
 have srcinj:∀i i' j,((i<bs.length∧j=i)∨(bs.length≤i∧own[i-bs.length]? = some j))→((i'<bs.length∧j=i')∨(bs.length≤i'∧own[i'-bs.length]? = some j))→i=i':=by
  intro i i' j hi hi';have hge:∀k,own[k]? = some j→bs.length≤j:=fun k hk=>((hownm j).1 (fy hk)).2
  rcases hi with ⟨p1,p2⟩ | ⟨p1,p2⟩ <;> rcases hi' with ⟨q1,q2⟩ | ⟨q1,q2⟩
  ·omega
  ·have:=hge _ q2; omega
  ·have:=hge _ p2; omega
  ·have e1:=ol hownn p2
   have e2:=ol hownn q2;omega
 have hown0:∀b,OwnB φ (bs++List.replicate fn.nblk .hole) b→OwnB φ bs b:=by
  rintro b ⟨i,B,o',hB,ho,hφ⟩
  by_cases hi:i<bs.length
  ·exact ⟨i,B,o',by rw [←hh0 i hi]; exact hB,ho,hφ⟩
  ·obtain rfl:=hh1 i B (by omega) hB
   simp [Blk.own] at ho
 have hown1:∀b,OwnB φ bs b→OwnB φ (bs++List.replicate fn.nblk .hole) b:=by
  rintro b ⟨i,B,o',hB,ho,hφ⟩
  exact ⟨i,B,o',by rw [hh0 i (ap.1 hB).1]; exact hB,ho,hφ⟩
 have post:∃u C2 φ2,Ending.returned v=.returned u∧C2.w=C'.w∧Step C C2 φ φ2 bs (s'.h.take bs.length++nb)∧Keeps C C2 φ φ2 bs (s'.h.take bs.length++nb) (fun _=>False) ∧
  RX C2 φ2 (s'.h.take bs.length++nb) ((jf rs).ren (fun i=>if i<bs.length then i else bs.length+own.idxOf i)) u:=by
  refine ⟨v,C',φ3,rfl,rfl,⟨rn.st.le,fun b hbl hn=>rn.st.kept b hbl fun h=>hn (hown0 b h),fun b h=>?_,?_,rn.st.size,rn.st.os,rn.st.out,rn.st.tape,⟨?_,?_⟩,rn.st.bd⟩,?_,?_⟩
  ·rcases rn.st.fresh b h with h | h | h
   ·exact .inl h
   ·exact .inr (.inl h)
   ·exact .inr (.inr (hown0 b h))
  ·rintro b ⟨i,B,o',hB,ho,hφ⟩
   obtain ⟨j,g1,g2,_⟩:=src i B hB;exact (rn.st.own b ⟨j,B,o',g1,ho,g2.symm.trans hφ⟩).imp (hown0 b) id
  ·intro i B hB
   obtain ⟨j,g1,g2,_⟩:=src i B hB;rw [g2]; exact rn.st.hr.blk j B g1
  ·intro i i' Bi Bj b oi oj hij hi hj hoi hoj hφi hφj
   obtain ⟨j,g1,g2,g3⟩:=src i Bi hi;obtain ⟨j',g1',g2',g3'⟩:=src i' Bj hj;exact rn.st.hr.inj j j' Bi Bj b oi oj (fun e=>hij (srcinj i i' j g3 (e▸g3'))) g1 g1' hoi hoj (g2.symm.trans hφi) (g2'.symm.trans hφj)
  ·intro x u _ hx
   have hlt:∀i∈x.refs,i<bs.length:=fun i hi=>by
    obtain ⟨B,hB,_⟩:=RX.refs x u hx i hi;exact (ap.1 hB).1
   have q:=rn.kp x u (fun i hi hge=>by have:=hlt i hi; omega) (hold x u hx)
   have:=RX.lift (C':=C') (φ':=φ3) (h':=s'.h.take bs.length++nb) (f:=id) (.refl C') x u (Moves.one fun i hi B hB _=>by
    have hi':=hlt i hi;refine ⟨⟨B,?_,.refl B⟩,by simp [φ3,hi'],fun _ _ _=>.of_eq rfl⟩
    simp only [id];rw [bh (by omega),dj,if_pos hi']; exact hB) q
   rwa [V.ren_id (f:=id) x (fun _ _=>rfl)] at this
  ·refine RX.lift (.refl C') (jf rs) v (Moves.one fun i hi B hB hn=>?_) hvx
   by_cases hi':i<bs.length
   ·rw [if_pos hi']
    refine ⟨⟨B,?_,.refl B⟩,by simp [φ3,hi'],fun _ _ _=>.of_eq rfl⟩
    rw [bh (by omega),dj,if_pos hi']; exact hB
   ·rw [if_neg hi']
    have him:i∈own:=(hownm i).2 ⟨hi,by omega⟩
    have ho:=kc him;obtain ⟨B',g1,g2,_⟩:=pg _ _ ho;obtain rfl:B'=B:=av (g1.symm.trans hB);refine ⟨⟨B',?_,.refl B'⟩,?_,fun _ _ _=>.of_eq rfl⟩
    ·rw [bk (by omega),htl,show bs.length+own.idxOf i-bs.length=own.idxOf i by omega]; exact g2
    ·have:¬ bs.length+own.idxOf i<bs.length:=by omega
     simp only [φ3,if_neg this,show bs.length+own.idxOf i-bs.length=own.idxOf i by omega,getD_some ho]
 cases o with
 | exit id=>simp at hrun
 | normal=>exact ⟨by rw [hdef],v,hvr,post⟩
 | ret=>exact ⟨by rw [hdef],v,hvr,post⟩
theorem E7 {O:ah} (hO:jp P num O) (hm:P.follows .mixedOrders=true) {fn:Fn} {f:Nat} {g:Func} (hg:P.funcs[num f]? = some g) (hok:Am P num fn g=true) {k:Nat} {vs:List V} {bs:Heap} {ans:Ans}
 (hrun:run O k fn vs bs=some ans) {C:Cx} {φ:Loc} {us:List Value} (hC:C.num=num) (hr:HR C φ bs) (hb:∀b,C.I b→b<C.w.heap.size) (hv:RXs C φ bs vs us) :
 ans.2.1.length=bs.length∧N7 P (num f) us C φ bs (ans.2.1++ans.2.2) ans.1:=by
 unfold Am at hok;simp only [al,bne_iff_ne,ne_eq,decide_eq_true_eq] at hok;obtain ⟨⟨⟨hname,hnp⟩,hres⟩,hbody⟩:=hok;cases hcode:g.body with
 | none=>rw [hcode] at hbody; cases hbody
 | some code=>
 rw [hcode] at hbody;simp only at hbody;unfold run at hrun
 split at hrun
 case isFalse=>cases hrun
 rename_i hlen
 obtain ⟨⟨o,s'⟩,hev,hrun⟩:=a8.1 hrun;exact Uq fn hg hname hnp hres hcode o s' hlen hrun (fun C φ a hC hs hN Q hQ=>rp (N:=g.ntmps) hO hm k fn.body code hbody C φ _ s' a o hC hs hN hev Q hQ) hC hr hb hv
theorem Af {T:Nat→Option Fn} {A:ah} (hT:∀f fn,T f=some fn→∃g,P.funcs[num f]? = some g∧Am P num fn g=true) (hA:jp P num A) (hm:P.follows .mixedOrders=true):∀k,jp P num (pr T A k)
 | 0=>by intro f vs bs ans h; simp [pr] at h
 | k+1=>by
  intro f vs bs ans h C φ us hC hr hb hv;simp only [pr] at h
  split at h
  ·rename_i fn hfn
   obtain ⟨g,hg,hok⟩:=hT f fn hfn;exact E7 (Af hT hA hm k) hm hg hok h hC hr hb hv
  ·exact hA f vs bs ans h C φ us hC hr hb hv
end Pe

namespace Pe
open Go
abbrev Ec:=Nat×List V×Heap×Ans
def Gives (O:ah) (qs:List Ec):Prop:=∀q∈qs,O q.1 q.2.1 q.2.2.1=some q.2.2.2
theorem Gives.app {O:ah} {qs rs:List Ec}:Gives O (qs++rs)↔Gives O qs∧Gives O rs:=by
 unfold Gives;constructor
 ·exact fun h=>⟨fun q hq=>h q (by simp [hq]),fun q hq=>h q (by simp [hq])⟩
 ·rintro ⟨h1,h2⟩ q hq
  rcases ba.1 hq with hq | hq
  ·exact h1 q hq
  ·exact h2 q hq
def Rests {α:Type} (O:ah) (g:ah→Option α) (r:α):Prop:=∃qs,Gives O qs∧∀O',Gives O' qs→g O'=some r
theorem Rests.const {α:Type} {O:ah} {x:Option α} {r:α} (h:x=some r):Rests O (fun _=>x) r:=⟨[],by simp [Gives],fun _ _=>h⟩
theorem Rests.bind {α β:Type} {O:ah} {g:ah→Option α} {k:α→ah→Option β} {r:α} {r':β} (h:Rests O g r) (h':Rests O (k r) r'):Rests O (fun O'=>(g O').bind fun x=>k x O') r':=by
 obtain ⟨q1,a1,b1⟩:=h;obtain ⟨q2,a2,b2⟩:=h';refine ⟨q1++q2,Gives.app.2 ⟨a1,a2⟩,fun O' hO'=>?_⟩
 obtain ⟨c1,c2⟩:=Gives.app.1 hO'
 dsimp only
 rw [b1 O' c1];exact b2 O' c2
theorem Si {O:ah} {np:Nat} {e:Env} {h:Heap} {p:Op} {r:V×Heap} (he:aq O np e h p=some r):Rests O (fun O'=>aq O' np e h p) r:=by
 cases p with
 | call m news f xs=>
  simp only [aq] at he;obtain ⟨fv,hf,he⟩:=a8.1 he;obtain ⟨g,hg,he⟩:=a8.1 he;obtain ⟨vs,hv,he⟩:=a8.1 he
  have pure:∀m,fu O m h g.1 (g.2.1++vs++g.2.2)=some r→∃q:Ec,O q.1 q.2.1 q.2.2.1=some q.2.2.2∧∀O':ah,O' q.1 q.2.1 q.2.2.1=some q.2.2.2→fu O' m h g.1 (g.2.1++vs++g.2.2)=some r:=by
   intro m he;unfold fu at he;obtain ⟨ds,hds,he⟩:=a8.1 he;obtain ⟨ans,hans,he⟩:=a8.1 he;refine ⟨(g.1,ds.map .d,[],ans),hans,fun O' hO'=>?_⟩
   unfold fu;rw [hds,ac];simp only at hO';rw [hO',ac];exact he
  have heap:k9 O np news h g.1 (g.2.1++vs++g.2.2)=some r→∃q:Ec,O q.1 q.2.1 q.2.2.1=some q.2.2.2∧∀O':ah,O' q.1 q.2.1 q.2.2.1=some q.2.2.2→k9 O' np news h g.1 (g.2.1++vs++g.2.2)=some r:=by
   intro he;unfold k9 at he;simp only at he;obtain ⟨bs,hbs,he⟩:=a8.1 he;obtain ⟨ans,hans,he⟩:=a8.1 he;refine ⟨(g.1,_,bs,ans),hans,fun O' hO'=>?_⟩
   unfold k9;simp only;rw [hbs,ac];simp only at hO';rw [hO',ac];exact he
  have fin:∀(c:ah→Option (V×Heap)),(∃q:Ec,O q.1 q.2.1 q.2.2.1=some q.2.2.2∧∀O':ah,O' q.1 q.2.1 q.2.2.1=some q.2.2.2→c O'=some r)→(∀O',aq O' np e h (.call m news f xs)=c O')→Rests O (fun O'=>aq O' np e h (.call m news f xs)) r:=by
   rintro c ⟨q,h1,h2⟩ hc
   refine ⟨[q],fun q' hq'=>?_,fun O' hO'=>?_⟩
   ·simp only [bu] at hq'
    subst hq'; exact h1
   ·dsimp only; rw [hc]; exact h2 O' (hO' q (by simp))
  cases m with
  | heap=>
   simp only at he;exact fin _ (heap he) fun O'=>by simp only [aq,hf,hg,hv,ac]
  | flat=>
   simp only at he;exact fin _ (pure .flat he) fun O'=>by simp only [aq,hf,hg,hv,ac]
  | data=>
   simp only at he;exact fin _ (pure .data he) fun O'=>by simp only [aq,hf,hg,hv,ac]
  | plain=>
   simp only at he;exact fin _ (pure .plain he) fun O'=>by simp only [aq,hf,hg,hv,ac]
 | cut ar s x lo hi mx=>exact ⟨[],by simp [Gives],fun O' _=>by cases ar <;> exact he⟩
 | idxA ar s x j=>exact ⟨[],by simp [Gives],fun O' _=>by cases ar <;> exact he⟩
 | idx ar s x j=>exact ⟨[],by simp [Gives],fun O' _=>by cases ar <;> exact he⟩
 | len str x=>exact ⟨[],by simp [Gives],fun O' _=>by cases str <;> exact he⟩
 | _=>exact ⟨[],by simp [Gives],fun O' _=>he⟩
theorem Qu {O:ah} {np:Nat} {s s':St} {i:Ins} (he:nr O np s i=some s'):Rests O (fun O'=>nr O' np s i) s':=by
 unfold nr jq at he ⊢
 split at he
 ·rename_i hside
  simp only [hside,if_true]
  split at he
  ·rename_i hon
   obtain ⟨r,hr,e⟩:=ab.1 he;obtain ⟨qs,h1,h2⟩:=Si hr;refine ⟨qs,h1,fun O' hO'=>?_⟩
   have q:=h2 O' hO'
   dsimp only at q ⊢
   rw [q,bw,e]
  ·exact Rests.const he
  ·cases he
 ·cases he
theorem Df {O:ah} {np:Nat}:∀{is:List Ins} {s s':St},em O np is s=some s'→Rests O (fun O'=>em O' np is s) s'
 | [],s,s',he=>Rests.const he
 | i::is,s,s',he=>by
  simp only [em] at he ⊢;obtain ⟨s1,h1,h2⟩:=a8.1 he;exact (Qu h1).bind (k:=fun x O'=>em O' np is x) (Df h2)
theorem Cc {O:ah} {g:ah→St→Option (Out×St)} (hg:∀s r,g O s=some r→Rests O (fun O'=>g O' s) r):∀{n:Nat} {s:St} {r:Out×St},t9 (g O) n s=some r→Rests O (fun O'=>t9 (g O') n s) r
 | 0,s,r,he=>by simp [t9] at he
 | n+1,s,r,he=>by
  simp only [t9] at he ⊢;obtain ⟨⟨o,s1⟩,h1,h2⟩:=a8.1 he;refine (hg s _ h1).bind (k:=fun x O'=>match x.1 with | .normal=>t9 (g O') n x.2 | o=>some (o,x.2)) ?_
  cases o with
  | normal=>exact Cc hg h2
  | exit id=>exact Rests.const h2
  | ret=>exact Rests.const h2
theorem L9 {O:ah} {np n:Nat}:∀{c:Cd} {s:St} {r:Out×St},cr O np n c s=some r→Rests O (fun O'=>cr O' np n c s) r:=by
 intro c
 induction c with
 | skip=>intro s r he; exact Rests.const (by simpa only [cr] using he)
 | exit id=>intro s r he; exact Rests.const (by simpa only [cr] using he)
 | ret=>intro s r he; exact Rests.const (by simpa only [cr] using he)
 | region is ks=>
  intro s r he;simp only [cr] at he ⊢;obtain ⟨s1,h1,e⟩:=ab.1 he;obtain ⟨qs,g1,g2⟩:=Df h1;refine ⟨qs,g1,fun O' hO'=>?_⟩
  have q:=g2 O' hO'
  dsimp only at q ⊢
  rw [q,bw,e]
 | seq a b iha ihb=>
  intro s r he;simp only [cr] at he ⊢;obtain ⟨⟨o,s1⟩,h1,h2⟩:=a8.1 he;refine (iha h1).bind (k:=fun x O'=>match x.1 with | .normal=>cr O' np n b x.2 | o=>some (o,x.2)) ?_
  cases o with
  | normal=>exact ihb h2
  | exit id=>exact Rests.const h2
  | ret=>exact Rests.const h2
 | cond q a b iha ihb=>
  intro s r he;simp only [cr] at he ⊢
  split at he
  ·rename_i t ht
   cases t with
   | true=>
    obtain ⟨qs,g1,g2⟩:=iha (s:=s) (r:=r) (by simpa using he)
    refine ⟨qs,g1,fun O' hO'=>?_⟩
    have q:=g2 O' hO'
    dsimp only at q ⊢
    simp only [if_true];exact q
   | false=>
    obtain ⟨qs,g1,g2⟩:=ihb (s:=s) (r:=r) (by simpa using he)
    refine ⟨qs,g1,fun O' hO'=>?_⟩
    have q:=g2 O' hO'
    dsimp only at q ⊢
    simp only [au,if_false];exact q
  ·cases he
 | block id c ihc=>
  intro s r he;simp only [cr] at he ⊢;obtain ⟨r1,h1,e⟩:=ab.1 he;obtain ⟨qs,g1,g2⟩:=ihc h1;refine ⟨qs,g1,fun O' hO'=>?_⟩
  have q:=g2 O' hO'
  dsimp only at q ⊢
  rw [q,bw,e]
 | loop c ihc=>
  intro s r he;simp only [cr] at he ⊢;exact Cc (g:=fun O'=>cr O' np n c) (fun s r h=>ihc h) he
theorem vw {O:ah} {n:Nat} {fn:Fn} {vs:List V} {bs:Heap} {ans:Ans} (he:run O n fn vs bs=some ans):Rests O (fun O'=>run O' n fn vs bs) ans:=by
 unfold run at he ⊢
 split at he
 ·rename_i hl
  simp only [hl,if_true];obtain ⟨r,h1,h2⟩:=a8.1 he;exact (L9 h1).bind (k:=fun r _=>match r.1 with
  | .exit _=>none
  | _=>if r.2.h.length=bs.length+fn.nblk then (tr r.2 fn.results).bind fun rs=>
   let v:=jf rs
   let own:=(pn v.refs).filter (bs.length≤·)
   (r.2.h.pick own).map fun nb=>
    (v.ren (fun i=>if i<bs.length then i else bs.length+own.idxOf i),r.2.h.take bs.length,nb)
   else none) (Rests.const h2)
 ·cases he
theorem vu {g g':St→Option (Out×St)} (hg:∀s r,g s=some r→g' s=some r):∀{n n':Nat} {s:St} {r:Out×St},n≤n'→t9 g n s=some r→t9 g' n' s=some r
 | 0,n',s,r,_,he=>by simp [t9] at he
 | n+1,0,s,r,hl,he=>by omega
 | n+1,n'+1,s,r,hl,he=>by
  simp only [t9] at he ⊢;obtain ⟨⟨o,s1⟩,h1,h2⟩:=a8.1 he;rw [hg s _ h1,ac];cases o with
  | normal=>exact vu hg (by omega) h2
  | exit id=>exact h2
  | ret=>exact h2
theorem lw {O:ah} {np n n':Nat} (hn:n≤n'):∀{c:Cd} {s:St} {r:Out×St},cr O np n c s=some r→cr O np n' c s=some r:=by
 intro c
 induction c with
 | skip=>intro s r he; simpa only [cr] using he
 | exit id=>intro s r he; simpa only [cr] using he
 | ret=>intro s r he; simpa only [cr] using he
 | region is ks=>intro s r he; simpa only [cr] using he
 | seq a b iha ihb=>
  intro s r he;simp only [cr] at he ⊢;obtain ⟨⟨o,s1⟩,h1,h2⟩:=a8.1 he;rw [iha h1,ac];cases o with
  | normal=>exact ihb h2
  | exit id=>exact h2
  | ret=>exact h2
 | cond q a b iha ihb=>
  intro s r he;simp only [cr] at he ⊢
  split at he
  ·rename_i t ht
   cases t with
   | true=>simpa using iha (s:=s) (r:=r) (by simpa using he)
   | false=>simpa using ihb (s:=s) (r:=r) (by simpa using he)
  ·cases he
 | block id c ihc=>
  intro s r he;simp only [cr] at he ⊢;obtain ⟨r1,h1,e⟩:=ab.1 he;rw [ihc h1,bw,e]
 | loop c ihc=>
  intro s r he;simp only [cr] at he ⊢;exact vu (fun s r h=>ihc h) hn he
theorem Jk {O:ah} {n n':Nat} (hn:n≤n') {fn:Fn} {vs:List V} {bs:Heap} {ans:Ans} (he:run O n fn vs bs=some ans):run O n' fn vs bs=some ans:=by
 unfold run at he ⊢
 split at he
 ·rename_i hl
  simp only [hl,if_true];obtain ⟨r,h1,h2⟩:=a8.1 he;rw [lw hn h1,ac];exact h2
 ·cases he
section
variable {T:Nat→Option Fn} {A:ah}
theorem Co:∀{k:Nat} {f:Nat} {vs:List V} {bs:Heap} {ans:Ans},pr T A k f vs bs=some ans→pr T A (k+1) f vs bs=some ans
 | 0,f,vs,bs,ans,h=>by simp [pr] at h
 | k+1,f,vs,bs,ans,h=>by
  rw [pr] at h ⊢
  dsimp only at h ⊢
  split at h
  ·rename_i fn hfn
   obtain ⟨qs,h1,h2⟩:=vw h;exact Jk (Nat.le_succ k) (h2 _ fun q hq=>Co (h1 q hq))
  ·exact h
theorem rc {k k':Nat} (hk:k≤k') {f:Nat} {vs:List V} {bs:Heap} {ans:Ans} (h:pr T A k f vs bs=some ans):pr T A k' f vs bs=some ans:=by
 induction hk with
 | refl=>exact h
 | step _ ih=>exact Co ih
noncomputable def den (T:Nat→Option Fn) (A:ah):ah:=fun f vs bs=>by
 classical
 exact if h:∃ans,∃k,pr T A k f vs bs=some ans then some (Classical.choose h) else none
theorem Bc {f:Nat} {vs:List V} {bs:Heap} {ans:Ans}:den T A f vs bs=some ans↔∃k,pr T A k f vs bs=some ans:=by
 unfold den;constructor
 ·intro h
  split at h
  ·rename_i hx
   obtain rfl:=av h;exact ci hx
  ·cases h
 ·rintro ⟨k,hk⟩
  have hx:∃ans,∃k,pr T A k f vs bs=some ans:=⟨ans,k,hk⟩;rw [dif_pos hx];obtain ⟨k',hk'⟩:=ci hx;have h1:=rc (mu k k') hk;have h2:=rc (jm k k') hk';rw [h1] at h2;exact h2.symm
theorem J9 {qs:List Ec} (h:Gives (den T A) qs):∃k,Gives (pr T A k) qs:=by
 induction qs with
 | nil=>exact ⟨0,by simp [Gives]⟩
 | cons q qs ih=>
  obtain ⟨k,hk⟩:=ih fun q' hq'=>h q' (by simp [hq'])
  obtain ⟨k',hk'⟩:=Bc.1 (h q (by simp))
  refine ⟨max k k',fun q' hq'=>?_⟩
  rcases da.1 hq' with rfl | hq'
  ·exact rc (jm k k') hk'
  ·exact rc (mu k k') (hk q' hq')
theorem H8 {f:Nat} {fn:Fn} (hT:T f=some fn) {n:Nat} {vs:List V} {bs:Heap} {ans:Ans} (h:run (den T A) n fn vs bs=some ans):den T A f vs bs=some ans:=by
 obtain ⟨qs,h1,h2⟩:=vw h;obtain ⟨k,hk⟩:=J9 h1;refine Bc.2 ⟨max k n+1,?_⟩;simp only [pr,hT];exact Jk (jm k n) (h2 _ fun q hq=>rc (mu k n) (hk q hq))
theorem S0 {f:Nat} (hT:T f=none) {vs:List V} {bs:Heap} {ans:Ans} (h:A f vs bs=some ans):den T A f vs bs=some ans:=
 Bc.2 ⟨1,by simp only [pr,hT]; exact h⟩
theorem Pf {P:Program} {num:Nat→Nat} (hT:∀f fn,T f=some fn→∃g,P.funcs[num f]? = some g∧Am P num fn g=true) (hA:jp P num A) (hm:P.follows .mixedOrders=true):jp P num (den T A):=by
 intro f vs bs ans h;obtain ⟨k,hk⟩:=Bc.1 h;exact Af hT hA hm k f vs bs ans hk
end
noncomputable def dn (O:ah) (np:Nat) (c:Cd) (s:St):Option (Out×St):=by
 classical
 exact if h:∃r,∃n,cr O np n c s=some r then some (Classical.choose h) else none
theorem ji {O:ah} {np:Nat} {c:Cd} {s:St} {r:Out×St}:dn O np c s=some r↔∃n,cr O np n c s=some r:=by
 unfold dn;constructor
 ·intro h
  split at h
  ·rename_i hx
   obtain rfl:=av h;exact ci hx
  ·cases h
 ·rintro ⟨k,hk⟩
  have hx:∃r,∃n,cr O np n c s=some r:=⟨r,k,hk⟩;rw [dif_pos hx];obtain ⟨k',hk'⟩:=ci hx;have h1:=lw (mu k k') hk;have h2:=lw (jm k k') hk';rw [h1] at h2;exact h2.symm
section
variable {O:ah} {np:Nat} {s:St}
theorem Dd {α:Type} {x y:Option α} (h:∀r,x=some r↔y=some r):x=y:=by
 cases x with
 | none=>
  cases y with
  | none=>rfl
  | some b=>exact absurd ((h b).2 rfl) (by simp)
 | some a=>exact ((h a).1 rfl).symm
theorem Vt:dn O np .skip s=some (.normal,s):=ji.2 ⟨0,rfl⟩
theorem Yb:dn O np .ret s=some (.ret,s):=ji.2 ⟨0,rfl⟩
theorem Xc (id:Nat):dn O np (.exit id) s=some (.exit id,s):=ji.2 ⟨0,rfl⟩
theorem Ra (is:List Ins) (ks:List Nat):dn O np (.region is ks) s=(em O np is s).map fun s'=>(.normal,⟨s'.e.keep ks,pa (s'.e.keep ks) np 0 s'.h⟩):=by
 refine Dd fun r=>?_
 rw [ji];simp only [cr];exact ⟨fun ⟨_,h⟩=>h,fun h=>⟨0,h⟩⟩
def andThen (k:St→Option (Out×St)) (r:Out×St):Option (Out×St):=
 match r.1 with
 | .normal=>k r.2
 | o=>some (o,r.2)
theorem a0i (a b:Cd):dn O np (.seq a b) s=(dn O np a s).bind (andThen (dn O np b)):=by
 refine Dd fun r=>?_
 rw [ji];simp only [cr];constructor
 ·rintro ⟨n,h⟩
  obtain ⟨⟨o,s1⟩,h1,h2⟩:=a8.1 h;rw [ji.2 ⟨n,h1⟩,ac];cases o with
  | normal=>exact ji.2 ⟨n,h2⟩
  | exit id=>exact h2
  | ret=>exact h2
 ·intro h
  obtain ⟨⟨o,s1⟩,h1,h2⟩:=a8.1 h;obtain ⟨n,h1⟩:=ji.1 h1;cases o with
  | normal=>
   obtain ⟨m,h2⟩:=ji.1 h2;refine ⟨max n m,?_⟩;rw [lw (mu n m) h1,ac];exact lw (jm n m) h2
  | exit id=>exact ⟨n,by rw [h1,ac]; exact h2⟩
  | ret=>exact ⟨n,by rw [h1,ac]; exact h2⟩
theorem af {q:Arg} (a b:Cd) {t:Bool} (h:s.e.arg q=some (.d (.bool t))):dn O np (.cond q a b) s=if t then dn O np a s else dn O np b s:=by
 refine Dd fun r=>?_
 rw [ji];simp only [cr,h];cases t <;> simp [ji]
def Ni (id:Nat) (r:Out×St):Out×St:=
 match r.1 with
 | .exit i=>if i=id then (.normal,r.2) else r
 | _=>r
theorem S5 (id:Nat) (c:Cd):dn O np (.block id c) s=(dn O np c s).map (Ni id):=by
 refine Dd fun r=>?_
 rw [ji];simp only [cr];constructor
 ·rintro ⟨n,h⟩
  obtain ⟨r1,h1,e⟩:=ab.1 h;rw [ji.2 ⟨n,h1⟩,bw];exact congrArg some e
 ·intro h
  obtain ⟨r1,h1,e⟩:=ab.1 h;obtain ⟨n,h1⟩:=ji.1 h1;exact ⟨n,by rw [h1,bw]; exact congrArg some e⟩
theorem H6 (c:Cd):dn O np (.loop c) s=(dn O np c s).bind (andThen (dn O np (.loop c))):=by
 refine Dd fun r=>?_
 rw [ji];simp only [cr];constructor
 ·rintro ⟨n,h⟩
  cases n with
  | zero=>simp [t9] at h
  | succ n=>
   simp only [t9] at h;obtain ⟨⟨o,s1⟩,h1,h2⟩:=a8.1 h;rw [ji.2 ⟨n+1,h1⟩,ac];cases o with
   | normal=>
    refine ji.2 ⟨n+1,?_⟩;simp only [cr];exact vu (fun _ _ g=>g) (Nat.le_succ n) h2
   | exit id=>exact h2
   | ret=>exact h2
 ·intro h
  obtain ⟨⟨o,s1⟩,h1,h2⟩:=a8.1 h;obtain ⟨n,h1⟩:=ji.1 h1;cases o with
  | normal=>
   obtain ⟨m,h2⟩:=ji.1 h2;simp only [cr] at h2;refine ⟨max n m+1,?_⟩;simp only [t9];rw [lw (show n≤max n m+1 by omega) h1,ac]
   exact vu (fun _ _ g=>lw (show m≤max n m+1 by omega) g) (jm n m) h2
  | exit id=>exact ⟨n+1,by simp only [t9]; rw [lw (Nat.le_succ n) h1,ac]; exact h2⟩
  | ret=>exact ⟨n+1,by simp only [t9]; rw [lw (Nat.le_succ n) h1,ac]; exact h2⟩
end
def fin (fn:Fn) (np:Nat) (r:Out×St):Option Ans:=
 match r.1 with
 | .exit _=>none
 | _=>if r.2.h.length=np+fn.nblk then (tr r.2 fn.results).bind fun rs=>
  let v:=jf rs
  let own:=(pn v.refs).filter (np≤·)
  (r.2.h.pick own).map fun nb=>
   (v.ren (fun i=>if i<np then i else np+own.idxOf i),r.2.h.take np,nb)
  else none
theorem jb {T:Nat→Option Fn} {A:ah} {f:Nat} {fn:Fn} (hT:T f=some fn) {vs:List V} {bs:Heap} {ans:Ans} (hl:vs.length=fn.nparams)
 (h:(dn (den T A) bs.length fn.body ⟨params 0 vs,bs++List.replicate fn.nblk .hole⟩).bind (fin fn bs.length)=some ans):den T A f vs bs=some ans:=by
 obtain ⟨r,h1,h2⟩:=a8.1 h;obtain ⟨n,h1⟩:=ji.1 h1;refine H8 hT (n:=n) ?_;unfold run;rw [if_pos hl,h1,ac];exact h2
end Pe

namespace Pe
open Go
def a3v (np:Nat) (ks:List Nat) (s:St):Out×St:=(.normal,⟨s.e.keep ks,pa (s.e.keep ks) np 0 s.h⟩)
@[simp] theorem a53 (np:Nat) (ks:List Nat) (e:Env) (h:Heap):a3v np ks ⟨e,h⟩=(.normal,⟨e.keep ks,pa (e.keep ks) np 0 h⟩):=rfl
@[simp] theorem a7k {O:ah} {np:Nat} {s:St} (is:List Ins) (ks:List Nat):dn O np (.region is ks) s=(em O np is s).map (a3v np ks):=Ra is ks
def a36 (e:Env) (i:Ins) (r:V×Heap):St:=⟨(e.kill (i.op.kill e r.1)).putO i.dst r.1,r.2⟩
@[simp] theorem a57 (e:Env) (i:Ins) (v:V) (h:Heap):a36 e i (v,h)=⟨(e.kill (i.op.kill e v)).putO i.dst v,h⟩:=rfl
def Xl (O:ah) (np:Nat) (s:St) (i:Ins):Option Bool→Option St
 | some true=>(aq O np s.e s.h i.op).map (a36 s.e i)
 | some false=>some ⟨s.e.putO i.dst (.tup []),s.h⟩
 | none=>none
@[simp] theorem Y0 (O:ah) (np:Nat) (s:St) (i:Ins):jq O np s i=Xl O np s i (i.on s.e):=rfl
section
variable {O:ah} {np:Nat} {e:Env} {h:Heap}
def kNt (x:D):Option D:=if x.isTup then none else some x
def kEl (p:List Nat) (b:Blk):Option (Sh×List D):=b.elems p
def Aw (p:List Nat) (b:Blk):Option D:=b.get p
def slD (off len:Nat):Option (Sh×List D)→Option D
 | some (s,cs)=>if off+len≤cs.length then some (.sl s ((cs.drop off).take len)) else none
 | none=>none
@[simp] theorem a6a (x:D):kNt x=if x.isTup then none else some x:=rfl
@[simp] theorem a6m (p:List Nat) (b:Blk):kEl p b=b.elems p:=rfl
@[simp] theorem a4x (p:List Nat) (b:Blk):Aw p b=b.get p:=rfl
@[simp] theorem a2a (off len:Nat) (s:Sh) (cs:List D):slD off len (some (s,cs))=if off+len≤cs.length then some (.sl s ((cs.drop off).take len)) else none:=rfl
@[simp] theorem a59 (v:V):v5 h v=(toD h v).bind kNt:=rfl
@[simp] theorem a81 (x:D):toD h (.d x)=some x:=by simp [toD]
@[simp] theorem a6p (i:Nat) (p:List Nat) (off len:Nat) (cap:Option Nat):toD h (.sl i p off len cap)=slD off len ((h[i]?).bind (kEl p)):=by
 have:(kEl p)=(Blk.elems · p):=rfl
 rw [this];simp only [toD];cases (h[i]?).bind (Blk.elems · p) <;> rfl
@[simp] theorem a4u (i:Nat) (p:List Nat):toD h (.ptr i p)=((h[i]?).bind (Aw p)).map .ip:=by simp only [toD]; rfl
def kFn (h:Heap) (f:Nat) (caps:List V) (a:List D):Option D:=(ll h caps).map (.fn f a)
@[simp] theorem a7d (f:Nat) (caps:List V) (a:List D):kFn h f caps a=(ll h caps).map (.fn f a):=rfl
@[simp] theorem a7b (f:Nat) (first caps:List V):toD h (.fn f first caps)=(ll h first).bind (kFn h f caps):=by simp only [toD]; rfl
@[simp] theorem a4r (vs:List V):toD h (.tup vs)=(ll h vs).map .tup:=by simp only [toD]
def kDs (h:Heap) (vs:List V) (x:D):Option (List D):=if x.isTup then none else (ll h vs).map (List.cons x)
@[simp] theorem a0e (vs:List V) (x:D):kDs h vs x=if x.isTup then none else (ll h vs).map (List.cons x):=rfl
@[simp] theorem a3k:ll h []=some []:=by simp [ll]
@[simp] theorem Q6 (v:V) (vs:List V):ll h (v::vs)=(toD h v).bind (kDs h vs):=by simp only [ll]; rfl
def Xx (e:Env) (as:List Arg) (v:V):Option (List V):=(e.args as).map (List.cons v)
@[simp] theorem a4j (as:List Arg) (v:V):Xx e as v=(e.args as).map (List.cons v):=rfl
@[simp] theorem a34:e.args []=some []:=rfl
@[simp] theorem a1w (a:Arg) (as:List Arg):e.args (a::as)=(e.arg a).bind (Xx e as):=rfl
def kMv (h:Heap) (v:V):V×Heap:=(v,h)
@[simp] theorem a7u (v:V):kMv h v=(v,h):=rfl
@[simp] theorem a84 (x:Arg):aq O np e h (.mv x)=(e.arg x).map (kMv h):=rfl
def a08 (h:Heap):V→Option (V×Heap)
 | .d (.ip y)=>some (.d (.ip y),h)
 | .ptr i p=>some (.ptr i p,h)
 | _=>none
@[simp] theorem a72 (y:D):a08 h (.d (.ip y))=some (.d (.ip y),h):=rfl
@[simp] theorem a6q (i:Nat) (p:List Nat):a08 h (.ptr i p)=some (.ptr i p,h):=rfl
@[simp] theorem a6t (x:Arg):aq O np e h (.chk x)=(e.arg x).bind (a08 h):=by
 simp only [aq];cases e.arg x with
 | none=>rfl
 | some v=>cases v <;> try rfl
           rename_i d; cases d <;> rfl
def Xr (e:Env) (h:Heap) (a b:Arg):V→Option (V×Heap)
 | .d (.bool t)=>(e.arg (if t then a else b)).map (kMv h)
 | _=>none
@[simp] theorem a5z (a b:Arg) (t:Bool):Xr e h a b (.d (.bool t))=(e.arg (if t then a else b)).map (kMv h):=rfl
@[simp] theorem a5a (c a b:Arg):aq O np e h (.pick c a b)=(e.arg c).bind (Xr e h a b):=by
 simp only [aq];cases e.arg c with
 | none=>rfl
 | some v=>cases v <;> try rfl
           rename_i d; cases d <;> rfl
def Up (i:Nat) (d:D) (h:Heap):Option (V×Heap):=(f6 h i (.box false d)).map (Prod.mk (.ptr i []))
@[simp] theorem a3h (i:Nat) (d:D):Up i d h=(f6 h i (.box false d)).map (Prod.mk (.ptr i [])):=rfl
def V3 (np:Nat) (h:Heap) (fz:Bool) (i:Nat) (rs:List Nat) (d:D):Option (V×Heap):=(freezeIf fz h rs).bind (Up (np+i) d)
@[simp] theorem a39 (fz:Bool) (i:Nat) (rs:List Nat) (d:D):V3 np h fz i rs d=(freezeIf fz h rs).bind (Up (np+i) d):=rfl
def a24 (np:Nat) (h:Heap) (fz:Bool) (i:Nat) (v:V):Option (V×Heap):=(v5 h v).bind (V3 np h fz i v.refs)
@[simp] theorem a5t (fz:Bool) (i:Nat) (v:V):a24 np h fz i v=(v5 h v).bind (V3 np h fz i v.refs):=rfl
@[simp] theorem a7p (fz:Bool) (i:Nat) (x:Arg):aq O np e h (.box fz i x)=(e.arg x).bind (a24 np h fz i):=rfl
def Bo (h:Heap) (s:Sh) (x:D):Option (V×Heap):=if Sh.beq x.sh s then some (.d x,h) else none
@[simp] theorem a0z (s:Sh) (x:D):Bo h s x=if Sh.beq x.sh s then some (.d x,h) else none:=rfl
def Un (h:Heap) (s:Sh):V→Option (V×Heap)
 | .d (.ip x)=>Bo h s x
 | .ptr i p=>((h[i]?).bind (Aw p)).bind (Bo h s)
 | _=>none
@[simp] theorem a64 (s:Sh) (x:D):Un h s (.d (.ip x))=Bo h s x:=rfl
@[simp] theorem a5k (s:Sh) (i:Nat) (p:List Nat):Un h s (.ptr i p)=((h[i]?).bind (Aw p)).bind (Bo h s):=rfl
@[simp] theorem a55 (s:Sh) (x:Arg):aq O np e h (.load s x)=(e.arg x).bind (Un h s):=by
 simp only [aq];cases e.arg x with
 | none=>rfl
 | some v=>cases v <;> try rfl
           rename_i d; cases d <;> rfl
def Wt (h:Heap) (o:BinOp):V→V→Option (V×Heap)
 | .d a,.d b=>(sb o a b).map fun r=>(.d r,h)
 | _,_=>none
def kD (h:Heap) (r:D):V×Heap:=(.d r,h)
@[simp] theorem a7z (r:D):kD h r=(.d r,h):=rfl
@[simp] theorem a6k (o:BinOp) (a b:D):Wt h o (.d a) (.d b)=(sb o a b).map (kD h):=rfl
def Ng (e:Env) (h:Heap) (o:BinOp) (y:Arg) (v:V):Option (V×Heap):=(e.arg y).bind (Wt h o v)
@[simp] theorem a2b (o:BinOp) (y:Arg) (v:V):Ng e h o y v=(e.arg y).bind (Wt h o v):=rfl
@[simp] theorem a6v (o:BinOp) (x y:Arg):aq O np e h (.bin o x y)=(e.arg x).bind (Ng e h o y):=by
 simp only [aq];cases e.arg x with
 | none=>rfl
 | some v=>
  cases hy:e.arg y with
  | none=>cases v <;> simp [Ng,hy]
  | some w=>cases v <;> cases w <;> simp [Ng,hy,Wt]
theorem two {α:Type} {x y:Option V} {f:V→V→Option α} {g:Option α} (h1:∀v w,x=some v→y=some w→g=f v w) (h2:x=none∨y=none→g=none):g=x.bind fun v=>y.bind (f v):=by
 cases hx:x with
 | none=>exact h2 (.inl hx)
 | some v=>
  cases hy:y with
  | none=>exact h2 (.inr hy)
  | some w=>exact h1 v w hx hy
def kUn (h:Heap) (o:UnOp):V→Option (V×Heap)
 | .d a=>(unD o a).map (kD h)
 | _=>none
@[simp] theorem a80 (o:UnOp) (a:D):kUn h o (.d a)=(unD o a).map (kD h):=rfl
@[simp] theorem a82 (o:UnOp) (x:Arg):aq O np e h (.un o x)=(e.arg x).bind (kUn h o):=by
 simp only [aq];cases e.arg x with
 | none=>rfl
 | some v=>cases v <;> rfl
def Xw (h:Heap) (k:IntKind):V→Option (V×Heap)
 | .d (.int _ n)=>some (.d (.int k (k.wrap n)),h)
 | _=>none
@[simp] theorem a4n (k q:IntKind) (n:Int):Xw h k (.d (.int q n))=some (.d (.int k (k.wrap n)),h):=rfl
@[simp] theorem a5u (k:IntKind) (x:Arg):aq O np e h (.conv k x)=(e.arg x).bind (Xw h k):=by
 simp only [aq];cases e.arg x with
 | none=>rfl
 | some v=>cases v <;> try rfl
           rename_i d; cases d <;> rfl
def a3z (h:Heap) (ss:List Sh) (j:Nat):V→Option (V×Heap)
 | .d (.st ts cs)=>if Sh.beqs ts ss then (cs[j]?).map (kD h) else none
 | _=>none
@[simp] theorem a6x (ss ts:List Sh) (j:Nat) (cs:List D):a3z h ss j (.d (.st ts cs))=if Sh.beqs ts ss then (cs[j]?).map (kD h) else none:=rfl
@[simp] theorem a6j (ss:List Sh) (x:Arg) (j:Nat):aq O np e h (.fld ss x j)=(e.arg x).bind (a3z h ss j):=by
 simp only [aq];cases e.arg x with
 | none=>rfl
 | some v=>cases v <;> try rfl
           rename_i d; cases d <;> rfl
def kIp (h:Heap) (c:D):V×Heap:=(.d (.ip c),h)
@[simp] theorem a6s (c:D):kIp h c=(.d (.ip c),h):=rfl
def Mt (h:Heap) (ss:List Sh) (i:Nat) (p:List Nat) (y:D):Option (V×Heap):=if Sh.beq y.sh (.st ss) then some (.ptr i p,h) else none
@[simp] theorem a16 (ss:List Sh) (i:Nat) (p:List Nat) (y:D):Mt h ss i p y=if Sh.beq y.sh (.st ss) then some (.ptr i p,h) else none:=rfl
def Tx (h:Heap) (ss:List Sh) (j:Nat):V→Option (V×Heap)
 | .ptr i p=>((h[i]?).bind (Aw p)).bind (Mt h ss i (p++[j]))
 | .d (.ip (.st ts cs))=>if Sh.beqs ts ss then (cs[j]?).map (kIp h) else none
 | _=>none
@[simp] theorem a5w (ss:List Sh) (j i:Nat) (p:List Nat):Tx h ss j (.ptr i p)=((h[i]?).bind (Aw p)).bind (Mt h ss i (p++[j])):=rfl
@[simp] theorem a65 (ss ts:List Sh) (j:Nat) (cs:List D):Tx h ss j (.d (.ip (.st ts cs)))=if Sh.beqs ts ss then (cs[j]?).map (kIp h) else none:=rfl
@[simp] theorem a5l (ss:List Sh) (x:Arg) (j:Nat):aq O np e h (.fldA ss x j)=(e.arg x).bind (Tx h ss j):=by
 simp only [aq];cases e.arg x with
 | none=>rfl
 | some v=>cases v <;> try rfl
           rename_i d; cases d <;> try rfl
           rename_i d; cases d <;> rfl
def a0f (h:Heap) (j:Nat):V→Option (V×Heap)
 | .d (.tup vs)=>(vs[j]?).map (kD h)
 | .tup vs=>(vs[j]?).map (kMv h)
 | _=>none
@[simp] theorem a7w (j:Nat) (vs:List D):a0f h j (.d (.tup vs))=(vs[j]?).map (kD h):=rfl
@[simp] theorem a7g (j:Nat) (vs:List V):a0f h j (.tup vs)=(vs[j]?).map (kMv h):=rfl
@[simp] theorem a73 (x:Arg) (j:Nat):aq O np e h (.ext x j)=(e.arg x).bind (a0f h j):=by
 simp only [aq];cases e.arg x with
 | none=>rfl
 | some v=>cases v <;> try rfl
           rename_i d; cases d <;> rfl
def W0 (h:Heap):Bool→V→Option (V×Heap)
 | false,.d (.sl _ cs)=>some (.d (.int .i64 cs.length),h)
 | false,.sl _ _ _ n _=>some (.d (.int .i64 n),h)
 | true,.d (.str b)=>some (.d (.int .i64 b.size),h)
 | _,_=>none
@[simp] theorem a71 (s:Sh) (cs:List D):W0 h false (.d (.sl s cs))=some (.d (.int .i64 cs.length),h):=rfl
@[simp] theorem a7s (i:Nat) (p:List Nat) (off n:Nat) (cap:Option Nat):W0 h false (.sl i p off n cap)=some (.d (.int .i64 n),h):=rfl
@[simp] theorem a7i (b:ByteArray):W0 h true (.d (.str b))=some (.d (.int .i64 b.size),h):=rfl
@[simp] theorem a7j (str:Bool) (x:Arg):aq O np e h (.len str x)=(e.arg x).bind (W0 h str):=by
 cases str <;> simp only [aq]
 ·cases e.arg x with
  | none=>rfl
  | some v=>cases v <;> try rfl
            rename_i d; cases d <;> rfl
 ·cases e.arg x with
  | none=>rfl
  | some v=>cases v <;> try rfl
            rename_i d; cases d <;> rfl
def yn (O:ah) (np:Nat) (h:Heap) (m:Mode) (news:List Nat) (g:Nat×List V×List V) (vs:List V):Option (V×Heap):=
 match m with
 | .heap=>k9 O np news h g.1 (g.2.1++vs++g.2.2)
 | _=>fu O m h g.1 (g.2.1++vs++g.2.2)
def Gj (O:ah) (np:Nat) (e:Env) (h:Heap) (m:Mode) (news:List Nat) (as:List Arg) (g:Nat×List V×List V):Option (V×Heap):=(e.args as).bind (yn O np h m news g)
@[simp] theorem a0u (m:Mode) (news:List Nat) (as:List Arg) (g:Nat×List V×List V):Gj O np e h m news as g=(e.args as).bind (yn O np h m news g):=rfl
def M3 (O:ah) (np:Nat) (e:Env) (h:Heap) (m:Mode) (news:List Nat) (as:List Arg) (fv:V):Option (V×Heap):=(callee fv).bind (Gj O np e h m news as)
@[simp] theorem a17 (m:Mode) (news:List Nat) (as:List Arg) (fv:V):M3 O np e h m news as fv=(callee fv).bind (Gj O np e h m news as):=rfl
@[simp] theorem a5r (m:Mode) (news:List Nat) (f:Arg) (as:List Arg):aq O np e h (.call m news f as)=(e.arg f).bind (M3 O np e h m news as):=by
 simp only [aq];cases e.arg f with
 | none=>rfl
 | some fv=>
  simp only [ac,M3];cases callee fv with
  | none=>rfl
  | some g=>
   simp only [ac,Gj];cases e.args as with
   | none=>rfl
   | some vs=>cases m <;> rfl
def Q8 (m:Mode) (h:Heap) (rs:List Nat) (x:D):Option (V×Heap):=
 match m with
 | .flat=>if x.flat then some (.d x,h) else none
 | .plain=>if rs.isEmpty then some (.d x,h) else none
 | _=>some (.d x,freeze h rs)
@[simp] theorem A1 (rs:List Nat) (x:D):Q8 .flat h rs x=if x.flat then some (.d x,h) else none:=rfl
@[simp] theorem Yo (rs:List Nat) (x:D):Q8 .plain h rs x=if rs.isEmpty then some (.d x,h) else none:=rfl
@[simp] theorem a0w (rs:List Nat) (x:D):Q8 .data h rs x=some (.d x,freeze h rs):=rfl
def a01 (m:Mode) (h:Heap) (rs:List Nat):Ans→Option (V×Heap)
 | (v,_,nb)=>(toD nb v).bind (Q8 m h rs)
@[simp] theorem a5g (m:Mode) (rs:List Nat) (v:V) (bs nb:Heap):a01 m h rs (v,bs,nb)=(toD nb v).bind (Q8 m h rs):=rfl
def Ld (O:ah) (m:Mode) (h:Heap) (f:Nat) (rs:List Nat) (ds:List D):Option (V×Heap):=(O f (ds.map .d) []).bind (a01 m h rs)
def a00:Ans→Option D
 | (v,_,nb)=>toD nb v
@[simp] theorem a5p (v:V) (bs nb:Heap):a00 (v,bs,nb)=toD nb v:=rfl
def ask (O:ah) (f:Nat) (ds:List D):Option D:=(O f (ds.map .d) []).bind a00
@[simp] theorem Db (m:Mode) (f:Nat) (rs:List Nat) (ds:List D):Ld O m h f rs ds=(ask O f ds).bind (Q8 m h rs):=by
 unfold Ld ask;cases O f (ds.map .d) [] with
 | none=>rfl
 | some r=>obtain ⟨v,bs,nb⟩:=r; rfl
theorem v7 (m:Mode) (f:Nat) (vs:List V):fu O m h f vs=(ll h vs).bind (Ld O m h f (V.refss vs)):=by
 unfold fu;cases ll h vs with
 | none=>rfl
 | some ds=>
  simp only [ac,Ld];cases O f (ds.map .d) [] with
  | none=>rfl
  | some r=>
   obtain ⟨v,bs,nb⟩:=r;simp only [ac,a01];cases toD nb v with
   | none=>rfl
   | some x=>cases m <;> rfl
@[simp] theorem xu (news:List Nat) (f:Nat) (a c vs:List V):yn O np h .flat news (f,a,c) vs=(ll h (a++vs++c)).bind (Ld O .flat h f (V.refss (a++vs++c))):=by
 show fu O .flat h f (a++vs++c)=_;exact v7 _ _ _
@[simp] theorem Xu (news:List Nat) (f:Nat) (a c vs:List V):yn O np h .plain news (f,a,c) vs=(ll h (a++vs++c)).bind (Ld O .plain h f (V.refss (a++vs++c))):=by
 show fu O .plain h f (a++vs++c)=_;exact v7 _ _ _
@[simp] theorem a0n (news:List Nat) (f:Nat) (a c vs:List V):yn O np h .data news (f,a,c) vs=(ll h (a++vs++c)).bind (Ld O .data h f (V.refss (a++vs++c))):=by
 show fu O .data h f (a++vs++c)=_;exact v7 _ _ _
@[simp] theorem a0m (news:List Nat) (f:Nat) (a c vs:List V):yn O np h .heap news (f,a,c) vs=k9 O np news h f (a++vs++c):=rfl
def Ya (h:Heap) (i:Nat) (b:Blk):V×Heap:=(.tup [],h.set i b)
@[simp] theorem a58 (i:Nat) (b:Blk):Ya h i b=(.tup [],h.set i b):=rfl
def a0s (h:Heap) (i:Nat) (p:List Nat) (d:D) (b:Blk):Option (V×Heap):=(b.set p d).map (Ya h i)
@[simp] theorem a56 (i:Nat) (p:List Nat) (d:D) (b:Blk):a0s h i p d b=(b.set p d).map (Ya h i):=rfl
def Hj (s:Sh) (d:D) (h:Heap):V→Option (V×Heap)
 | .ptr i p=>if Sh.beq d.sh s then (h[i]?).bind (a0s h i p d) else none
 | _=>none
@[simp] theorem a1s (s:Sh) (d:D) (i:Nat) (p:List Nat):Hj s d h (.ptr i p)=if Sh.beq d.sh s then (h[i]?).bind (a0s h i p d) else none:=rfl
def Bd (e:Env) (s:Sh) (p:Arg) (d:D) (h:Heap):Option (V×Heap):=(e.arg p).bind (Hj s d h)
@[simp] theorem a04 (s:Sh) (p:Arg) (d:D):Bd e s p d h=(e.arg p).bind (Hj s d h):=rfl
def B4 (e:Env) (h:Heap) (fz:Bool) (s:Sh) (p:Arg) (rs:List Nat) (d:D):Option (V×Heap):=(freezeIf fz h rs).bind (Bd e s p d)
@[simp] theorem Ym (fz:Bool) (s:Sh) (p:Arg) (rs:List Nat) (d:D):B4 e h fz s p rs d=(freezeIf fz h rs).bind (Bd e s p d):=rfl
def Lb (e:Env) (h:Heap) (fz:Bool) (s:Sh) (p:Arg) (v:V):Option (V×Heap):=(v5 h v).bind (B4 e h fz s p v.refs)
@[simp] theorem a1g (fz:Bool) (s:Sh) (p:Arg) (v:V):Lb e h fz s p v=(v5 h v).bind (B4 e h fz s p v.refs):=rfl
@[simp] theorem a41 (fz:Bool) (s:Sh) (p x:Arg):aq O np e h (.store fz s p x)=(e.arg x).bind (Lb e h fz s p):=by
 simp only [aq];cases e.arg x with
 | none=>rfl
 | some v=>
  simp only [ac,Lb];cases v5 h v with
  | none=>rfl
  | some d=>
   simp only [ac,B4];cases freezeIf fz h v.refs with
   | none=>rfl
   | some h'=>
    simp only [ac,Bd];cases e.arg p with
    | none=>rfl
    | some w=>cases w <;> rfl
def Ln (h:Heap) (s:Sh) (n:Nat) (i:Nat) (_p:List Nat) (k:Nat) (pp:List Nat) (q:Sh×List D):Option (V×Heap):=if Sh.beq q.1 s∧k<n then some (.ptr i pp,h) else none
@[simp] theorem a1j (s:Sh) (n i:Nat) (p:List Nat) (k:Nat) (pp:List Nat) (t:Sh) (cs:List D):Ln h s n i p k pp (t,cs)=if Sh.beq t s∧k<n then some (.ptr i pp,h) else none:=rfl
def On (h:Heap) (s:Sh):V→Nat→Option (V×Heap)
 | .sl i p off n _,k=>((h[i]?).bind (kEl p)).bind (Ln h s n i p k (p++[off+k]))
 | .d (.sl t cs),k=>if Sh.beq t s then (cs[k]?).map (kIp h) else none
 | _,_=>none
@[simp] theorem a4p (s:Sh) (i:Nat) (p:List Nat) (off n:Nat) (cap:Option Nat) (k:Nat):On h s (.sl i p off n cap) k=((h[i]?).bind (kEl p)).bind (Ln h s n i p k (p++[off+k])):=rfl
@[simp] theorem a5b (s t:Sh) (cs:List D) (k:Nat):On h s (.d (.sl t cs)) k=if Sh.beq t s then (cs[k]?).map (kIp h) else none:=rfl
def N9 (e:Env) (h:Heap) (s:Sh) (j:Arg) (v:V):Option (V×Heap):=((e.arg j).bind V.nat?).bind (On h s v)
@[simp] theorem a1a (s:Sh) (j:Arg) (v:V):N9 e h s j v=((e.arg j).bind V.nat?).bind (On h s v):=rfl
@[simp] theorem a5x (s:Sh) (x j:Arg):aq O np e h (.idxA none s x j)=(e.arg x).bind (N9 e h s j):=by
 simp only [aq];cases e.arg x with
 | none=>rfl
 | some v=>
  simp only [ac,N9];cases (e.arg j).bind V.nat? with
  | none=>cases v <;> try rfl
          rename_i d; cases d <;> rfl
  | some k=>cases v <;> try rfl
            rename_i d; cases d <;> rfl
@[simp] theorem X4 (s:St):em O np [] s=some s:=rfl
@[simp] theorem Vk (i:Ins) (is:List Ins) (s:St):em O np (i::is) s=(nr O np s i).bind (em O np is):=rfl
@[simp] theorem a1i (i:Nat) (s:Sh):aq O np e h (.nilOwn i s)=(f6 h (np+i) (.sl false s [])).map (Prod.mk (.sl (np+i) [] 0 0 (some 0))):=rfl
@[simp] theorem a5v:aq O np e h .fail=none:=rfl
def Lv (h:Heap) (f:Nat) (us vs:List V):V×Heap:=(.fn f us vs,h)
@[simp] theorem a12 (f:Nat) (us vs:List V):Lv h f us vs=(.fn f us vs,h):=rfl
def Xe (e:Env) (h:Heap) (f:Nat) (cs:List Arg) (us:List V):Option (V×Heap):=(e.args cs).map (Lv h f us)
@[simp] theorem a3s (f:Nat) (cs:List Arg) (us:List V):Xe e h f cs us=(e.args cs).map (Lv h f us):=rfl
@[simp] theorem a62 (f:Nat) (as cs:List Arg):aq O np e h (.mkFn f as cs)=(e.args as).bind (Xe e h f cs):=rfl
def V5 (h:Heap):V→V→Option (V×Heap)
 | .d (.int k a),.d (.int k' b)=>if k=k' then some (.d (.int k (if a<b then b else a)),h) else none
 | _,_=>none
@[simp] theorem a67 (k k':IntKind) (a b:Int):V5 h (.d (.int k a)) (.d (.int k' b))=if k=k' then some (.d (.int k (if a<b then b else a)),h) else none:=rfl
def Y9 (e:Env) (h:Heap) (y:Arg) (v:V):Option (V×Heap):=(e.arg y).bind (V5 h v)
@[simp] theorem a5q (y:Arg) (v:V):Y9 e h y v=(e.arg y).bind (V5 h v):=rfl
@[simp] theorem a5n (x y:Arg):aq O np e h (.maxI x y)=(e.arg x).bind (Y9 e h y):=by
 simp only [aq];cases e.arg x with
 | none=>rfl
 | some v=>
  simp only [ac,Y9];cases e.arg y with
  | none=>cases v <;> try rfl
          rename_i d; cases d <;> rfl
  | some w=>cases v <;> try rfl
            rename_i d; cases d <;> try rfl
            cases w <;> try rfl
            rename_i d; cases d <;> rfl
def Tv (h:Heap):V→V→Option (V×Heap)
 | .d (.int k a),.d (.int k' b)=>if k=k' then some (.d (.int k (if b<a then b else a)),h) else none
 | _,_=>none
@[simp] theorem a5y (k k':IntKind) (a b:Int):Tv h (.d (.int k a)) (.d (.int k' b))=if k=k' then some (.d (.int k (if b<a then b else a)),h) else none:=rfl
def Xy (e:Env) (h:Heap) (y:Arg) (v:V):Option (V×Heap):=(e.arg y).bind (Tv h v)
@[simp] theorem a5i (y:Arg) (v:V):Xy e h y v=(e.arg y).bind (Tv h v):=rfl
@[simp] theorem a4y (x y:Arg):aq O np e h (.minI x y)=(e.arg x).bind (Xy e h y):=by
 simp only [aq];cases e.arg x with
 | none=>rfl
 | some v=>
  simp only [ac,Xy];cases e.arg y with
  | none=>cases v <;> try rfl
          rename_i d; cases d <;> rfl
  | some w=>cases v <;> try rfl
            rename_i d; cases d <;> try rfl
            cases w <;> try rfl
            rename_i d; cases d <;> rfl
def Uf (h:Heap) (neg:Bool):V→Option (V×Heap)
 | .d (.sl _ (_::_))=>some (.d (.bool neg),h)
 | .sl _ _ _ (_+1) _=>some (.d (.bool neg),h)
 | _=>none
@[simp] theorem a5s (neg:Bool) (s:Sh) (c:D) (cs:List D):Uf h neg (.d (.sl s (c::cs)))=some (.d (.bool neg),h):=rfl
@[simp] theorem a5m (neg:Bool) (i:Nat) (p:List Nat) (off n:Nat) (cap:Option Nat):Uf h neg (.sl i p off (n+1) cap)=some (.d (.bool neg),h):=rfl
def Mv (np:Nat) (h:Heap) (i:Nat) (s:Sh) (z:D) (bytes n m:Nat):Option (V×Heap):=
 if n≤m∧m*bytes≤1099511627776 then (f6 h (np+i) (.sl false s (List.replicate n z))).map (Prod.mk (.sl (np+i) [] 0 n (if n=m then some n else none))) else none
@[simp] theorem a1m (i:Nat) (s:Sh) (z:D) (bytes n m:Nat):Mv np h i s z bytes n m =
 if n≤m∧m*bytes≤1099511627776 then (f6 h (np+i) (.sl false s (List.replicate n z))).map (Prod.mk (.sl (np+i) [] 0 n (if n=m then some n else none))) else none:=rfl
def Tc (np:Nat) (e:Env) (h:Heap) (i:Nat) (s:Sh) (z:D) (bytes:Nat) (c:Arg) (n:Nat):Option (V×Heap):=((e.arg c).bind V.nat?).bind (Mv np h i s z bytes n)
@[simp] theorem a4a (i:Nat) (s:Sh) (z:D) (bytes:Nat) (c:Arg) (n:Nat):Tc np e h i s z bytes c n=((e.arg c).bind V.nat?).bind (Mv np h i s z bytes n):=rfl
@[simp] theorem a66 (i:Nat) (s:Sh) (z:D) (bytes:Nat) (l c:Arg):aq O np e h (.mkSl i s z bytes l c)=((e.arg l).bind V.nat?).bind (Tc np e h i s z bytes c):=by
 simp only [aq];cases (e.arg l).bind V.nat? with
 | none=>rfl
 | some n=>
  simp only [ac,Tc];cases (e.arg c).bind V.nat? with
  | none=>rfl
  | some m=>rfl
@[simp] theorem a61 (neg:Bool) (x:Arg):aq O np e h (.nilq neg x)=(e.arg x).bind (Uf h neg):=by
 simp only [aq];cases e.arg x with
 | none=>rfl
 | some v=>
  cases v with
  | d d=>cases d <;> try rfl
         rename_i s cs; cases cs <;> rfl
  | sl i p off n cap=>cases n <;> rfl
  | _=>rfl
def Vd (h:Heap):D→Option (V×Heap)
 | .sl .leaf cs=>(tg cs).map fun bs=>(.d (.str ⟨bs.toArray⟩),h)
 | _=>none
@[simp] theorem a5o (cs:List D):Vd h (.sl .leaf cs)=(tg cs).map fun bs=>(.d (.str ⟨bs.toArray⟩),h):=rfl
def a3x (h:Heap) (v:V):Option (V×Heap):=(toD h v).bind (Vd h)
@[simp] theorem a52 (v:V):a3x h v=(toD h v).bind (Vd h):=rfl
@[simp] theorem a4f (x:Arg):aq O np e h (.toStr x)=(e.arg x).bind (a3x h):=rfl
def H5 (h:Heap) (s:Sh) (z:D) (j off n:Nat):Blk→Option (V×Heap)
 | .sl false t' cs=>if Sh.beq t' s∧off+n≤cs.length then some (.tup [],h.set j (.sl false t' (cs.take off++List.replicate n z++cs.drop (off+n)))) else none
 | _=>none
@[simp] theorem a1l (s:Sh) (z:D) (j off n:Nat) (t':Sh) (cs:List D):H5 h s z j off n (.sl false t' cs)=if Sh.beq t' s∧off+n≤cs.length then some (.tup [],h.set j (.sl false t' (cs.take off++List.replicate n z++cs.drop (off+n)))) else none:=rfl
def M2 (h:Heap) (s:Sh) (z:D):V→Option (V×Heap)
 | .sl j [] off n _=>(h[j]?).bind (H5 h s z j off n)
 | _=>none
@[simp] theorem a4k (s:Sh) (z:D) (j off n:Nat) (cap:Option Nat):M2 h s z (.sl j [] off n cap)=(h[j]?).bind (H5 h s z j off n):=rfl
@[simp] theorem a21 (s:Sh) (z:D) (x:Arg):aq O np e h (.clear s z x)=(e.arg x).bind (M2 h s z):=by
 simp only [aq];cases e.arg x with
 | none=>rfl
 | some v=>
  cases v <;> try rfl
  rename_i j p off n cap
  cases p <;> try rfl
  simp only [ac,M2];cases h[j]? with
  | none=>rfl
  | some b=>
   cases b <;> try rfl
   rename_i fr t cs
   cases fr <;> rfl
@[simp] theorem a3u (i:Nat):aq O np e h (.mkMap i)=(f6 h (np+i) (.mp false [])).map (Prod.mk (.mp (np+i))):=rfl
def N3 (h:Heap) (k:ByteArray):Blk→Option (V×Heap)
 | .mp _ es=>some (.d (.int .i64 ((uu k es).getD 0)),h)
 | _=>none
@[simp] theorem a48 (k:ByteArray) (fr:Bool) (es:List (ByteArray×Int)):N3 h k (.mp fr es)=some (.d (.int .i64 ((uu k es).getD 0)),h):=rfl
def O5 (h:Heap):V→V→Option (V×Heap)
 | .mp j,.d (.str k)=>(h[j]?).bind (N3 h k)
 | _,_=>none
@[simp] theorem a4v (j:Nat) (k:ByteArray):O5 h (.mp j) (.d (.str k))=(h[j]?).bind (N3 h k):=rfl
def Mn (e:Env) (h:Heap) (k:Arg) (v:V):Option (V×Heap):=(e.arg k).bind (O5 h v)
@[simp] theorem a0x (k:Arg) (v:V):Mn e h k v=(e.arg k).bind (O5 h v):=rfl
@[simp] theorem a1b (x k:Arg):aq O np e h (.mapGet x k)=(e.arg x).bind (Mn e h k):=by
 simp only [aq];cases e.arg x with
 | none=>rfl
 | some v=>
  simp only [ac,Mn];cases e.arg k with
  | none=>cases v <;> rfl
  | some w=>
   cases v <;> try rfl
   cases w <;> try rfl
   rename_i j d
   cases d <;> try rfl
   simp only [ac,O5];cases h[j]? with
   | none=>rfl
   | some b=>cases b <;> rfl
def L7 (h:Heap) (j:Nat) (k:ByteArray) (n:Int):Blk→Option (V×Heap)
 | .mp false es=>some (.tup [],h.set j (.mp false (nz k n es)))
 | _=>none
@[simp] theorem a3b (j:Nat) (k:ByteArray) (n:Int) (es:List (ByteArray×Int)):L7 h j k n (.mp false es)=some (.tup [],h.set j (.mp false (nz k n es))):=rfl
def Nm (h:Heap):V→V→V→Option (V×Heap)
 | .mp j,.d (.str k),.d (.int .i64 n)=>(h[j]?).bind (L7 h j k n)
 | _,_,_=>none
@[simp] theorem a4t (j:Nat) (k:ByteArray) (n:Int):Nm h (.mp j) (.d (.str k)) (.d (.int .i64 n))=(h[j]?).bind (L7 h j k n):=rfl
def Gv (e:Env) (h:Heap) (y:Arg) (v w:V):Option (V×Heap):=(e.arg y).bind (Nm h v w)
@[simp] theorem a0y (y:Arg) (v w:V):Gv e h y v w=(e.arg y).bind (Nm h v w):=rfl
def Mc (e:Env) (h:Heap) (k y:Arg) (v:V):Option (V×Heap):=(e.arg k).bind (Gv e h y v)
@[simp] theorem a1p (k y:Arg) (v:V):Mc e h k y v=(e.arg k).bind (Gv e h y v):=rfl
@[simp] theorem a14 (x k y:Arg):aq O np e h (.mapSet x k y)=(e.arg x).bind (Mc e h k y):=by
 simp only [aq];cases e.arg x with
 | none=>rfl
 | some v=>
  simp only [ac,Mc];cases e.arg k with
  | none=>cases v <;> rfl
  | some w=>
   simp only [ac,Gv];cases e.arg y with
   | none=>
    cases v <;> try rfl
    cases w <;> try rfl
    rename_i j d; cases d <;> rfl
   | some u=>
    cases v <;> try rfl
    cases w <;> try rfl
    rename_i j d
    cases d <;> try rfl
    cases u <;> try rfl
    rename_i d
    cases d <;> try rfl
    rename_i kk n
    cases kk <;> try rfl
    simp only [ac,Nm];cases h[j]? with
    | none=>rfl
    | some b=>
     cases b <;> try rfl
     rename_i fr es
     cases fr <;> rfl
def Sc (np:Nat) (h:Heap) (s:Sh) (i bytes:Nat) (t:Sh) (ys:List D) (j off n:Nat) (cap:Option Nat):Blk→Option (V×Heap)
 | .sl fr t' cs=>if Sh.beq t s∧Sh.beq t' s∧off+n≤cs.length∧(n+ys.length)*bytes≤1099511627776 then
  (if fr=false∧np≤j then some (.sl j [] 0 (n+ys.length) none,h.set j (.sl false s ((cs.drop off).take n++ys)))
  else if cap=some n∧ys≠[] then (f6 h (np+i) (.sl false s ((cs.drop off).take n++ys))).map (Prod.mk (.sl (np+i) [] 0 (n+ys.length) none))
  else none) else none
 | _=>none
@[simp] theorem a2g (s:Sh) (i bytes:Nat) (t:Sh) (ys:List D) (j off n:Nat) (cap:Option Nat) (fr:Bool) (t':Sh) (cs:List D):Sc np h s i bytes t ys j off n cap (.sl fr t' cs) =
 if Sh.beq t s∧Sh.beq t' s∧off+n≤cs.length∧(n+ys.length)*bytes≤1099511627776 then
  (if fr=false∧np≤j then some (.sl j [] 0 (n+ys.length) none,h.set j (.sl false s ((cs.drop off).take n++ys)))
  else if cap=some n∧ys≠[] then (f6 h (np+i) (.sl false s ((cs.drop off).take n++ys))).map (Prod.mk (.sl (np+i) [] 0 (n+ys.length) none))
  else none) else none:=rfl
def Ov (np:Nat) (h:Heap) (s:Sh) (i bytes:Nat):D→V→Option (V×Heap)
 | .sl t ys,.sl j [] off n cap=>(h[j]?).bind (Sc np h s i bytes t ys j off n cap)
 | .sl t (y::ys),.d (.nils t')=>if Sh.beq t s∧Sh.beq t' s∧(ys.length+1)*bytes≤1099511627776 then
  (f6 h (np+i) (.sl false s (y::ys))).map (Prod.mk (.sl (np+i) [] 0 (ys.length+1) none)) else none
 | _,_=>none
@[simp] theorem Wg (s:Sh) (i bytes:Nat) (t:Sh) (ys:List D) (j off n:Nat) (cap:Option Nat):Ov np h s i bytes (.sl t ys) (.sl j [] off n cap)=(h[j]?).bind (Sc np h s i bytes t ys j off n cap):=by
 cases ys <;> rfl
@[simp] theorem a4o (s:Sh) (i bytes:Nat) (t t':Sh) (y:D) (ys:List D):Ov np h s i bytes (.sl t (y::ys)) (.d (.nils t'))=if Sh.beq t s∧Sh.beq t' s∧(ys.length+1)*bytes≤1099511627776 then
 (f6 h (np+i) (.sl false s (y::ys))).map (Prod.mk (.sl (np+i) [] 0 (ys.length+1) none)) else none:=rfl
def Nn (np:Nat) (e:Env) (h:Heap) (s:Sh) (i bytes:Nat) (x:Arg) (d:D):Option (V×Heap):=(e.arg x).bind (Ov np h s i bytes d)
@[simp] theorem a40 (s:Sh) (i bytes:Nat) (x:Arg) (d:D):Nn np e h s i bytes x d=(e.arg x).bind (Ov np h s i bytes d):=rfl
def Y5 (np:Nat) (e:Env) (h:Heap) (s:Sh) (i bytes:Nat) (x:Arg) (w:V):Option (V×Heap):=(toD h w).bind (Nn np e h s i bytes x)
@[simp] theorem a5c (s:Sh) (i bytes:Nat) (x:Arg) (w:V):Y5 np e h s i bytes x w=(toD h w).bind (Nn np e h s i bytes x):=rfl
@[simp] theorem a18 (s:Sh) (i bytes:Nat) (x y:Arg):aq O np e h (.append s i bytes x y)=(e.arg y).bind (Y5 np e h s i bytes x):=by
 simp only [aq];cases e.arg y with
 | none=>rfl
 | some w=>
  simp only [ac,Y5];cases toD h w with
  | none=>rfl
  | some d=>
   simp only [ac,Nn];cases e.arg x with
   | none=>cases d <;> try rfl
   | some v=>
    cases d <;> try (cases v <;> rfl)
    rename_i t ys
    cases v with
    | sl j p off n cap=>
     cases p with
     | nil=>
      simp only [ac,Wg];cases h[j]? with
      | none=>rfl
      | some b=>cases b <;> rfl
     | cons _ _=>cases ys <;> rfl
    | d d=>cases ys <;> cases d <;> rfl
    | _=>cases ys <;> rfl
def Ol (h:Heap):Option Nat→Sh→V→Nat→Option (V×Heap)
 | some n,s,.d (.arr n' t cs),k=>if n'=n∧Sh.beq t s then (cs[k]?).map (kD h) else none
 | none,_,.d (.str b),k=>(b[k]?).map fun c=>(.d (.int .u8 c.toNat),h)
 | _,_,_,_=>none
@[simp] theorem a4q (n n':Nat) (s t:Sh) (cs:List D) (k:Nat):Ol h (some n) s (.d (.arr n' t cs)) k=if n'=n∧Sh.beq t s then (cs[k]?).map (kD h) else none:=rfl
@[simp] theorem a54 (s:Sh) (b:ByteArray) (k:Nat):Ol h none s (.d (.str b)) k=(b[k]?).map fun c=>(.d (.int .u8 c.toNat),h):=rfl
def We (e:Env) (h:Heap) (ar:Option Nat) (s:Sh) (j:Arg) (v:V):Option (V×Heap):=((e.arg j).bind V.nat?).bind (Ol h ar s v)
@[simp] theorem a5f (ar:Option Nat) (s:Sh) (j:Arg) (v:V):We e h ar s j v=((e.arg j).bind V.nat?).bind (Ol h ar s v):=rfl
@[simp] theorem a6f (ar:Option Nat) (s:Sh) (x j:Arg):aq O np e h (.idx ar s x j)=(e.arg x).bind (We e h ar s j):=by
 cases ar <;> simp only [aq]
 ·cases e.arg x with
  | none=>rfl
  | some v=>
   simp only [ac,We];cases (e.arg j).bind V.nat? with
   | none=>cases v <;> try rfl
           rename_i d; cases d <;> rfl
   | some k=>cases v <;> try rfl
             rename_i d; cases d <;> rfl
 ·cases e.arg x with
  | none=>rfl
  | some v=>
   simp only [ac,We];cases (e.arg j).bind V.nat? with
   | none=>cases v <;> try rfl
           rename_i d; cases d <;> rfl
   | some k=>cases v <;> try rfl
             rename_i d; cases d <;> rfl
def Lc (h:Heap) (n:Nat) (s:Sh) (i:Nat) (p:List Nat) (k:Nat):D→Option (V×Heap)
 | .arr n' t _=>if n'=n∧Sh.beq t s∧k<n then some (.ptr i (p++[k]),h) else none
 | _=>none
@[simp] theorem a45 (n n':Nat) (s t:Sh) (i:Nat) (p:List Nat) (k:Nat) (cs:List D):Lc h n s i p k (.arr n' t cs)=if n'=n∧Sh.beq t s∧k<n then some (.ptr i (p++[k]),h) else none:=rfl
def O0 (h:Heap) (n:Nat) (s:Sh):V→Nat→Option (V×Heap)
 | .ptr i p,k=>((h[i]?).bind (Aw p)).bind (Lc h n s i p k)
 | .d (.ip (.arr n' t cs)),k=>if n'=n∧Sh.beq t s then (cs[k]?).map (kIp h) else none
 | _,_=>none
@[simp] theorem Vn (n:Nat) (s:Sh) (i:Nat) (p:List Nat) (k:Nat):O0 h n s (.ptr i p) k=((h[i]?).bind (Aw p)).bind (Lc h n s i p k):=rfl
@[simp] theorem a5e (n n':Nat) (s t:Sh) (cs:List D) (k:Nat):O0 h n s (.d (.ip (.arr n' t cs))) k=if n'=n∧Sh.beq t s then (cs[k]?).map (kIp h) else none:=rfl
def Jw (e:Env) (h:Heap) (n:Nat) (s:Sh) (j:Arg) (v:V):Option (V×Heap):=((e.arg j).bind V.nat?).bind (O0 h n s v)
@[simp] theorem a1x (n:Nat) (s:Sh) (j:Arg) (v:V):Jw e h n s j v=((e.arg j).bind V.nat?).bind (O0 h n s v):=rfl
@[simp] theorem a5d (n:Nat) (s:Sh) (x j:Arg):aq O np e h (.idxA (some n) s x j)=(e.arg x).bind (Jw e h n s j):=by
 simp only [aq];cases e.arg x with
 | none=>rfl
 | some v=>
  simp only [ac,Jw];cases (e.arg j).bind V.nat? with
  | none=>cases v <;> try rfl
          rename_i d; cases d <;> try rfl
          rename_i d; cases d <;> rfl
  | some k=>
   cases v with
   | ptr i p=>
    simp only [Vn,ac];show ((h[i]?).bind (Aw p)).bind _=_
    congr 1
   | d d=>cases d <;> try rfl
          rename_i d; cases d <;> rfl
   | _=>rfl
def a0r (h:Heap) (neg:Bool) (q:Q):V→V→Option (V×Heap)
 | .d a,.d b=>(D.beq q a b).map fun r=>(.d (.bool (if neg then !r else r)),h)
 | _,_=>none
@[simp] theorem a7r (neg:Bool) (q:Q) (a b:D):a0r h neg q (.d a) (.d b)=(D.beq q a b).map fun r=>(.d (.bool (if neg then !r else r)),h):=rfl
def Ve (e:Env) (h:Heap) (neg:Bool) (q:Q) (y:Arg) (v:V):Option (V×Heap):=(e.arg y).bind (a0r h neg q v)
@[simp] theorem a2o (neg:Bool) (q:Q) (y:Arg) (v:V):Ve e h neg q y v=(e.arg y).bind (a0r h neg q v):=rfl
@[simp] theorem a7m (neg:Bool) (q:Q) (x y:Arg):aq O np e h (.eqv neg q x y)=(e.arg x).bind (Ve e h neg q y):=by
 simp only [aq];cases e.arg x with
 | none=>rfl
 | some v=>
  simp only [ac,Ve];cases e.arg y with
  | none=>cases v <;> rfl
  | some w=>cases v <;> cases w <;> rfl
def Me (h:Heap) (s t:Sh) (cs:List D) (m b a:Nat):Option (V×Heap):=if Sh.beq t s∧a≤b∧b≤m∧m≤cs.length then some (.d (.sl t ((cs.drop a).take (b-a))),h) else none
@[simp] theorem a19 (s t:Sh) (cs:List D) (m b a:Nat):Me h s t cs m b a=if Sh.beq t s∧a≤b∧b≤m∧m≤cs.length then some (.d (.sl t ((cs.drop a).take (b-a))),h) else none:=rfl
def L3 (e:Env) (h:Heap) (s t:Sh) (cs:List D) (lo:Option Arg) (m b:Nat):Option (V×Heap):=(cq e lo 0).bind (Me h s t cs m b)
@[simp] theorem a1c (s t:Sh) (cs:List D) (lo:Option Arg) (m b:Nat):L3 e h s t cs lo m b=(cq e lo 0).bind (Me h s t cs m b):=rfl
def Ms (e:Env) (h:Heap) (s t:Sh) (cs:List D) (lo hi:Option Arg) (m:Nat):Option (V×Heap):=(cq e hi cs.length).bind (L3 e h s t cs lo m)
@[simp] theorem a1h (s t:Sh) (cs:List D) (lo hi:Option Arg) (m:Nat):Ms e h s t cs lo hi m=(cq e hi cs.length).bind (L3 e h s t cs lo m):=rfl
def Mm (h:Heap) (s t:Sh) (i:Nat) (p:List Nat) (off n:Nat) (cap:Option Nat) (ismx:Bool) (m b a:Nat):Option (V×Heap):=if Sh.beq t s∧a≤b∧b≤m∧m≤n then some (.sl i p (off+a) (b-a) (if ismx then some (m-a) else cap.map (· - a)),h) else none
@[simp] theorem a1t (s t:Sh) (i:Nat) (p:List Nat) (off n:Nat) (cap:Option Nat) (ismx:Bool) (m b a:Nat):Mm h s t i p off n cap ismx m b a=if Sh.beq t s∧a≤b∧b≤m∧m≤n then some (.sl i p (off+a) (b-a) (if ismx then some (m-a) else cap.map (· - a)),h) else none:=rfl
def N0 (e:Env) (h:Heap) (s t:Sh) (i:Nat) (p:List Nat) (off n:Nat) (cap:Option Nat) (ismx:Bool) (lo:Option Arg) (m b:Nat):Option (V×Heap):=(cq e lo 0).bind (Mm h s t i p off n cap ismx m b)
@[simp] theorem a1y (s t:Sh) (i:Nat) (p:List Nat) (off n:Nat) (cap:Option Nat) (ismx:Bool) (lo:Option Arg) (m b:Nat):N0 e h s t i p off n cap ismx lo m b=(cq e lo 0).bind (Mm h s t i p off n cap ismx m b):=rfl
def Mp (e:Env) (h:Heap) (s t:Sh) (i:Nat) (p:List Nat) (off n:Nat) (cap:Option Nat) (ismx:Bool) (lo hi:Option Arg) (m:Nat):Option (V×Heap):=(cq e hi n).bind (N0 e h s t i p off n cap ismx lo m)
@[simp] theorem a1d (s t:Sh) (i:Nat) (p:List Nat) (off n:Nat) (cap:Option Nat) (ismx:Bool) (lo hi:Option Arg) (m:Nat):Mp e h s t i p off n cap ismx lo hi m=(cq e hi n).bind (N0 e h s t i p off n cap ismx lo m):=rfl
def Mj (e:Env) (h:Heap) (s:Sh) (i:Nat) (p:List Nat) (off n:Nat) (cap:Option Nat) (mx lo hi:Option Arg):Sh×List D→Option (V×Heap)
 | (t,_)=>(cq e mx n).bind (Mp e h s t i p off n cap mx.isSome lo hi)
@[simp] theorem a13 (s:Sh) (i:Nat) (p:List Nat) (off n:Nat) (cap:Option Nat) (mx lo hi:Option Arg) (t:Sh) (cs:List D):Mj e h s i p off n cap mx lo hi (t,cs)=(cq e mx n).bind (Mp e h s t i p off n cap mx.isSome lo hi):=rfl
def Yz (e:Env) (h:Heap) (s:Sh) (lo hi mx:Option Arg):V→Option (V×Heap)
 | .d (.sl t cs)=>(cq e mx cs.length).bind (Ms e h s t cs lo hi)
 | .sl i p off n cap=>((h[i]?).bind (kEl p)).bind (Mj e h s i p off n cap mx lo hi)
 | _=>none
@[simp] theorem a7v (s t:Sh) (cs:List D) (lo hi mx:Option Arg):Yz e h s lo hi mx (.d (.sl t cs))=(cq e mx cs.length).bind (Ms e h s t cs lo hi):=rfl
@[simp] theorem Ys (s:Sh) (i:Nat) (p:List Nat) (off n:Nat) (cap:Option Nat) (lo hi mx:Option Arg):Yz e h s lo hi mx (.sl i p off n cap)=((h[i]?).bind (kEl p)).bind (Mj e h s i p off n cap mx lo hi):=rfl
@[simp] theorem a75 (s:Sh) (x:Arg) (lo hi mx:Option Arg):aq O np e h (.cut none s x lo hi mx)=(e.arg x).bind (Yz e h s lo hi mx):=by
 simp only [aq];cases e.arg x with
 | none=>rfl
 | some v=>
  cases v with
  | d d=>cases d <;> rfl
  | sl i p off n cap=>
   simp only [ac,Ys];show ((h[i]?).bind (kEl p)).bind _=_
   congr 1
   funext q
   obtain ⟨t,cs⟩:=q;cases mx <;> rfl
  | _=>rfl
def Gr (h:Heap) (n:Nat) (i:Nat) (p:List Nat) (m b a:Nat):Option (V×Heap):=if a≤b∧b≤m∧m≤n then some (.sl i p a (b-a) (some (m-a)),h) else none
@[simp] theorem a0v (n i:Nat) (p:List Nat) (m b a:Nat):Gr h n i p m b a=if a≤b∧b≤m∧m≤n then some (.sl i p a (b-a) (some (m-a)),h) else none:=rfl
def Gh (e:Env) (h:Heap) (n:Nat) (i:Nat) (p:List Nat) (lo:Option Arg) (m b:Nat):Option (V×Heap):=(cq e lo 0).bind (Gr h n i p m b)
@[simp] theorem a1r (n i:Nat) (p:List Nat) (lo:Option Arg) (m b:Nat):Gh e h n i p lo m b=(cq e lo 0).bind (Gr h n i p m b):=rfl
def Gs (e:Env) (h:Heap) (n:Nat) (i:Nat) (p:List Nat) (lo hi:Option Arg) (m:Nat):Option (V×Heap):=(cq e hi n).bind (Gh e h n i p lo m)
@[simp] theorem a10 (n i:Nat) (p:List Nat) (lo hi:Option Arg) (m:Nat):Gs e h n i p lo hi m=(cq e hi n).bind (Gh e h n i p lo m):=rfl
def Gc (e:Env) (h:Heap) (n:Nat) (s:Sh) (i:Nat) (p:List Nat) (lo hi mx:Option Arg):D→Option (V×Heap)
 | .arr n' t _=>if n'=n∧Sh.beq t s then (cq e mx n).bind (Gs e h n i p lo hi) else none
 | _=>none
@[simp] theorem a2k (n n':Nat) (s t:Sh) (cs:List D) (i:Nat) (p:List Nat) (lo hi mx:Option Arg):Gc e h n s i p lo hi mx (.arr n' t cs)=if n'=n∧Sh.beq t s then (cq e mx n).bind (Gs e h n i p lo hi) else none:=rfl
def Xp (e:Env) (h:Heap) (n:Nat) (s:Sh) (lo hi mx:Option Arg):V→Option (V×Heap)
 | .ptr i p=>((h[i]?).bind (Aw p)).bind (Gc e h n s i p lo hi mx)
 | .d (.ip (.arr n' t cs))=>(cq e mx n).bind fun m=>(cq e hi n).bind fun b=>(cq e lo 0).bind fun a=>
  if n'=n∧Sh.beq t s∧a≤b∧b≤m∧m≤n then some (.d (.sl t ((cs.drop a).take (b-a))),h) else none
 | _=>none
@[simp] theorem Vz (n:Nat) (s:Sh) (lo hi mx:Option Arg) (i:Nat) (p:List Nat):Xp e h n s lo hi mx (.ptr i p)=((h[i]?).bind (Aw p)).bind (Gc e h n s i p lo hi mx):=rfl
@[simp] theorem a60 (n:Nat) (s:Sh) (x:Arg) (lo hi mx:Option Arg):aq O np e h (.cut (some n) s x lo hi mx)=(e.arg x).bind (Xp e h n s lo hi mx):=by
 simp only [aq];cases e.arg x with
 | none=>rfl
 | some v=>
 cases v with
 | d d=>cases d <;> try rfl
        rename_i d; cases d <;> rfl
 | ptr i p=>
 simp only [ac,Vz];show ((h[i]?).bind (Aw p)).bind _=_
 congr 1
 funext y
 cases y <;> try rfl
 rename_i n' t cs
 simp only [Gc]
 by_cases hc:n'=n∧Sh.beq t s=true
 ·rw [if_pos hc]
  cases cq e mx n with
  | none=>rfl
  | some m=>
   simp only [ac,Gs];cases cq e hi n with
   | none=>rfl
   | some b=>
    simp only [ac,Gh];cases cq e lo 0 with
    | none=>rfl
    | some a=>simp only [ac,Gr,hc,true_and]
 ·rw [if_neg hc]
  cases cq e mx n with
  | none=>rfl
  | some m=>
   simp only [ac];cases cq e hi n with
   | none=>rfl
   | some b=>
    simp only [ac];cases cq e lo 0 with
    | none=>rfl
    | some a=>
     simp only [ac];rw [if_neg]
     rintro ⟨h1,h2,_⟩
     exact hc ⟨h1,h2⟩
 | _=>rfl
def Yt (h:Heap) (n:Nat) (s:Sh) (cs:List D):V×Heap:=(.d (.arr n s cs),h)
@[simp] theorem a4w (n:Nat) (s:Sh) (cs:List D):Yt h n s cs=(.d (.arr n s cs),h):=rfl
def kSt (h:Heap) (ss:List Sh) (cs:List D):V×Heap:=(.d (.st ss cs),h)
@[simp] theorem a6l (ss:List Sh) (cs:List D):kSt h ss cs=(.d (.st ss cs),h):=rfl
def B3 (xs:List (Nat×D)):D→Heap→Option (V×Heap)
 | .arr n s cs,h=>(n8 cs xs).map (Yt h n s)
 | .st ss cs,h=>(n8 cs xs).map (kSt h ss)
 | _,_=>none
@[simp] theorem a11 (xs:List (Nat×D)) (n:Nat) (s:Sh) (cs:List D):B3 xs (.arr n s cs) h=(n8 cs xs).map (Yt h n s):=rfl
@[simp] theorem a1e (xs:List (Nat×D)) (ss:List Sh) (cs:List D):B3 xs (.st ss cs) h=(n8 cs xs).map (kSt h ss):=rfl
def Nc (h:Heap) (fz:Bool) (z:D) (rs:List Nat) (xs:List (Nat×D)):Option (V×Heap):=(freezeIf fz h rs).bind (B3 xs z)
@[simp] theorem a1o (fz:Bool) (z:D) (rs:List Nat) (xs:List (Nat×D)):Nc h fz z rs xs=(freezeIf fz h rs).bind (B3 xs z):=rfl
@[simp] theorem a37 (fz:Bool) (z:D) (ps:List (Nat×Arg)):aq O np e h (.build fz z ps)=(gn e h ps).bind (Nc h fz z (d5 e ps)):=by
 simp only [aq];cases gn e h ps with
 | none=>rfl
 | some xs=>
  simp only [ac,Nc];cases freezeIf fz h (d5 e ps) with
  | none=>rfl
  | some h'=>cases z <;> rfl
def Sk (id n:Nat) (s:Sh) (cs:List D) (h:Heap):Option (V×Heap):=(f6 h id (.sl false s cs)).map (Prod.mk (.sl id [] 0 n (some n)))
@[simp] theorem a27 (id n:Nat) (s:Sh) (cs:List D):Sk id n s cs h=(f6 h id (.sl false s cs)).map (Prod.mk (.sl id [] 0 n (some n))):=rfl
def Uy (h:Heap) (fz:Bool) (id n:Nat) (s:Sh) (rs:List Nat) (cs:List D):Option (V×Heap):=(freezeIf fz h rs).bind (Sk id n s cs)
@[simp] theorem a2u (fz:Bool) (id n:Nat) (s:Sh) (rs:List Nat) (cs:List D):Uy h fz id n s rs cs=(freezeIf fz h rs).bind (Sk id n s cs):=rfl
def Xt (h:Heap) (fz:Bool) (id n:Nat) (s:Sh) (z:D) (rs:List Nat) (xs:List (Nat×D)):Option (V×Heap):=(n8 (List.replicate n z) xs).bind (Uy h fz id n s rs)
@[simp] theorem a49 (fz:Bool) (id n:Nat) (s:Sh) (z:D) (rs:List Nat) (xs:List (Nat×D)):Xt h fz id n s z rs xs=(n8 (List.replicate n z) xs).bind (Uy h fz id n s rs):=rfl
@[simp] theorem Yn (fz:Bool) (i:Nat) (s:Sh) (z:D) (n:Nat) (ps:List (Nat×Arg)):aq O np e h (.buildSl fz i s z n ps)=(gn e h ps).bind (Xt h fz (np+i) n s z (d5 e ps)):=rfl
end
@[simp] theorem a1k (k:IntKind) (n:Int):(D.int k n).isTup=false:=rfl
@[simp] theorem a79 (k:IntKind) (n:Int):(D.int k n).sh=.leaf:=rfl
@[simp] theorem a0o (b:Bool):(D.bool b).isTup=false:=rfl
@[simp] theorem a4z (b:Bool):(D.bool b).sh=.leaf:=rfl
@[simp] theorem a1v (s:ByteArray):(D.str s).isTup=false:=rfl
@[simp] theorem a6w (s:ByteArray):(D.str s).sh=.leaf:=rfl
@[simp] theorem a1q (n:Nat) (s:Sh) (cs:List D):(D.arr n s cs).isTup=false:=rfl
@[simp] theorem a6n (n:Nat) (s:Sh) (cs:List D):(D.arr n s cs).sh=.arr n s:=rfl
@[simp] theorem a3t (ss:List Sh) (cs:List D):(D.st ss cs).isTup=false:=rfl
@[simp] theorem a7x (ss:List Sh) (cs:List D):(D.st ss cs).sh=.st ss:=rfl
@[simp] theorem a3d (s:Sh) (cs:List D):(D.sl s cs).isTup=false:=rfl
@[simp] theorem a85 (s:Sh) (cs:List D):(D.sl s cs).sh=.leaf:=rfl
@[simp] theorem a1n (cs:List D):(D.tup cs).isTup=true:=rfl
@[simp] theorem a6y (cs:List D):(D.tup cs).sh=.leaf:=rfl
@[simp] theorem a3n (d:D):(D.ip d).isTup=false:=rfl
@[simp] theorem a7y (d:D):(D.ip d).sh=.leaf:=rfl
@[simp] theorem a0d  : D.nilp.isTup=false:=rfl
@[simp] theorem a51  : D.nilp.sh=.leaf:=rfl
@[simp] theorem a05 (s:Sh):(D.nils s).isTup=false:=rfl
@[simp] theorem a5h (s:Sh):(D.nils s).sh=.leaf:=rfl
@[simp] theorem a4c (f:Nat) (a b:List D):(D.fn f a b).isTup=false:=rfl
@[simp] theorem a83 (f:Nat) (a b:List D):(D.fn f a b).sh=.leaf:=rfl
@[simp] theorem Yl  : D.nilf.isTup=false:=rfl
@[simp] theorem a50  : D.nilf.sh=.leaf:=rfl
@[simp] theorem Xk (n:Nat) (d:D):(D.iface n d).isTup=false:=rfl
@[simp] theorem a28 (n:Nat) (d:D):(D.iface n d).sh=.leaf:=rfl
@[simp] theorem Yk  : D.nili.isTup=false:=rfl
@[simp] theorem a5j  : D.nili.sh=.leaf:=rfl
def Qz (k:IntKind) (x y:Int):Int:=k.wrap (BitVec.ofInt k.bits x &&& BitVec.ofInt k.bits y).toNat
def orI (k:IntKind) (x y:Int):Int:=k.wrap (BitVec.ofInt k.bits x ||| BitVec.ofInt k.bits y).toNat
def a7c (k:IntKind) (x y:Int):Int:=k.wrap (BitVec.ofInt k.bits x ^^^ BitVec.ofInt k.bits y).toNat
section
variable (k:IntKind) (x y:Int)
@[simp] theorem a26:ta .add k x y=some (.int k (k.wrap (x+y))):=rfl
@[simp] theorem a4d:ta .sub k x y=some (.int k (k.wrap (x-y))):=rfl
@[simp] theorem a2t:ta .mul k x y=some (.int k (k.wrap (x*y))):=rfl
@[simp] theorem a4m:ta .quo k x y=if y=0 then none else some (.int k (k.wrap (x.tdiv y))):=rfl
@[simp] theorem a2e:ta .rem k x y=if y=0 then none else some (.int k (x.tmod y)):=rfl
@[simp] theorem a3r:ta .and k x y=some (.int k (Qz k x y)):=rfl
@[simp] theorem a4s:ta .or k x y=some (.int k (orI k x y)):=rfl
@[simp] theorem a3g:ta .xor k x y=some (.int k (a7c k x y)):=rfl
@[simp] theorem a43:ta .eql k x y=some (.bool (decide (x=y))):=rfl
@[simp] theorem a2q:ta .neq k x y=some (.bool (!decide (x=y))):=rfl
@[simp] theorem a2z:ta .lss k x y=some (.bool (decide (x<y))):=rfl
@[simp] theorem a23:ta .leq k x y=some (.bool (decide (x≤y))):=rfl
@[simp] theorem a2i:ta .gtr k x y=some (.bool (decide (y<x))):=rfl
@[simp] theorem a31:ta .geq k x y=some (.bool (decide (y≤x))):=rfl
end
def qq (o:BinOp) (k k':IntKind) (a b:Int):Option D:=if k=k' then ta o k a b else none
@[simp] theorem a3q (o:BinOp) (k:IntKind) (a b:Int):qq o k k a b=ta o k a b:=if_pos rfl
section
variable (k k':IntKind) (a b:Int)
@[simp] theorem a42:sb .shl (.int k a) (.int k' b)=t5 .shl k a b:=rfl
@[simp] theorem a2w:sb .shr (.int k a) (.int k' b)=t5 .shr k a b:=rfl
@[simp] theorem a3c:sb .add (.int k a) (.int k' b)=qq .add k k' a b:=rfl
@[simp] theorem a30:sb .sub (.int k a) (.int k' b)=qq .sub k k' a b:=rfl
@[simp] theorem a3o:sb .mul (.int k a) (.int k' b)=qq .mul k k' a b:=rfl
@[simp] theorem a2s:sb .quo (.int k a) (.int k' b)=qq .quo k k' a b:=rfl
@[simp] theorem a2n:sb .rem (.int k a) (.int k' b)=qq .rem k k' a b:=rfl
@[simp] theorem a20:sb .and (.int k a) (.int k' b)=qq .and k k' a b:=rfl
@[simp] theorem a63:sb .or (.int k a) (.int k' b)=qq .or k k' a b:=rfl
@[simp] theorem a2r:sb .xor (.int k a) (.int k' b)=qq .xor k k' a b:=rfl
@[simp] theorem a3i:sb .eql (.int k a) (.int k' b)=qq .eql k k' a b:=rfl
@[simp] theorem a4l:sb .neq (.int k a) (.int k' b)=qq .neq k k' a b:=rfl
@[simp] theorem a4e:sb .lss (.int k a) (.int k' b)=qq .lss k k' a b:=rfl
@[simp] theorem a44:sb .leq (.int k a) (.int k' b)=qq .leq k k' a b:=rfl
@[simp] theorem a33:sb .gtr (.int k a) (.int k' b)=qq .gtr k k' a b:=rfl
@[simp] theorem a3a:sb .geq (.int k a) (.int k' b)=qq .geq k k' a b:=rfl
end
@[simp] theorem a22 (o:BinOp) (a b:ByteArray):sb o (.str a) (.str b)=(match o with | .shl | .shr=>none | o=>Vu o a b):=by cases o <;> rfl
attribute [simp] k9
attribute [simp] Env.clear Vt Yb Xc a0i S5 andThen Ni fin nr Xl Ins.side Ins.on Env.arg Env.get Env.keep Env.kill Op.kill Env.putO Env.refsOf Op.temps Arg.temps ub s9 qx
 V.refs V.refss Sh.beq Sh.beqs Blk.get Blk.set Blk.elems D.get D.set D.arrOf freezeIf freeze Blk.freeze f6 n8 gn d5 cq V.nat? unD callee pn Heap.pick Heap.put putNews Blk.isHole V.ren V.rens tr L0 jf params D.flat D.flats pa Env.refd Env.free
theorem bc {T:Nat→Option Fn} {A:ah} {f:Nat} {fn:Fn} (hT:T f=some fn) {ds:List D} {d:D} (hl:ds.length=fn.nparams)
 (h:((dn (den T A) 0 fn.body ⟨params 0 (ds.map .d),List.replicate fn.nblk .hole⟩).bind (fin fn 0)).bind a00=some d):ask (den T A) f ds=some d:=by
 obtain ⟨r,h1,h2⟩:=a8.1 h;unfold ask;rw [jb hT (vs:=ds.map .d) (bs:=[]) (by rw [c7]; exact hl) h1]
 exact h2
theorem bb {O:ah} {np:Nat} {c:Cd} {s s1:St} {r:Option (Out×St)} (h:dn O np c s=some (.normal,s1)) (h2:dn O np (.loop c) s1=r):dn O np (.loop c) s=r:=by
 rw [H6,h]; exact h2
theorem bo {O:ah} {np:Nat} {c:Cd} {s s1:St} {id:Nat} (h:dn O np c s=some (.exit id,s1)):dn O np (.loop c) s=some (.exit id,s1):=by
 rw [H6,h]; rfl
theorem ki {O:ah} {np:Nat} {c:Cd} {s s1:St} (h:dn O np c s=some (.ret,s1)):dn O np (.loop c) s=some (.ret,s1):=by
 rw [H6,h]; rfl
def ak (k:IntKind) (l:List Int):List D:=l.map (.int k)
@[simp] theorem In (k:IntKind) (l:List Int):(ak k l).length=l.length:=by simp [ak]
@[simp] theorem a3l (k:IntKind) (l:List Int) (i:Nat):(ak k l)[i]? = (l[i]?).map (.int k):=by simp [ak]
@[simp] theorem W3 (k:IntKind) (l:List Int) (i:Nat) (h:i<(ak k l).length):(ak k l)[i]=.int k (l[i]'(by simpa using h)):=by simp [ak]
@[simp] theorem a1u (k:IntKind) (l:List Int) (n:Nat):(ak k l).take n=ak k (l.take n):=by simp [ak]
@[simp] theorem a1f (k:IntKind) (l:List Int) (n:Nat):(ak k l).drop n=ak k (l.drop n):=by simp [ak]
@[simp] theorem a2h (k:IntKind) (l:List Int) (n:Nat) (x:Int):(ak k l).set n (.int k x)=ak k (l.set n x):=by simp [ak,List.map_set]
@[simp] theorem Ah (k:IntKind) (l m:List Int):ak k l++ak k m=ak k (l++m):=by simp [ak]
@[simp] theorem Rg (k:IntKind) (n:Nat) (x:Int):List.replicate n (D.int k x)=ak k (List.replicate n x):=by simp [ak]
@[simp] theorem Jx (k:IntKind):∀l:List Int,D.flats (ak k l)=true
 | []=>rfl
 | x::l=>by show (D.flat (.int k x)&&D.flats (ak k l))=true; rw [Jx k l]; rfl
theorem gt (k:IntKind):ak k []=[]:=rfl
@[simp] theorem a2p (n:Nat):List.replicate (n+1) Blk.hole=.hole::List.replicate n .hole:=rfl
@[simp] theorem a15:List.replicate 0 Blk.hole=[]:=rfl
theorem w64 {x:Int} (h:-9223372036854775808≤x∧x≤9223372036854775807):IntKind.i64.wrap x=x:=IntWalk.i64_in x h
theorem w8 {x:Int} (h:0≤x∧x<256):IntKind.u8.wrap x=x:=by
 simp only [IntKind.wrap,IntKind.bits,IntKind.signed];simp;omega
end Pe

namespace Pe
open Go Go.ChangeShapes
inductive Ty where
 | int (k:IntKind)
 | bool
 | str
 | arr (n:Nat) (T:Ty)
 | st (Ts:List Ty)
 | sl (T:Ty)
mutual
def Ty.sh:Ty→Sh
 | .arr n T=>.arr n T.sh
 | .st Ts=>.st (Ty.shs Ts)
 | .int _ | .bool | .str | .sl _=>.leaf
def Ty.shs:List Ty→List Sh
 | []=>[]
 | T::Ts=>T.sh::Ty.shs Ts
end
mutual
def sg (P:Program):TypeId→Ty→Bool
 | t,.int k=>(match P.underlying t with | some (.int k')=>k' == k | _=>false)&&P.cellsOf t == 1
 | t,.bool=>(match P.underlying t with | some .bool=>true | _=>false)&&P.cellsOf t == 1
 | t,.str=>(match P.underlying t with | some .string=>true | _=>false)&&P.cellsOf t == 1
 | t,.arr n T=>(match P.underlying t with | some (.array m e)=>m == n&&sg P e T | _=>false)&&P.cellsOf t == n*T.sh.size
 | t,.st Ts=>(match P.underlying t with | some (.struct fs)=>v9 P fs.toList 0 Ts | _=>false)&&P.cellsOf t == Sh.sizes (Ty.shs Ts)
 | t,.sl T=>(match P.underlying t with | some (.slice e)=>sg P e T&&decide (0<T.sh.size) | _=>false)&&P.cellsOf t == 1
def v9 (P:Program):List Field→Nat→List Ty→Bool
 | [],_,[]=>true
 | f::fs,o,T::Ts=>f.offset == o&&sg P f.type T&&v9 P fs (o+T.sh.size) Ts
 | _,_,_=>false
end
mutual
def Ty.has:Ty→D→Prop
 | .int k,.int k' n=>k'=k∧(Lit.int k n).wf=true
 | .bool,.bool _=>True
 | .str,.str s=>s.size≤maxLen
 | .arr n T,.arr m s xs=>m=n∧s=T.sh∧xs.length=n∧∀x∈xs,T.has x
 | .st Ts,.st ss xs=>ss=Ty.shs Ts∧Ty.hasAll Ts xs
 | .sl T,.sl s xs=>s=T.sh∧xs.length≤9223372036854775807∧∀x∈xs,T.has x
 | _,_=>False
def Ty.hasAll:List Ty→List D→Prop
 | [],[]=>True
 | T::Ts,x::xs=>T.has x∧Ty.hasAll Ts xs
 | _,_=>False
end
theorem sj {P:Program} {t:TypeId} {T:Ty} (h:sg P t T=true):P.cellsOf t=T.sh.size:=by
 cases T <;> simp only [sg,al,beq_iff_eq] at h <;> simp only [Ty.sh,Sh.size] <;> exact h.2
mutual
theorem L1:∀(T:Ty) (d:D),T.has d→d.sh=T.sh
 | .int _,d,h | .bool,d,h | .str,d,h=>by cases d <;> simp [Ty.has] at h <;> rfl
 | .arr n T,d,h=>by
  cases d <;> simp only [Ty.has] at h
  obtain ⟨rfl,rfl,-⟩:=h;rfl
 | .st Ts,d,h=>by
  cases d <;> simp only [Ty.has] at h
  obtain ⟨rfl,-⟩:=h;rfl
 | .sl T,d,h=>by cases d <;> simp only [Ty.has] at h; rfl
end
section
variable {H:Type} {enc:TypeId×Value→H} {P:Program} {C:Cx} {base:Nat} {sp:Nat→Bool} {held:Bool}
theorem wz {s:Sh} {Q:D→Prop} (hs:∀d,Q d→d.sh=s):∀(n:Nat) (cs:List Value),cs.length=n*s.size→(∀i,i<n→∃d,Q d∧RD C d ((cs.drop (i*s.size)).take s.size)) →
 ∃ds:List D,ds.length=n∧(∀d∈ds,Q d)∧RDs C s ds cs
 | 0,cs,hl,_=>⟨[],rfl,by simp,by simp only [RDs]; exact ez.1 (by simpa using hl)⟩
 | n+1,cs,hl,h=>by
  obtain ⟨d,hq,hd⟩:=h 0 (by omega)
  obtain ⟨ds,h1,h2,h3⟩:=wz hs n (cs.drop s.size) (by rw [eb,hl,dk]; omega) (fun i hi=>by
   obtain ⟨d,hq,hd⟩:=h (i+1) (by omega)
   refine ⟨d,hq,?_⟩;rw [f8,show s.size+i*s.size=(i+1)*s.size by rw [dk]; omega]
   exact hd)
  refine ⟨d::ds,by simp [h1],by simpa using ⟨hq,h2⟩,?_⟩
  simp only [RDs];rw [m8,de] at hd;exact ⟨cs.take s.size,cs.drop s.size,(fe _ _).symm,hs d hq,hd,h3⟩
theorem Qb {w:World} {a:Addr} {v:Value} (h:w.cell? a=some v):a.spot=none∧∃c el fz,w.heap[a.block]? = some (.cells c el fz)∧c[a.off]? = some v:=by
 unfold World.cell? at h
 split at h
 ·rename_i c el fz hc
  split at h
  ·cases h
  ·rename_i hs
   exact ⟨by simpa using hs,c,el,fz,hc,h⟩
 ·cases h
theorem Uv {w:World} {a:Addr} {n:Nat} {cs:List Value} (hn:0<n) (h:w.cells? base a n=some cs):a.spot=none∧cs.length=n∧CellsAt w a.block a.off cs:=by
 obtain ⟨h1,h2,h3⟩:=World.cells?_some h;have h0:=h3 0 hn;rw [ao (by omega),Addr.add,if_pos rfl] at h0
 obtain ⟨hsp,c,el,fz,hc,_⟩:=Qb h0;refine ⟨hsp,h2,c,el,fz,hc,fun j u hu=>?_⟩
 have hj:j<n:=by
  have:=(ap.1 hu).1;omega
 have h4:=h3 j hj;rw [hu] at h4;unfold World.cell? at h4
 have hb:(a.add j).block=a.block∧(a.add j).off=a.off+j∧(a.add j).spot=none:=by
  unfold Addr.add
  split
  ·rename_i h; subst h; exact ⟨rfl,rfl,hsp⟩
  ·exact ⟨rfl,rfl,rfl⟩
 rw [hb.1,hc,hb.2.1,hb.2.2] at h4
 simpa using h4
theorem y9 {s:Sh} {Q:D→Prop} (hs:∀d,Q d→d.sh=s) (hk:0<s.size) {b:Nat}:∀(n o:Nat),0<n→(∀i,i<n→∃d cs,Q d∧RD C d cs∧cs.length=s.size∧CellsAt C.w b (o+i*s.size) cs) →
 ∃(ds:List D) (us:List Value),ds.length=n∧(∀d∈ds,Q d)∧RDs C s ds us∧us.length=n*s.size∧CellsAt C.w b o us
 | 0,o,h0,h=>absurd h0 (by omega)
 | n+1,o,_,h=>by
  obtain ⟨d,cs,hq,hd,hl,hc⟩:=h 0 (by omega)
  rw [m8,fk] at hc;rcases ia n with hn | hn
  ·subst hn
   exact ⟨[d],cs,rfl,by simpa using hq,by simp only [RDs]; exact ⟨cs,[],by simp,hs d hq,hd,rfl⟩,by omega,hc⟩
  ·obtain ⟨ds,us,h1,h2,h3,h4,h5⟩:=y9 hs hk n (o+s.size) hn (fun i hi=>by
    obtain ⟨d,cs,hq,hd,hl,hc⟩:=h (i+1) (by omega)
    refine ⟨d,cs,hq,hd,hl,?_⟩;rw [show o+s.size+i*s.size=o+(i+1)*s.size by rw [dk]; omega]
    exact hc)
   refine ⟨d::ds,cs++us,by simp [h1],by simpa using ⟨hq,h2⟩,by simp only [RDs]; exact ⟨cs,us,rfl,hs d hq,hd,h3⟩,by rw [ch,hl,h4,dk]; omega,?_⟩
   obtain ⟨a,el,fz,ha,hc⟩:=hc;obtain ⟨a',el',fz',ha',hc'⟩:=h5;obtain ⟨rfl,rfl,rfl⟩:a=a'∧el=el'∧fz=fz':=by rw [ha] at ha'; simpa using ha'
   refine ⟨a,el,fz,ha,fun j u hu=>?_⟩
   by_cases hj:j<cs.length
   ·rw [bh hj] at hu; exact hc j u hu
   ·rw [bk (by omega)] at hu
    have:=hc' _ u hu
    rwa [show o+s.size+(j-cs.length)=o+j by omega] at this
mutual
theorem te (hI:∀b,b<C.w.heap.size→C.I b):∀(T:Ty) (t:TypeId) (fuel:Nat) (cs:List Value) (x:DataW H×List MemPlace),sg P t T=true→DataW.trod enc P C.w base sp held fuel t cs=some x→∃d,T.has d∧RD C d cs
 | .int k,t,fuel,cs,x,hf,h=>by
  simp only [sg,al] at hf
  replace hf:=hf.1
  split at hf <;> simp at hf
  rename_i k' hu
  subst hf;obtain ⟨n,rfl,-,hw⟩:=DataW.trod_int hu h;exact ⟨.int k' n,⟨rfl,hw⟩,rfl⟩
 | .bool,t,fuel,cs,x,hf,h=>by
  simp only [sg,al] at hf
  replace hf:=hf.1
  split at hf <;> simp at hf
  rename_i hu
  obtain ⟨b,rfl,-⟩:=DataW.trod_bool hu h;exact ⟨.bool b,trivial,rfl⟩
 | .str,t,fuel,cs,x,hf,h=>by
  simp only [sg,al] at hf
  replace hf:=hf.1
  split at hf <;> simp at hf
  rename_i hu
  obtain ⟨s,rfl,-,hw⟩:=DataW.trod_string hu h;exact ⟨.str s,hw,rfl⟩
 | .arr n T,t,fuel,cs,x,hf,h=>by
  have hsz:=sj hf;simp only [sg,al] at hf
  replace hf:=hf.1
  split at hf <;> simp at hf
  rename_i m e hu
  obtain ⟨rfl,hfe⟩:=hf;have hse:=sj hfe;obtain ⟨xs,k,-,-,hl,hxl,hx⟩:=DataW.trod_array hu h
  obtain ⟨ds,h1,h2,h3⟩:=wz (C:=C) (s:=T.sh) (Q:=T.has) (L1 T) m cs (by rw [hl,hsz]; rfl) (fun i hi=>by
   have h4:=hx i hi;rw [ao (by omega),hse] at h4
   exact te hI T e k _ _ hfe h4)
  exact ⟨.arr m T.sh ds,⟨rfl,rfl,h1,h2⟩,by simp only [RD]; exact ⟨h1,h3⟩⟩
 | .st Ts,t,fuel,cs,x,hf,h=>by
  have hsz:=sj hf;simp only [sg,al] at hf
  replace hf:=hf.1
  split at hf
  case h_2=>cases hf
  rename_i fs hu
  obtain ⟨xs,k,-,-,hl,hxl,hx⟩:=DataW.trod_struct hu h
  obtain ⟨ds,h1,h2⟩:=wu hI Ts fs.toList 0 k cs hf (by rw [hl,hsz]; simp [Ty.sh,Sh.size]) (fun f hfm=>by
   obtain ⟨i,hi,rfl⟩:=me hfm;have h4:=hx i fs.toList[i] (by rw [←ij]; exact ao hi)
   rw [ao (by rw [hxl,←pt]; exact hi)] at h4
   exact ⟨_,h4⟩)
  exact ⟨.st (Ty.shs Ts) ds,⟨rfl,h1⟩,by simp only [RD]; exact h2⟩
 | .sl T,t,fuel,cs,x,hf,h=>by
  simp only [sg,al] at hf
  replace hf:=hf.1
  split at hf <;> simp at hf
  rename_i e hu
  obtain ⟨hfe,hk⟩:=hf;have hse:=sj hfe;rcases DataW.trod_slice hu h with ⟨rfl,-⟩ | ⟨a,len,cap,elems,rest,n,-,rfl,-,hb,hle,hcap,hel,hx,-⟩
  ·exact ⟨.sl T.sh [],⟨rfl,by simp,by simp⟩,by simp only [RD]; exact ⟨none,0,rfl,az _,.inl trivial⟩⟩
  ·rcases ia len with h0 | h0
   ·subst h0
    exact ⟨.sl T.sh [],⟨rfl,by simp,by simp⟩,by simp only [RD]; exact ⟨_,cap,rfl,hle,.inl trivial⟩⟩
   ·have hcell:∀i,i<len→∃d cs,T.has d∧RD C d cs∧cs.length=T.sh.size∧(a.add (i*T.sh.size)).spot=none∧CellsAt C.w a.block (a.off+i*T.sh.size) cs:=fun i hi=>by
     have h4:=hx i hi;rw [ao (by omega),hse] at h4
     obtain ⟨cs,hc,hy⟩:=a8.1 h4;obtain ⟨h5,h6,h7⟩:=Uv hk hc;obtain ⟨d,hd1,hd2⟩:=te hI T e n _ _ hfe hy
     have hbl:(a.add (i*T.sh.size)).block=a.block∧(a.add (i*T.sh.size)).off=a.off+i*T.sh.size:=by
      unfold Addr.add
      split
      ·rename_i h; rw [h]; exact ⟨rfl,rfl⟩
      ·exact ⟨rfl,rfl⟩
     rw [hbl.1,hbl.2] at h7;exact ⟨d,cs,hd1,hd2,h6,h5,h7⟩
    obtain ⟨ds,us,h1,h2,h3,h4,h5⟩:=y9 (C:=C) (s:=T.sh) (Q:=T.has) (L1 T) hk len a.off h0 (fun i hi=>by
     obtain ⟨d,cs,g1,g2,g3,-,g4⟩:=hcell i hi;exact ⟨d,cs,g1,g2,g3,g4⟩)
    have hsp:a.spot=none:=by
     obtain ⟨_,_,_,_,_,g,_⟩:=hcell 0 h0;rw [m8,Addr.add,if_pos rfl] at g;exact g
    have hlt:a.block<C.w.heap.size:=by
     obtain ⟨c,el,fz,hc,-⟩:=h5;exact (cj.1 hc).1
    refine ⟨.sl T.sh ds,⟨rfl,by rw [h1]; unfold maxLen at hcap; omega,h2⟩,?_⟩
    simp only [RD];refine ⟨some a,cap,by rw [h1],by omega,.inr ⟨a.block,a.off,us,?_,hI _ hlt,h3,h5⟩⟩
    cases a;simp only at hsp;rw [hsp]
theorem wu (hI:∀b,b<C.w.heap.size→C.I b):∀(Ts:List Ty) (fs:List Field) (o fuel:Nat) (cs:List Value),v9 P fs o Ts=true→cs.length=o+Sh.sizes (Ty.shs Ts) →
 (∀f∈fs,∃x,DataW.trod enc P C.w base sp held fuel f.type ((cs.drop f.offset).take (P.cellsOf f.type))=some x)→∃ds,Ty.hasAll Ts ds∧RDst C (Ty.shs Ts) ds (cs.drop o)
 | [],[],o,fuel,cs,_,hl,_=>⟨[],trivial,by simp only [Ty.shs,RDst]; rw [List.drop_eq_nil_iff]; simp [Ty.shs,Sh.sizes] at hl; omega⟩
 | [],_::_,o,fuel,cs,hf,_,_=>by simp [v9] at hf
 | _::_,[],o,fuel,cs,hf,_,_=>by simp [v9] at hf
 | T::Ts,f::fs,o,fuel,cs,hf,hl,h=>by
  simp only [v9,al,beq_iff_eq] at hf;obtain ⟨⟨ho,hft⟩,hfs⟩:=hf;have hse:=sj hft;simp only [Ty.shs,Sh.sizes] at hl;obtain ⟨x,hx⟩:=h f (by simp)
  obtain ⟨d,hd1,hd2⟩:=te hI T f.type fuel _ x hft hx;obtain ⟨ds,h1,h2⟩:=wu hI Ts fs (o+T.sh.size) fuel cs hfs (by omega) (fun g hg=>h g (List.mem_cons_of_mem _ hg))
  refine ⟨d::ds,⟨hd1,h1⟩,?_⟩;simp only [Ty.shs,RDst];rw [hse,ho] at hd2;refine ⟨_,_,?_,L1 T d hd1,hd2,h2⟩;rw [←f8,fe]
end
theorem Wc {W:World} {r:Reach} {T:Ty} {t:TypeId} {v:Value} {d:D} (hf:sg P t T=true) (hd:T.has d) (h:Value.okWide P W r base t v):isAgg v=d.isAgg:=by
 unfold Value.okWide at h;cases T with
 | int k=>
  simp only [sg,al] at hf
  replace hf:=hf.1
  split at hf <;> simp at hf
  rename_i k' hu
  rw [hu] at h;cases d <;> simp only [Ty.has] at hd
  cases v <;> first | rfl | (simp [Cell.okWide,Cell.ok,hu] at h; done)
 | bool=>
  simp only [sg,al] at hf
  replace hf:=hf.1
  split at hf <;> simp at hf
  rename_i hu
  rw [hu] at h;cases d <;> simp only [Ty.has] at hd
  cases v <;> first | rfl | (simp [Cell.okWide,Cell.ok,hu] at h; done)
 | str=>
  simp only [sg,al] at hf
  replace hf:=hf.1
  split at hf <;> simp at hf
  rename_i hu
  rw [hu] at h;cases d <;> simp only [Ty.has] at hd
  cases v <;> first | rfl | (simp [Cell.okWide,Cell.ok,hu] at h; done)
 | sl T=>
  simp only [sg,al] at hf
  replace hf:=hf.1
  split at hf <;> simp at hf
  rename_i e hu
  rw [hu] at h;cases d <;> simp only [Ty.has] at hd
  cases v <;> first | rfl | (simp [Cell.okWide,Cell.ok,hu] at h; done)
 | arr n T=>
  simp only [sg,al] at hf
  replace hf:=hf.1
  split at hf
  case h_2=>cases hf
  rename_i hu
  rw [hu] at h;obtain ⟨cs,rfl,-⟩:=h;cases d <;> simp only [Ty.has] at hd
  rfl
 | st Ts=>
  simp only [sg,al] at hf
  replace hf:=hf.1
  split at hf
  case h_2=>cases hf
  rename_i hu
  rw [hu] at h;obtain ⟨cs,rfl,-⟩:=h;cases d <;> simp only [Ty.has] at hd
  rfl
def u4 (P:Program):List TypeId→List Ty→Bool
 | [],[]=>true
 | t::ts,T::Ts=>sg P t T&&P.readableRec t&&decide (t<P.types.size)&&u4 P ts Ts
 | _,_=>false
theorem Et (hI:∀b,b<C.w.heap.size→C.I b) {r:Reach} {b0:Nat}:∀(ts:List TypeId) (Ts:List Ty) (vs:List Value) (ds:List (DataW H)) (ps:List MemPlace),u4 P ts Ts=true→DataW.TrodAll enc P C.w base sp held ts vs ds ps →
 (∀(j:Nat) t v,ts[j]? = some t→vs[j]? = some v→Value.okWide P C.w r b0 t v)→∃xs,Ty.hasAll Ts xs∧RVs C xs vs
 | [],[],vs,ds,ps,_,h,_=>by
  obtain ⟨rfl,-,-⟩:=trodAll_nil h;exact ⟨[],trivial,by simp only [RVs]⟩
 | [],_::_,vs,ds,ps,hf,_,_=>by simp [u4] at hf
 | _::_,[],vs,ds,ps,hf,_,_=>by simp [u4] at hf
 | t::ts,T::Ts,vs,ds,ps,hf,h,hv=>by
  simp only [u4,al] at hf;obtain ⟨⟨⟨hf1,-⟩,-⟩,hf2⟩:=hf;obtain ⟨v,vs',d,ds',p,q,rfl,rfl,rfl,⟨fuel,hd⟩,hr⟩:=trodAll_cons h;obtain ⟨x,hx1,hx2⟩:=te hI T t fuel _ _ hf1 hd;obtain ⟨xs,h1,h2⟩:=Et hI ts Ts vs' ds' q hf2 hr (fun j t' v' hj hv'=>hv (j+1) t' v' (by simpa using hj) (by simpa using hv'))
  refine ⟨x::xs,⟨hx1,h1⟩,?_⟩;simp only [RVs];exact ⟨v,vs',rfl,Wc hf1 hx1 (hv 0 t v rfl rfl),hx2,h2⟩
theorem Ez {W W':World} (hl:laidOutB P=true) (hb:RowKit.Below W.heap.size W W'):∀(ts:List TypeId) (Ts:List Ty) (vs:List Value) (ds:List (DataW H)) (ps:List MemPlace),u4 P ts Ts=true→DataW.TrodAll enc P W 0 (fun _=>true) true ts vs ds ps →
 (∀x∈ps,x.block<W.heap.size)→DataW.TrodAll enc P W' 0 (fun b=>decide (b<W.heap.size)) true ts vs ds ps
 | [],[],vs,ds,ps,_,h,_=>by
  obtain ⟨rfl,rfl,rfl⟩:=trodAll_nil h;rfl
 | [],_::_,vs,ds,ps,hf,_,_=>by simp [u4] at hf
 | _::_,[],vs,ds,ps,hf,_,_=>by simp [u4] at hf
 | t::ts,T::Ts,vs,ds,ps,hf,h,hp=>by
  simp only [u4,al,decide_eq_true_eq] at hf;obtain ⟨⟨⟨-,hf1⟩,hf3⟩,hf2⟩:=hf;obtain ⟨v,vs',d,ds',p,q,rfl,rfl,rfl,hd,hr⟩:=trodAll_cons h;exact ⟨p,q,RowKit.Below.trod hl hf1 hf3 hd hb (fun x hx=>hp x (bx _ hx)),Ez hl hb ts Ts vs' ds' q hf2 hr (fun x hx=>hp x (List.mem_append_right _ hx)),rfl⟩
def yo (P:Program) (f:Func):Bool:=match f.resultTypes.toList with
 | [t]=>match P.underlying t with
  | some .bool=>true
  | _=>false
 | _=>false
theorem Dr {f:Func} (h:yo P f=true):∃tb,f.resultTypes = #[tb]∧P.underlying tb=some .bool:=by
 unfold yo at h
 split at h
 ·rename_i t ht
  split at h
  ·rename_i hu
   exact ⟨t,by rw [←Array.toList_inj,ht],hu⟩
  ·cases h
 ·cases h
theorem Qm {f:Func} {s:ChangeSpec} {apart fresh:Bool} {W W':World} {args:Array Value} {ds gs:List (DataW H)} {before:List MemPlace} {Ts:List Ty}
 (hW:DataW.Whole enc P f.params.toList s.vars apart W args.toList ds gs before) (hvars:s.vars=[]) (hs:s.fn H (ds++gs) = { results:=[.lit (.bool true)],args:=ds })
 (hr:yo P f=true) (hl:laidOutB P=true) (hf:u4 P f.params.toList Ts=true) (hb:RowKit.Below W.heap.size W W') :
 s.post enc P f apart fresh false false W args (.bool true) W':=by
 have hW0:=hW;obtain ⟨p,q,hA,hV,rfl,hz,hn⟩:=hW;have hlt:=DataW.TrodAll.lt hA;obtain ⟨tb,hr,htb⟩:=Dr hr;rw [hvars] at hV;obtain ⟨rfl,rfl⟩:=trodVars_none hV;refine ⟨ds,[],_,[],p,[],hW0,?_,?_,?_,hb.frame _,fun h=>by cases h⟩
 ·rw [hs,hr]
  exact ⟨[],[],⟨1,by simp [DataW.trod,Value.cells,htb]⟩,rfl,rfl⟩
 ·rw [hs]
  exact Ez hl hb _ _ _ _ _ hf hA hlt
 ·rw [hs,hvars]
  rfl
end
theorem L5 {P:Program} {num:Nat→Nat} {O:ah} (hO:jp P num O) {F:Nat} {xs:List D} (h:ask O F xs=some (.bool true)) {W:World} {vs:List Value} (hv:RVs ⟨W,fun b=>b<W.heap.size,num⟩ xs vs) :
 Calls P (num F) vs.toArray W fun e W'=>e=.returned (.bool true)∧RowKit.Below W.heap.size W W':=by
 unfold ask at h;obtain ⟨⟨v,bs,nb⟩,h1,h2⟩:=a8.1 h;obtain ⟨hl,-,hcall⟩:=hO F (xs.map .d) [] _ h1 ⟨W,fun b=>b<W.heap.size,num⟩ (fun _=>none) vs rfl ⟨by simp,by simp⟩ (fun b hb=>hb) (rh hv)
 refine Calls.mono hcall ?_
 rintro e w' ⟨u,C2,φ2,rfl,rfl,st,-,hu⟩
 have hno:∀b,¬ OwnB (fun _=>none) [] b:=by rintro b ⟨i,B,o,hB,_⟩; simp at hB
 have hbs:bs=[]:=ez.1 hl;subst hbs;have hx:RV _ (.bool true) u:=qe st.hr v _ u h2 hu;refine ⟨?_,st.os,st.tape,st.out,st.size,fun k hk=>st.kept k hk (hno k)⟩
 simp only [RV,RD,D.isAgg] at hx;obtain ⟨h3,h4⟩:=hx;cases u <;> simp [Value.cells,isAgg] at h3 h4
 rw [h4]
end Pe

/-
 The numbers of the functions.
-/
namespace Pe
abbrev Lw (d s:Nat):Ins:=⟨some d,.mv (.t s),none,[]⟩
abbrev Ll (d:Nat) (o:Op):Ins:=⟨some d,o,none,[]⟩
abbrev Ls (o:Op):Ins:=⟨none,o,none,[]⟩
abbrev Lx (d s g:Nat) (b:Bool):Ins:=⟨some d,.mv (.t s),some (g,b),[]⟩
abbrev Lg (d:Nat) (o:Op) (g:Nat) (b:Bool):Ins:=⟨some d,o,some (g,b),[]⟩
abbrev Sx6:Sh:=.arr 64 .leaf
abbrev Sx8:Sh:=.arr 8 Sx6
abbrev Sx4:List Sh:=[.leaf,Sx6,Sx6,Sx6]
abbrev Acx (n:Int):Arg:=.c (.int .i64 n)
abbrev Ofx (f:Nat) (l:List Arg):Op:=.call .flat [] (.f f) l
abbrev Opx (f:Nat) (l:List Arg):Op:=.call .plain [] (.f f) l
abbrev Ipx (d s:Nat):Ins:=Ll d (.load Sx6 (.t s))
abbrev Ilx (d s:Nat):Ins:=Ll d (.load .leaf (.t s))
abbrev Isx (d s:Nat):Ins:=Ll d (.load Sx8 (.t s))
abbrev Iex (d s k:Nat):Ins:=Ll d (.ext (.t s) k)
abbrev F1o:Nat:=40
abbrev F1p:Nat:=77
abbrev F8:Nat:=80
abbrev F2o:Nat:=81
abbrev F1r:Nat:=82
abbrev Fc:Nat:=91
abbrev F6:Nat:=163
abbrev F2k:Nat:=180
abbrev F7:Nat:=181
abbrev F2n:Nat:=182
abbrev F1q:Nat:=183
abbrev Fb:Nat:=184
abbrev F2q:Nat:=185
abbrev F2l:Nat:=186
abbrev F2j:Nat:=187
abbrev F5:Nat:=188
abbrev F2i:Nat:=189
abbrev F2m:Nat:=190
abbrev Fa:Nat:=191
abbrev F2p:Nat:=192
abbrev Fe:Nat:=193
abbrev Ff:Nat:=194
abbrev F1f:Nat:=315
abbrev F1a:Nat:=318
abbrev Fy:Nat:=319
abbrev F1m:Nat:=321
abbrev F2v:Nat:=330
abbrev F2w:Nat:=331
abbrev F3c:Nat:=333
abbrev F1h:Nat:=336
abbrev F17:Nat:=341
abbrev F16:Nat:=342
abbrev Fr:Nat:=344
abbrev F1y:Nat:=345
abbrev F9:Nat:=346
abbrev F14:Nat:=347
abbrev Fu:Nat:=348
abbrev F3g:Nat:=349
abbrev F33:Nat:=350
abbrev F35:Nat:=351
abbrev Fv:Nat:=357
abbrev F12:Nat:=360
abbrev Fl:Nat:=362
abbrev F10:Nat:=363
abbrev F1d:Nat:=364
abbrev F3f:Nat:=386
abbrev F1n:Nat:=387
abbrev F37:Nat:=395
abbrev F1k:Nat:=400
abbrev F2u:Nat:=408
abbrev Fi:Nat:=413
abbrev F2r:Nat:=416
abbrev F3d:Nat:=417
abbrev F34:Nat:=418
abbrev F1b:Nat:=419
abbrev F13:Nat:=420
abbrev F1j:Nat:=421
abbrev F3b:Nat:=445
abbrev F2z:Nat:=446
abbrev F38:Nat:=448
abbrev F2y:Nat:=451
abbrev Fx:Nat:=453
abbrev F32:Nat:=454
abbrev F39:Nat:=455
abbrev F3i:Nat:=457
abbrev Fz:Nat:=458
abbrev F3o:Nat:=465
abbrev F3k:Nat:=466
abbrev Fm:Nat:=468
abbrev F18:Nat:=469
abbrev F3n:Nat:=470
abbrev F3e:Nat:=471
abbrev F3a:Nat:=472
abbrev Ft:Nat:=473
abbrev F3l:Nat:=474
abbrev F3m:Nat:=475
abbrev F30:Nat:=476
abbrev F1i:Nat:=477
abbrev F2s:Nat:=479
abbrev F2x:Nat:=501
abbrev F1l:Nat:=521
abbrev F19:Nat:=531
abbrev F36:Nat:=532
abbrev Fo:Nat:=534
abbrev F3h:Nat:=556
abbrev Fs:Nat:=557
abbrev F1g:Nat:=558
abbrev F21:Nat:=562
abbrev Fw:Nat:=566
abbrev F1e:Nat:=567
abbrev F1c:Nat:=568
abbrev F22:Nat:=569
abbrev F11:Nat:=570
abbrev Fk:Nat:=571
abbrev F1x:Nat:=590
abbrev Fj:Nat:=591
abbrev F2t:Nat:=595
abbrev F3j:Nat:=596
abbrev Fg:Nat:=619
abbrev Fq:Nat:=620
abbrev F2e:Nat:=644
abbrev F1s:Nat:=645
abbrev F0:Nat:=646
abbrev F2:Nat:=647
abbrev F20:Nat:=653
abbrev F1w:Nat:=658
abbrev Fh:Nat:=659
abbrev F26:Nat:=694
abbrev F25:Nat:=695
abbrev F23:Nat:=696
abbrev F24:Nat:=697
abbrev F2f:Nat:=698
abbrev F2b:Nat:=699
abbrev F2d:Nat:=700
abbrev F2c:Nat:=701
abbrev F1t:Nat:=702
abbrev F1u:Nat:=703
abbrev F3:Nat:=704
abbrev F4:Nat:=705
abbrev F1z:Nat:=717
abbrev F2g:Nat:=762
abbrev F29:Nat:=763
abbrev F2h:Nat:=764
abbrev F27:Nat:=765
abbrev F28:Nat:=766
abbrev F2a:Nat:=798
abbrev F15:Nat:=1337
abbrev F31:Nat:=1443
abbrev F1v:Nat:=1597
def z64:List D:=List.replicate 64 (.int .u8 0)
def z8:List D:=List.replicate 8 (.arr 64 .leaf z64)
end Pe
