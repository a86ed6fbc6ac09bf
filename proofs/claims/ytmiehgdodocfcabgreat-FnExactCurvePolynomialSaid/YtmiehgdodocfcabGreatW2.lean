/-
  A part of the proof: an evaluator for a small form of the code, its soundness, and contracts of functions over it.
-/
import Derived.IntWalk
import Derived.Carry
import Derived.OpenShut
import Derived.Test.YtmiehgdodocfcabGreatW1

namespace Pe
open Go
variable {P:Program}
def OpWp (P:Program) (o:Oper) (a:Act) (C:Cx) (φ:Loc) (h:Heap) (v:V) (h':Heap) (K:Nat→Prop):Prop:=
 ∀(next:Act→World→Prop) (Q:Exit→Act→World→Prop),(∀C' φ' u,Step C C' φ φ' h h'→(o.dst=none∨RX C' φ' h' v u)→Keeps C C' φ φ' h h' K→next (a.put o.dst u) C'.w)→o.wp P a C.w next Q
theorem OpGood.wp {o:Oper} {a:Act} {C:Cx} {φ:Loc} {h:Heap} {v:V} {h':Heap} {K:Nat→Prop} (g:OpGood P o a C φ h v h' K):OpWp P o a C φ h v h' K:=by
 obtain ⟨C',φ',u,n,hrun,hn,st,hx,hk⟩:=g;intro next Q hnext;unfold Oper.wp;rw [hrun];rcases hn with rfl | ⟨rfl,hd⟩
 ·exact hnext C' φ' u st (.inr hx) hk
 ·exact hnext C' φ' undef st (.inl hd) hk
theorem OpWp.mono {o:Oper} {a:Act} {C:Cx} {φ:Loc} {h:Heap} {v:V} {h':Heap} {K K':Nat→Prop} (g:OpWp P o a C φ h v h' K) (hk:∀i,K i→K' i):OpWp P o a C φ h v h' K':=
 fun next Q hn=>g next Q fun C' φ' u st hx k=>hn C' φ' u st hx (k.mono hk)
def jy:Operand→Bool
 | .const (.slice none 0 0)=>true
 | _=>false
def Qp (P:Program) (num:Nat→Nat) (p:Op) (o:Oper):Bool:=
 match p,o.op with
 | .mv x,.move y=>bw num x y
 | .mv x,.assign y=>bw num x y
 | .chk x,.nilCheck y=>bw num x y
 | .pick c x y,.pick c' x' y'=>bw num c c'&&bw num x x'&&bw num y y'
 | .nilOwn _ _,.move y=>jy y
 | .nilOwn _ _,.assign y=>jy y
 | .box _ _ x,.box _ y=>bw num x y
 | .box _ _ (.c z),.alloc t=>mj P t z
 | .build _ z ps,.build t qs=>p6 num ps qs.toList&&mj P t z&&(match z,P.underlying t with
  | .arr n sh _,some (.array n' e)=>n == n'&&lf P e sh
  | .st ss _,some (.struct fs)=>dt P 0 fs.toList ss
  | _,_=>false)
 | .buildSl _ _ sh z n ps,.buildSlice t n' qs=>n == n'&&p6 num ps qs.toList&&(match P.underlying t with
  | some (.slice e)=>lf P e sh&&mj P e z&&Sh.beq z.sh sh&&decide (0<sh.size)&&decide (n*sh.size≤16777216)
  | _=>false)
 | .mkSl _ sh z bytes x y,.makeSlice t x' y'=>bw num x x'&&bw num y y'&&(match P.underlying t with
  | some (.slice e)=>lf P e sh&&mj P e z&&Sh.beq z.sh sh&&decide (0<sh.size)&&decide (0<bytes)&&(match P.info? e with | some inf=>inf.bytes == bytes | none=>false)
  | _=>false)
 | .load sh x,.load t y=>bw num x y&&lf P t sh
 | .store _ sh x y,.store t x' y'=>bw num x x'&&bw num y y'&&lf P t sh&&decide (0<sh.size)&&o.dst.isNone
 | .bin op x y,.binOp op' _ x' y' _=>decide (op=op')&&bw num x x'&&bw num y y'
 | .eqv neg q x y,.binOp op t x' y' _=>decide (op=if neg then .neq else .eql)&&bw num x x'&&bw num y y'&&Ak P t q&&(match q with | .str=>false | _=>true)&&decide (q.depth≤10000) && !P.eqGuardType P.depth t
 | .un op x,.unOp op' _ x'=>decide (op=op')&&bw num x x'
 | .conv k x,.convert src dst x'=>bw num x x'&&(P.underlying src).isSome&&(match P.underlying dst with | some (.int k')=>decide (k'=k) | _=>false)
 | .cut none sh x lo hi mx,.slice t x' lo' hi' mx'=>bw num x x'&&jt num lo lo'&&jt num hi hi'&&jt num mx mx'&&(!mx.isSome||hi.isSome)&&decide (0<sh.size)&&(match P.underlying t with
  | some (.slice e)=>lf P e sh
  | _=>false)
 | .cut (some n) sh x lo hi mx,.slice t x' lo' hi' mx'=>bw num x x'&&jt num lo lo'&&jt num hi hi'&&jt num mx mx'&&(!mx.isSome||hi.isSome)&&decide (0<sh.size)&&(match P.underlying t with
  | some (.array n' e)=>n' == n&&lf P e sh
  | _=>false)
 | .fldA ss x j,.fieldAddr t x' j'=>bw num x x'&&j == j'&&(match ss[j]? with | some s=>decide (0<s.size) | none=>false)&&(match P.underlying t with
  | some (.struct fs)=>dt P 0 fs.toList ss
  | _=>false)
 | .fld ss x j,.field t x' j'=>bw num x x'&&j == j'&&(match P.underlying t with
  | some (.struct fs)=>dt P 0 fs.toList ss
  | _=>false)
 | .idxA none sh x j,.indexAddr t x' j'=>bw num x x'&&bw num j j'&&(match P.underlying t with
  | some (.slice e)=>lf P e sh
  | _=>false)
 | .idxA (some n) sh x j,.indexAddr t x' j'=>bw num x x'&&bw num j j'&&(match P.underlying t with
  | some (.array n' e)=>n' == n&&lf P e sh
  | _=>false)
 | .idx none _ x j,.index t x' j'=>bw num x x'&&bw num j j'&&(match P.underlying t with
  | some .string=>true
  | _=>false)
 | .idx (some n) sh x j,.index t x' j'=>bw num x x'&&bw num j j'&&(match P.underlying t with
  | some (.array n' e)=>n' == n&&lf P e sh
  | _=>false)
 | .ext x j,.extract x' j'=>bw num x x'&&j == j'
 | .mkFn f xs ys,.makeFunc (.func g) xs' ys'=>g == num f&&qd num xs xs'.toList&&qd num ys ys'.toList
 | .len str x,.call ⟨.builtin .len,⟨[x']⟩,⟨[t]⟩⟩=>bw num x x'&&(match P.underlying t,str with
  | some (.slice _),false=>true
  | some .string,true=>true
  | _,_=>false)
 | .maxI x y,.call ⟨.builtin .max,⟨[x',y']⟩,_⟩=>bw num x x'&&bw num y y'
 | .minI x y,.call ⟨.builtin .min,⟨[x',y']⟩,_⟩=>bw num x x'&&bw num y y'
 | .append sh _ bytes x y,.call ⟨.builtin .append,⟨[x',y']⟩,⟨[t,tx]⟩⟩=>bw num x x'&&bw num y y'&&decide (0<sh.size)&&decide (0<bytes) &&
  (match P.underlying tx with | some (.slice _)=>true | _=>false)&&(match P.underlying t with
  | some (.slice e)=>(match P.info? e with
   | some inf=>inf.size == sh.size&&inf.bytes == bytes&&(match inf.zero with | some z=>z.cells.size == sh.size | none=>false)
   | none=>false)
  | _=>false)
 | .call _ news f xs,.call ⟨.value f',xs',_⟩=>bw num f f'&&qd num xs xs'.toList&&decide news.Nodup
 | .nilq neg x,.binOp op t x' y' _=>decide (op=if neg then .neq else .eql)&&bw num x x'&&jy y'&&(match P.underlying t with | some (.slice _)=>true | _=>false)
 | .toStr x,.convert src dst x'=>bw num x x'&&(match P.underlying src with | some (.slice e)=>(match P.underlying e with | some (.int .u8)=>true | _=>false) | _=>false)&&(match P.underlying dst with | some .string=>true | _=>false)
 | .clear sh z x,.call ⟨.builtin .clear,⟨[x']⟩,⟨[t]⟩⟩=>bw num x x'&&(match P.underlying t with
  | some (.slice e)=>mj P e z&&Sh.beq z.sh sh&&decide (0<sh.size)
  | _=>false)
 | .mkMap _,.makeMap _ none=>true
 | .mapGet x y,.lookup t x' y' false=>bw num x x'&&bw num y y'&&(match P.underlying t with
  | some (.map kt et)=>(match P.underlying kt with | some .string=>true | _=>false)&&mj P et (.int .i64 0)
  | _=>false)
 | .mapSet x y z,.mapUpdate t x' y' z'=>bw num x x'&&bw num y y'&&bw num z z'&&o.dst.isNone&&(match P.underlying t with
  | some (.map kt _)=>(match P.underlying kt with | some .string=>true | _=>false)
  | _=>false)
 | .fail,_=>true
 | _,_=>false
theorem zm {h:Heap} {v:V} {d:D} (e:tq h v=some d):toD h v=some d∧d.isTup=false:=by
 unfold tq at e;obtain ⟨x,hx,e⟩:=a4.1 e
 split at e
 ·cases e
 ·rename_i hn
  obtain rfl:=ao e;exact ⟨hx,by simpa using hn⟩
theorem xh {C:Cx} {φ:Loc} {h:Heap}:∀{vs ws:List V} {us zs:List Value},RXs C φ h vs us→RXs C φ h ws zs→RXs C φ h (vs++ws) (us++zs)
 | [],ws,us,zs,g,g'=>by simp only [RXs] at g; subst g; simpa using g'
 | v::vs,ws,us,zs,g,g'=>by
  simp only [RXs] at g;obtain ⟨u,r,rfl,h1,h2⟩:=g;simp only [f6,RXs];exact ⟨u,_,rfl,h1,xh h2 g'⟩
section
variable {C:Cx} {φ:Loc} {s:St} {a:Act} {o:Oper} {K:Nat→Prop}
theorem I9 (hs:SR C φ s a.tmps) {x:Arg} {y:Operand} (ho:o.op=.nilCheck y) (hok:bw C.num x y=true) {v:V} (hv:s.e.arg x=some v) (hp:(∃d,v=.d (.ip d))∨∃i p,v=.ptr i p):OpGood P o a C φ s.h v s.h K:=by
 have h1:=b7 hs hok hv;refine bc hs (u:=a.eval y) ?_ h1;rcases hp with ⟨d,rfl⟩ | ⟨i,p,rfl⟩
 ·obtain ⟨b,off,us,e,_⟩:=Jx h1
  simp [execOp,ho,e]
 ·simp only [RX] at h1
  obtain ⟨B,b,off,q,_,_,_,e⟩:=h1;simp [execOp,ho,e]
theorem Wt {f:Nat} {us:List Value} (hexec:(execOp a.eval o).run P C.w=(callFunc (C.num f) us.toArray).run P C.w) {v:V} {h':Heap} (he:Nr P (C.num f) us C φ s.h h' v):OpWp P o a C φ s.h v h' K:=by
 intro next Q hnext;obtain ⟨⟨fn,hf,hnm,hb⟩,hcall⟩:=he;unfold Oper.wp
 have:(callFunc (C.num f) us.toArray).run P C.w=.ok (.enter (C.num f) us.toArray) C.w:=by
  have hb':fn.body.isNone=false:=by cases hq:fn.body <;> simp_all
  simp [callFunc,hf,hnm];intro e; rw [e] at hb; simp at hb
 rw [hexec,this,Oper.upon_enter];refine Calls.mono hcall ?_
 rintro e w' ⟨u,C',φ',rfl,rfl,st,k,hx⟩
 exact hnext C' φ' u st (.inr hx) (k.mono (by simp))
theorem Rb {O:ac} (hO:ja P C.num O) (hs:SR C φ s a.tmps) {np:Nat} {m:Mode} {news:List Nat} {f:Arg} {xs:List Arg} {f':Operand} {xs':Array Operand} {ts:Array TypeId} (ho:o.op=.call ⟨.value f',xs',ts⟩) (hf:bw C.num f f'=true) (hx:qd C.num xs xs'.toList=true)
 (hnews:news.Nodup) {v:V} {h':Heap} (he:am O np s.e s.h (.call m news f xs)=some (v,h')):OpWp P o a C φ s.h v h' K:=by
 simp only [am] at he;obtain ⟨fv,hfv,he⟩:=a4.1 he;obtain ⟨⟨g,first,caps⟩,hg,he⟩:=a4.1 he;obtain ⟨vs,hvs,he⟩:=a4.1 he;simp only at he;have hargs:=sg hs hx hvs;have hfun:=b7 hs hf hfv
 have key:∃fs cs:Array Value,a.eval f'=.func (.func (C.num g)) fs cs∧RXs C φ s.h first fs.toList∧RXs C φ s.h caps cs.toList:=by
  unfold callee at hg
  split at hg
  ·rename_i g0 a0 c0
   simp only [a5,aa] at hg;obtain ⟨rfl,rfl,rfl⟩:=hg;simp only [RX,RV,RD] at hfun;obtain ⟨h0,us,ws,e,h1,h2⟩:=hfun;refine ⟨us,ws,?_,px h1,px h2⟩;cases hq:a.eval f' <;> simp_all [Value.cells,isAgg,D.isAgg]
  ·rename_i g0 a0 c0
   simp only [a5,aa] at hg;obtain ⟨rfl,rfl,rfl⟩:=hg;simp only [RX] at hfun;exact hfun
  ·cases hg
 obtain ⟨fs,cs,e,h1,h2⟩:=key;have hall:=xh (xh h1 hargs) h2
 have hexec:(execOp a.eval o).run P C.w=(callFunc (C.num g) (fs.toList++xs'.toList.map a.eval++cs.toList).toArray).run P C.w:=by
  have earr:(fs.toList++xs'.toList.map a.eval++cs.toList).toArray=fs++xs'.map a.eval++cs:=by
   apply Array.ext'; simp
  rw [earr];simp [execOp,ho,resolve,e,Deferred.ofValue,invoke]
 refine Wt hexec ?_;cases m with
 | heap=>
  simp only at he;exact Co hO hs.hr hs.bd hnews hall he
 | flat | data | plain=>
  simp only at he;exact Cu hO hs.hr hs.bd hall he
theorem Ru {O:ac} (hO:ja P C.num O) (hs:SR C φ s a.tmps) {np:Nat} {p:Op} (hok:Qp P C.num p o=true) {v:V} {h':Heap} (he:am O np s.e s.h p=some (v,h')) :
 OpWp P o a C φ s.h v h' (fun i=>p.kill s.e v=some i):=by
 unfold Qp at hok
 split at hok
 case h_1 x y ho=>
  simp only [am] at he;obtain ⟨u,hu,e⟩:=a8.1 he;simp only [aa] at e;obtain ⟨rfl,rfl⟩:=e;exact (Pi hs (.inl ho) hok hu).wp
 case h_2 x y ho=>
  simp only [am] at he;obtain ⟨u,hu,e⟩:=a8.1 he;simp only [aa] at e;obtain ⟨rfl,rfl⟩:=e;exact (Pi hs (.inr ho) hok hu).wp
 case h_3 x y ho=>
  simp only [am] at he
  split at he <;> simp only [a5,aa,reduceCtorEq] at he <;> obtain ⟨rfl,rfl⟩:=he
  ·rename_i d hx
   exact (I9 hs ho hok hx (.inl ⟨d,rfl⟩)).wp
  ·rename_i i p hx
   exact (I9 hs ho hok hx (.inr ⟨i,p,rfl⟩)).wp
 case h_4 c x y c' x' y' ho=>
  simp only [ab] at hok;simp only [am] at he
  split at he
  ·rename_i t ht
   obtain ⟨u,hu,e⟩:=a8.1 he;simp only [aa] at e;obtain ⟨rfl,rfl⟩:=e;exact (Q9 hs ho hok.1.1 hok.1.2 hok.2 ht hu).wp
  ·cases he
 case h_5 i sh y ho=>
  simp only [am] at he;obtain ⟨h1,hp,e⟩:=a8.1 he;simp only [aa] at e;obtain ⟨rfl,rfl⟩:=e;obtain ⟨hi,rfl⟩:=ca hp;refine (A3 hs (.inl ho) ?_ hi).wp;unfold jy at hok
  split at hok
  ·rfl
  ·cases hok
 case h_6 i sh y ho=>
  simp only [am] at he;obtain ⟨h1,hp,e⟩:=a8.1 he;simp only [aa] at e;obtain ⟨rfl,rfl⟩:=e;obtain ⟨hi,rfl⟩:=ca hp;refine (A3 hs (.inr ho) ?_ hi).wp;unfold jy at hok
  split at hok
  ·rfl
  ·cases hok
 case h_7 fz i x t y ho=>
  simp only [am] at he;obtain ⟨u,hu,he⟩:=a4.1 he;obtain ⟨d,hd,he⟩:=a4.1 he;obtain ⟨h1,hf,he⟩:=a4.1 he;obtain ⟨h2,hp,e⟩:=a8.1 he;simp only [aa] at e;obtain ⟨rfl,rfl⟩:=e;obtain ⟨hi,rfl⟩:=ca hp;obtain ⟨hd,hnt⟩:=zm hd;exact (Tu hs ho hok hu hd hnt hf hi).wp
 case h_8 fz i z t ho=>
  simp only [am,Env.arg,a9] at he;obtain ⟨d,hd,he⟩:=a4.1 he;obtain ⟨h1,hf,he⟩:=a4.1 he;obtain ⟨h2,hp,e⟩:=a8.1 he;simp only [aa] at e;obtain ⟨rfl,rfl⟩:=e;obtain ⟨hi,rfl⟩:=ca hp;obtain ⟨hd,hnt⟩:=zm hd;simp only [toD,a5] at hd;subst hd;exact (Nv hs ho hok hf hi).wp
 case h_9 fz z ps t qs ho=>
  simp only [ab] at hok;simp only [am] at he;obtain ⟨xs,hx,he⟩:=a4.1 he;obtain ⟨h1,hf,he⟩:=a4.1 he;obtain ⟨⟨hp,hz⟩,hk⟩:=hok
  split at he
  ·rename_i n sh cs
   obtain ⟨cs',hfill,e⟩:=a8.1 he;simp only [aa] at e;obtain ⟨rfl,rfl⟩:=e
   split at hk
   ·rename_i n0 sh0 cs0 n' e' hu hz'
    simp only [D.arr.injEq] at hu;obtain ⟨rfl,rfl,rfl⟩:=hu;simp only [ab,beq_iff_eq] at hk;obtain ⟨rfl,hk⟩:=hk;exact (Cb hs ho hp hz hx hf (.inl ⟨_,_,_,_,_,rfl,hfill,rfl,hz',hk⟩)).wp
   ·rename_i hu _; cases hu
   ·cases hk
  ·rename_i ss cs
   obtain ⟨cs',hfill,e⟩:=a8.1 he;simp only [aa] at e;obtain ⟨rfl,rfl⟩:=e
   split at hk
   ·rename_i hu _; cases hu
   ·rename_i ss0 cs0 fs hu hz'
    simp only [D.st.injEq] at hu;obtain ⟨rfl,rfl⟩:=hu;exact (Cb hs ho hp hz hx hf (.inr ⟨_,_,_,_,rfl,hfill,rfl,hz',hk⟩)).wp
   ·cases hk
  ·cases he
 case h_10 fz i sh z n ps t n' qs ho=>
  simp only [ab,beq_iff_eq] at hok;obtain ⟨⟨rfl,hp⟩,hk⟩:=hok;simp only [am] at he;obtain ⟨xs,hx,he⟩:=a4.1 he;obtain ⟨cs,hfill,he⟩:=a4.1 he;obtain ⟨h1,hf,he⟩:=a4.1 he;obtain ⟨h2,hpb,e⟩:=a8.1 he;simp only [aa] at e;obtain ⟨rfl,rfl⟩:=e;obtain ⟨hi,rfl⟩:=ca hpb
  split at hk
  ·rename_i e ht
   simp only [ab,decide_eq_true_eq] at hk;obtain ⟨⟨⟨⟨k1,k2⟩,k3⟩,k4⟩,k5⟩:=hk;exact (Hm hs ho ht k1 hp k2 (Sh.beq_eq _ _ k3) k4 k5 hx hf hfill hi).wp
  ·cases hk
 case h_11 i sh z bytes x y t x' y' ho=>
  simp only [ab] at hok;obtain ⟨⟨hx,hy⟩,hk⟩:=hok;simp only [am] at he
  split at he
  ·rename_i n m hn hm
   split at he
   ·rename_i hc
    obtain ⟨h2,hpb,e⟩:=a8.1 he;simp only [aa] at e;obtain ⟨rfl,rfl⟩:=e;obtain ⟨hi,rfl⟩:=ca hpb
    split at hk
    ·rename_i e ht
     simp only [ab,decide_eq_true_eq] at hk;obtain ⟨⟨⟨⟨⟨k1,k2⟩,k3⟩,k4⟩,k5⟩,k6⟩:=hk
     split at k6
     ·rename_i inf hinf
      have hb:inf.bytes=bytes:=by simpa using k6
      have hm63:m≤9223372036854775807:=by
       have h1:m*1≤m*bytes:=kz m k5;have:=hc.2;omega
      exact (Qj hs ho ht k1 ⟨inf,hinf,hb⟩ hx hy k2 (Sh.beq_eq _ _ k3) k4 hn hm hc.1 hc.2 hm63 hi).wp
     ·cases k6
    ·cases hk
   ·cases he
  ·cases he
 case h_12 sh x t y ho=>
  simp only [ab] at hok;simp only [am] at he
  split at he
  ·rename_i d hd
   split at he
   ·rename_i hsh
    simp only [a5,aa] at he;obtain ⟨rfl,rfl⟩:=he;exact (Dz hs ho hok.1 hok.2 (.inl ⟨hd,Sh.beq_eq _ _ hsh⟩)).wp
   ·cases he
  ·rename_i i p hp
   obtain ⟨d,hd,he⟩:=a4.1 he;obtain ⟨B,hB,hg⟩:=a4.1 hd
   split at he
   ·rename_i hsh
    simp only [a5,aa] at he;obtain ⟨rfl,rfl⟩:=he;exact (Dz hs ho hok.1 hok.2 (.inr ⟨i,p,B,hp,hB,hg,Sh.beq_eq _ _ hsh⟩)).wp
   ·cases he
  ·cases he
 case h_13 fz sh x y t x' y' ho=>
  simp only [ab,decide_eq_true_eq] at hok;obtain ⟨⟨⟨⟨hx,hy⟩,ht⟩,hpos⟩,hdst⟩:=hok;simp only [am] at he;obtain ⟨u,hu,he⟩:=a4.1 he;obtain ⟨d,hd,he⟩:=a4.1 he;obtain ⟨h1,hf,he⟩:=a4.1 he;obtain ⟨hd,hnt⟩:=zm hd
  split at he
  ·rename_i i p hp
   split at he
   ·rename_i hsh
    obtain ⟨B,hB,he⟩:=a4.1 he;obtain ⟨B',hset,e⟩:=a8.1 he;simp only [aa] at e;obtain ⟨rfl,rfl⟩:=e;exact (Lj hs ho (by simpa using hdst) hx hy ht hpos hu hd hnt (Sh.beq_eq _ _ hsh) hf hp hB hset).wp
   ·cases he
  ·cases he
 case h_14 op x y op' t x' y' yt ho=>
  simp only [ab,decide_eq_true_eq] at hok;obtain ⟨⟨rfl,hx⟩,hy⟩:=hok;simp only [am] at he
  split at he
  ·rename_i d1 d2 hd1 hd2
   obtain ⟨r,hr,e⟩:=a8.1 he;simp only [aa] at e;obtain ⟨rfl,rfl⟩:=e;have g1:=b7 hs hx hd1;have g2:=b7 hs hy hd2;unfold rk at hr
   split at hr
   ·exact (Bs hs ho (ij g1) (ij g2) hr (.inl rfl)).wp
   ·exact (Bs hs ho (ij g1) (ij g2) hr (.inr rfl)).wp
   ·rename_i n1 n2
    split at hr
    ·rename_i hk
     subst hk;exact (Ri hs ho (ij g1) (ij g2) hr ⟨n1,n2⟩).wp
    ·cases hr
   ·exact (Qh hs ho (za g1) (za g2) hr).wp
   ·cases hr
  ·cases he
 case h_15 neg q x y op t x' y' yt ho=>
  simp only [ab,decide_eq_true_eq,d5] at hok;obtain ⟨⟨⟨⟨⟨⟨rfl,hx⟩,hy⟩,hq⟩,hns⟩,hd⟩,hg⟩:=hok;simp only [am] at he
  split at he
  ·rename_i d1 d2 hd1 hd2
   obtain ⟨r,hr,e⟩:=a8.1 he;simp only [aa] at e;obtain ⟨rfl,rfl⟩:=e;exact (Tq hs ho hx hy hq (by rintro rfl; simp at hns) hd hg hd1 hd2 hr).wp
  ·cases he
 case h_16 op x op' t x' ho=>
  simp only [ab,decide_eq_true_eq] at hok;obtain ⟨rfl,hx⟩:=hok;simp only [am] at he
  split at he
  ·rename_i d hd
   obtain ⟨r,hr,e⟩:=a8.1 he;simp only [aa] at e;obtain ⟨rfl,rfl⟩:=e;exact (X0 hs ho hx hd hr).wp
  ·cases he
 case h_17 k x src dst x' ho=>
  simp only [ab] at hok;obtain ⟨⟨hx,hsrc⟩,hk⟩:=hok;simp only [am] at he
  split at he
  ·rename_i q n hn
   simp only [a5,aa] at he;obtain ⟨rfl,rfl⟩:=he
   split at hk
   ·rename_i k' hk'
    have:k'=k:=by simpa using hk
    subst this;exact (Q4 hs ho hx hsrc hk' hn).wp
   ·cases hk
  ·cases he
 case h_18 sh x lo hi mx t x' lo' hi' mx' ho=>
  simp only [ab,decide_eq_true_eq] at hok;obtain ⟨⟨⟨⟨⟨⟨hx,h1⟩,h2⟩,h3⟩,hmh⟩,hpos⟩,hk⟩:=hok
  have hmh':mx.isSome=true→hi.isSome=true:=by
   intro h; simpa [h] using hmh
  split at hk
  ·rename_i e ht
   simp only [am] at he
   split at he
   ·rename_i sh' cs hcs
    obtain ⟨m,hm,he⟩:=a4.1 he;obtain ⟨b,hb,he⟩:=a4.1 he;obtain ⟨l,hl,he⟩:=a4.1 he
    split at he
    ·rename_i hc
     simp only [a5,aa] at he;obtain ⟨rfl,rfl⟩:=he;obtain rfl:=Sh.beq_eq _ _ hc.1;exact (yf hs ho hx h1 h2 h3 hmh' hk hpos hm hb hl hc.2.1 hc.2.2.1 hc.2.2.2 (.inl ⟨ht,.inl ⟨cs,hcs,rfl,rfl⟩⟩)).wp
    ·cases he
   ·rename_i i p off n cap hcs
    obtain ⟨⟨sh',cs⟩,hq,he⟩:=a4.1 he;obtain ⟨B,hB,hE⟩:=a4.1 hq;obtain ⟨m,hm,he⟩:=a4.1 he;obtain ⟨b,hb,he⟩:=a4.1 he;obtain ⟨l,hl,he⟩:=a4.1 he
    split at he
    ·rename_i hc
     simp only [a5,aa] at he;obtain ⟨rfl,rfl⟩:=he;obtain rfl:=Sh.beq_eq _ _ hc.1;exact (yf hs ho hx h1 h2 h3 hmh' hk hpos hm hb hl hc.2.1 hc.2.2.1 hc.2.2.2 (.inl ⟨ht,.inr ⟨i,p,off,cap,B,cs,hcs,hB,hE,by cases mx <;> rfl⟩⟩)).wp
    ·cases he
   ·cases he
  ·cases hk
 case h_19 n sh x lo hi mx t x' lo' hi' mx' ho=>
  simp only [ab,decide_eq_true_eq] at hok;obtain ⟨⟨⟨⟨⟨⟨hx,h1⟩,h2⟩,h3⟩,hmh⟩,hpos⟩,hk⟩:=hok
  have hmh':mx.isSome=true→hi.isSome=true:=by
   intro h; simpa [h] using hmh
  split at hk
  ·rename_i n' e ht
   simp only [ab,beq_iff_eq] at hk;obtain ⟨rfl,hk⟩:=hk;simp only [am] at he
   split at he
   ·rename_i i p hp
    obtain ⟨y,hy,he⟩:=a4.1 he;obtain ⟨B,hB,hE⟩:=a4.1 hy
    split at he
    ·rename_i n2 sh' cs
     obtain ⟨m,hm,he⟩:=a4.1 he;obtain ⟨b,hb,he⟩:=a4.1 he;obtain ⟨l,hl,he⟩:=a4.1 he
     split at he
     ·rename_i hc
      simp only [a5,aa] at he;obtain ⟨rfl,rfl⟩:=he;obtain ⟨rfl,hc1,hc2⟩:=hc;obtain rfl:=Sh.beq_eq _ _ hc1;exact (yf hs ho hx h1 h2 h3 hmh' hk hpos hm hb hl hc2.1 hc2.2.1 hc2.2.2 (.inr ⟨ht,.inl ⟨i,p,B,cs,hp,hB,hE,rfl⟩⟩)).wp
     ·cases he
    ·cases he
   ·rename_i n2 sh' cs hcs
    obtain ⟨m,hm,he⟩:=a4.1 he;obtain ⟨b,hb,he⟩:=a4.1 he;obtain ⟨l,hl,he⟩:=a4.1 he
    split at he
    ·rename_i hc
     simp only [a5,aa] at he;obtain ⟨rfl,rfl⟩:=he;obtain ⟨rfl,hc1,hc2⟩:=hc;obtain rfl:=Sh.beq_eq _ _ hc1;exact (yf hs ho hx h1 h2 h3 hmh' hk hpos hm hb hl hc2.1 hc2.2.1 hc2.2.2 (.inr ⟨ht,.inr ⟨cs,hcs,rfl⟩⟩)).wp
    ·cases he
   ·cases he
  ·cases hk
 case h_20 ss x j t x' j' ho=>
  simp only [ab,beq_iff_eq] at hok;obtain ⟨⟨⟨hx,rfl⟩,hj⟩,hk⟩:=hok
  have hj':∃sh,ss[j]? = some sh∧0<sh.size:=by
   split at hj
   ·rename_i sh hsh; exact ⟨sh,hsh,by simpa using hj⟩
   ·cases hj
  split at hk
  ·rename_i fs ht
   simp only [am] at he
   split at he
   ·rename_i i p hp
    obtain ⟨y,hy,he⟩:=a4.1 he;obtain ⟨B,hB,hE⟩:=a4.1 hy
    split at he
    ·rename_i hc
     simp only [a5,aa] at he;obtain ⟨rfl,rfl⟩:=he;exact (Eq hs ho hx ht hk hj' (.inl ⟨i,p,B,y,hp,hB,hE,Sh.beq_eq _ _ hc,rfl⟩)).wp
    ·cases he
   ·rename_i ts cs hcs
    split at he
    ·rename_i hc
     obtain ⟨c,hc1,e⟩:=a8.1 he;simp only [aa] at e;obtain ⟨rfl,rfl⟩:=e;obtain rfl:=Sh.beqs_eq _ _ hc;exact (Eq hs ho hx ht hk hj' (.inr ⟨cs,c,hcs,hc1,rfl⟩)).wp
    ·cases he
   ·cases he
  ·cases hk
 case h_21 ss x j t x' j' ho=>
  simp only [ab,beq_iff_eq] at hok;obtain ⟨⟨hx,rfl⟩,hk⟩:=hok
  split at hk
  ·rename_i fs ht
   simp only [am] at he
   split at he
   ·rename_i ts cs hcs
    split at he
    ·rename_i hc
     obtain ⟨c,hc1,e⟩:=a8.1 he;simp only [aa] at e;obtain ⟨rfl,rfl⟩:=e;obtain rfl:=Sh.beqs_eq _ _ hc;exact (Uk hs ho hx ht hk hcs hc1).wp
    ·cases he
   ·cases he
  ·cases hk
 case h_22 sh x j t x' j' ho=>
  simp only [ab] at hok;obtain ⟨⟨hx,hj⟩,hk⟩:=hok
  split at hk
  ·rename_i e ht
   simp only [am] at he
   split at he
   ·rename_i i p off n cap k hp hkk
    obtain ⟨⟨sh',q⟩,hq,he⟩:=a4.1 he;obtain ⟨B,hB,hE⟩:=a4.1 hq
    split at he
    ·rename_i hc
     simp only [a5,aa] at he;obtain ⟨rfl,rfl⟩:=he;obtain rfl:=Sh.beq_eq _ _ hc.1;exact (v3 hs ho hx hj hk hkk (.inl ⟨ht,.inl ⟨i,p,off,n,cap,q,B,hp,hB,hE,hc.2,rfl⟩⟩)).wp
    ·cases he
   ·rename_i sh' cs k hcs hkk
    split at he
    ·rename_i hc
     obtain ⟨c,hc1,e⟩:=a8.1 he;simp only [aa] at e;obtain ⟨rfl,rfl⟩:=e;obtain rfl:=Sh.beq_eq _ _ hc;exact (v3 hs ho hx hj hk hkk (.inl ⟨ht,.inr ⟨cs,c,hcs,hc1,rfl⟩⟩)).wp
    ·cases he
   ·cases he
  ·cases hk
 case h_23 n sh x j t x' j' ho=>
  simp only [ab] at hok;obtain ⟨⟨hx,hj⟩,hk⟩:=hok
  split at hk
  ·rename_i n' e ht
   simp only [ab,beq_iff_eq] at hk;obtain ⟨rfl,hk⟩:=hk;simp only [am] at he
   split at he
   ·rename_i i p k hp hkk
    obtain ⟨y,hy,he⟩:=a4.1 he;obtain ⟨B,hB,hE⟩:=a4.1 hy
    split at he
    ·rename_i n2 sh' cs
     split at he
     ·rename_i hc
      simp only [a5,aa] at he;obtain ⟨rfl,rfl⟩:=he;obtain ⟨rfl,hc1,hc2⟩:=hc;obtain rfl:=Sh.beq_eq _ _ hc1;exact (v3 hs ho hx hj hk hkk (.inr ⟨_,ht,.inl ⟨i,p,B,cs,hp,hB,hE,hc2,rfl⟩⟩)).wp
     ·cases he
    ·cases he
   ·rename_i n2 sh' cs k hcs hkk
    split at he
    ·rename_i hc
     obtain ⟨c,hc1,e⟩:=a8.1 he;simp only [aa] at e;obtain ⟨rfl,rfl⟩:=e;obtain ⟨rfl,hc2⟩:=hc;obtain rfl:=Sh.beq_eq _ _ hc2;exact (v3 hs ho hx hj hk hkk (.inr ⟨_,ht,.inr ⟨cs,c,hcs,hc1,rfl⟩⟩)).wp
    ·cases he
   ·cases he
  ·cases hk
 case h_24 sh x j t x' j' ho=>
  simp only [ab] at hok;obtain ⟨⟨hx,hj⟩,hk⟩:=hok
  split at hk
  ·rename_i ht
   simp only [am] at he
   split at he
   ·rename_i b k hb hkk
    obtain ⟨c,hc1,e⟩:=a8.1 he;simp only [aa] at e;obtain ⟨rfl,rfl⟩:=e;exact (Rq hs ho hx hj ht hb hkk hc1).wp
   ·cases he
  ·cases hk
 case h_25 n sh x j t x' j' ho=>
  simp only [ab] at hok;obtain ⟨⟨hx,hj⟩,hk⟩:=hok
  split at hk
  ·rename_i n' e ht
   simp only [ab,beq_iff_eq] at hk;obtain ⟨rfl,hk⟩:=hk;simp only [am] at he
   split at he
   ·rename_i n2 sh' cs k hcs hkk
    split at he
    ·rename_i hc
     obtain ⟨c,hc1,e⟩:=a8.1 he;simp only [aa] at e;obtain ⟨rfl,rfl⟩:=e;obtain ⟨hn,hc2⟩:=hc;obtain rfl:=Sh.beq_eq _ _ hc2;exact (Sv hs ho hx hj ht hk hcs hn hkk hc1).wp
    ·cases he
   ·cases he
  ·cases hk
 case h_26 x j x' j' ho=>
  simp only [ab,beq_iff_eq] at hok;obtain ⟨hx,rfl⟩:=hok;simp only [am] at he
  split at he
  ·rename_i ds hds
   obtain ⟨c,hc1,e⟩:=a8.1 he;simp only [aa] at e;obtain ⟨rfl,rfl⟩:=e;exact (J4 hs ho hx (.inl ⟨ds,c,hds,hc1,rfl⟩)).wp
  ·rename_i vs hvs
   obtain ⟨c,hc1,e⟩:=a8.1 he;simp only [aa] at e;obtain ⟨rfl,rfl⟩:=e;exact (J4 hs ho hx (.inr ⟨vs,hvs,hc1⟩)).wp
  ·cases he
 case h_27 f xs ys g xs' ys' ho=>
  simp only [ab,beq_iff_eq] at hok;obtain ⟨⟨rfl,hx⟩,hy⟩:=hok;simp only [am] at he;obtain ⟨us,hus,he⟩:=a4.1 he;obtain ⟨vs,hvs,e⟩:=a8.1 he;simp only [aa] at e;obtain ⟨rfl,rfl⟩:=e;exact (Q3 hs ho hx hy hus hvs).wp
 case h_28 str x x' t ho=>
  simp only [ab] at hok;obtain ⟨hx,hk⟩:=hok
  split at hk
  ·rename_i e ht
   simp only [am] at he
   split at he
   ·rename_i sh cs hcs
    simp only [a5,aa] at he;obtain ⟨rfl,rfl⟩:=he;exact (Cz hs ho hx (.inl ⟨⟨e,ht⟩,.inl ⟨sh,cs,hcs,rfl⟩⟩)).wp
   ·rename_i i p off n cap hcs
    simp only [a5,aa] at he;obtain ⟨rfl,rfl⟩:=he;exact (Cz hs ho hx (.inl ⟨⟨e,ht⟩,.inr ⟨i,p,off,cap,hcs⟩⟩)).wp
   ·cases he
  ·rename_i ht
   simp only [am] at he
   split at he
   ·rename_i b hb
    simp only [a5,aa] at he;obtain ⟨rfl,rfl⟩:=he;exact (Cz hs ho hx (.inr ⟨ht,b,hb,rfl⟩)).wp
   ·cases he
  ·cases hk
 case h_29 x y x' y' ts ho=>
  simp only [ab] at hok;simp only [am] at he
  split at he
  ·rename_i k m k' n hm hn
   split at he
   ·rename_i hk
    subst hk;simp only [a5,aa] at he;obtain ⟨rfl,rfl⟩:=he;exact (Ul hs ho hok.1 hok.2 hm hn).wp
   ·cases he
  ·cases he
 case h_30 x y x' y' ts ho=>
  simp only [ab] at hok;simp only [am] at he
  split at he
  ·rename_i k m k' n hm hn
   split at he
   ·rename_i hk
    subst hk;simp only [a5,aa] at he;obtain ⟨rfl,rfl⟩:=he;exact (Tc hs ho hok.1 hok.2 hm hn).wp
   ·cases he
  ·cases he
 case h_31 sh i bytes x y x' y' t tx ho=>
  simp only [ab,decide_eq_true_eq] at hok;obtain ⟨⟨⟨⟨⟨hx,hy⟩,hpos⟩,hby⟩,htx⟩,hk⟩:=hok
  have htx':∃e',P.underlying tx=some (.slice e'):=by
   split at htx
   ·rename_i e' h; exact ⟨e',h⟩
   ·cases htx
  simp only [am] at he;obtain ⟨w,hw,he⟩:=a4.1 he;obtain ⟨d,hd,he⟩:=a4.1 he
  split at he
  ·rename_i sh1 ys j off n cap hxe
   split at he
   ·rename_i fr sh2 cs hB
    split at he
    ·rename_i hc
     obtain ⟨c1,c2,c3,c4⟩:=hc;obtain rfl:=Sh.beq_eq _ _ c1;obtain rfl:=Sh.beq_eq _ _ c2
     split at hk
     ·rename_i e ht
      split at hk
      ·rename_i inf hinf
       simp only [ab,beq_iff_eq] at hk;obtain ⟨⟨hs1,hs2⟩,hk⟩:=hk
       split at hk
       ·rename_i z hz
        have hzs:z.cells.size=sh2.size:=by simpa using hk
        have hlen:n+ys.length≤1099511627776:=by
         have h1:(n+ys.length)*1≤(n+ys.length)*bytes:=kz _ hby
         omega
        obtain ⟨ad,c,e1,_,e3⟩:=yx hs.hr hd (b7 hs hy hw);have app:AppIn P C φ s a sh2 t tx x' y' j off n cap fr cs ys:=⟨⟨e,inf,z,bytes,ht,hinf,hz,hs1,hs2,hzs,c4⟩,htx',hpos,hlen,b7 hs hx hxe,hB,c3,ad,c,e1,e3⟩
        split at he
        ·rename_i hfr
         simp only [a5,aa] at he;obtain ⟨rfl,rfl⟩:=he;obtain ⟨rfl,_⟩:=hfr;refine (tc hs ho app).wp.mono ?_
         rintro i' rfl
         simp [Op.kill,hxe]
        ·split at he
         ·rename_i hcap
          obtain ⟨h2,hpb,e⟩:=a8.1 he;simp only [aa] at e;obtain ⟨rfl,rfl⟩:=e;obtain ⟨hi,rfl⟩:=ca hpb;obtain ⟨rfl,hys⟩:=hcap;exact (Ah hs ho app hys hi).wp
         ·cases he
       ·cases hk
      ·cases hk
     ·cases hk
    ·cases he
   ·cases he
  ·rename_i sh1 y1 ys sh2 hxe
   split at he
   ·rename_i hc
    obtain ⟨c1,c2,c3⟩:=hc;obtain rfl:=Sh.beq_eq _ _ c1;obtain rfl:=Sh.beq_eq _ _ c2;obtain ⟨h2,hpb,e⟩:=a8.1 he;simp only [aa] at e;obtain ⟨rfl,rfl⟩:=e;obtain ⟨hi,rfl⟩:=ca hpb
    split at hk
    ·rename_i e ht
     split at hk
     ·rename_i inf hinf
      simp only [ab,beq_iff_eq] at hk;obtain ⟨⟨hs1,hs2⟩,hk⟩:=hk
      split at hk
      ·rename_i z hz
       have hzs:z.cells.size=sh2.size:=by simpa using hk
       have hlen:0+(y1::ys).length≤1099511627776:=by
        have h1:(ys.length+1)*1≤(ys.length+1)*bytes:=kz _ hby
        simp only [bf]; omega
       obtain ⟨ad,c,e1,_,e3⟩:=yx hs.hr hd (b7 hs hy hw)
       have hnil:a.eval x'=.slice none 0 0:=by
        have:=b7 hs hx hxe;simp only [RX,RV,RD] at this;cases hq:a.eval x' <;> simp_all [Value.cells,isAgg,D.isAgg]
       have:=Ai hs ho hnil hi ⟨e,inf,z,bytes,ht,hinf,hz,hs1,hs2,hzs,by simpa using c3⟩ htx' hpos hlen ⟨ad,c,e1,e3⟩
       simp only [bf,b9] at this;exact this.wp.mono (by simp)
      ·cases hk
     ·cases hk
    ·cases hk
   ·cases he
  ·cases he
 case h_32 m news f xs f' xs' ts ho=>
  simp only [ab,decide_eq_true_eq] at hok;exact Rb hO hs ho hok.1.1 hok.1.2 hok.2 he
 case h_33 neg x op t x' y' yt ho=>
  simp only [ab,decide_eq_true_eq] at hok;obtain ⟨⟨⟨rfl,hx⟩,hy⟩,hk⟩:=hok
  have hy':a.eval y'=.slice none 0 0:=by
   unfold jy at hy
   split at hy
   ·rfl
   ·cases hy
  split at hk
  ·rename_i e ht
   simp only [am] at he
   split at he
   ·rename_i sh c cs hcs
    simp only [a5,aa] at he;obtain ⟨rfl,rfl⟩:=he;exact (Dw hs ho hx ht hy' (.inl ⟨sh,c,cs,hcs⟩)).wp
   ·rename_i i p off n cap hcs
    simp only [a5,aa] at he;obtain ⟨rfl,rfl⟩:=he;exact (Dw hs ho hx ht hy' (.inr ⟨i,p,off,n,cap,hcs⟩)).wp
   ·cases he
  ·cases hk
 case h_34 x src dst x' ho=>
  simp only [ab] at hok;obtain ⟨⟨hx,h1⟩,h2⟩:=hok;simp only [am] at he;obtain ⟨w,hw,he⟩:=a4.1 he;obtain ⟨d,hd,he⟩:=a4.1 he
  split at he
  ·rename_i cs
   obtain ⟨bs,hb,e⟩:=a8.1 he;simp only [aa] at e;obtain ⟨rfl,rfl⟩:=e
   split at h1
   ·rename_i et het
    split at h1
    ·rename_i hu8
     split at h2
     ·rename_i hds
      exact (Mo hs ho hx het hu8 hds hw hd hb).wp
     ·cases h2
    ·cases h1
   ·cases h1
  ·cases he
 case h_35 sh z x x' t ho=>
  simp only [ab] at hok;obtain ⟨hx,h1⟩:=hok;simp only [am] at he
  split at he
  ·rename_i j off n cap hxe
   split at he
   ·rename_i t' cs hj
    split at he
    ·rename_i hc
     simp only [a5,aa] at he;obtain ⟨rfl,rfl⟩:=he
     split at h1
     ·rename_i e ht
      simp only [ab,decide_eq_true_eq] at h1;obtain ⟨⟨h1,h2⟩,h3⟩:=h1;obtain rfl:=Sh.beq_eq _ _ hc.1;exact (N8 hs ho hx ht h1 (Sh.beq_eq _ _ h2) h3 hxe hj hc.2).wp
     ·cases h1
    ·cases he
   ·cases he
  ·cases he
 case h_36 i t ho=>
  simp only [am] at he;obtain ⟨h1,hp,e⟩:=a8.1 he;simp only [aa] at e;obtain ⟨rfl,rfl⟩:=e;obtain ⟨hi,rfl⟩:=ca hp;exact (L9 hs ho hi).wp
 case h_37 x y t x' y' ho=>
  simp only [ab] at hok;obtain ⟨⟨hx,hy⟩,hk⟩:=hok;simp only [am] at he
  split at he
  ·rename_i j k hxe hye
   split at he
   ·rename_i fr es hj
    simp only [a5,aa] at he;obtain ⟨rfl,rfl⟩:=he
    split at hk
    ·rename_i kt et ht
     simp only [ab] at hk;obtain ⟨hk,hz⟩:=hk
     split at hk
     ·rename_i hks
      exact (Jd hs ho hx hy ht hks hz hxe hye hj).wp
     ·cases hk
    ·cases hk
   ·cases he
  ·cases he
 case h_38 x y z t x' y' z' ho=>
  simp only [ab] at hok;obtain ⟨⟨⟨⟨hx,hy⟩,hz⟩,hdst⟩,hk⟩:=hok;simp only [am] at he
  split at he
  ·rename_i j k n hxe hye hze
   split at he
   ·rename_i es hj
    simp only [a5,aa] at he;obtain ⟨rfl,rfl⟩:=he
    split at hk
    ·rename_i kt et ht
     split at hk
     ·rename_i hks
      exact (Jg hs ho (by simpa using hdst) hx hy hz ht hks hxe hye hze hj).wp
     ·cases hk
    ·cases hk
   ·cases he
  ·cases he
 case h_39=>simp [am] at he
 case h_40=>cases hok
end
end Pe

namespace Pe
open Go
variable {P:Program} {num:Nat→Nat}
structure Runs (np:Nat) (C C':Cx) (φ φ':Loc) (h h':Heap):Prop where
 st:Step C C' φ φ' h h'
 kp:Keeps C C' φ φ' h h' (np≤·)
theorem Runs.trans {np:Nat} {C C' C'':Cx} {φ φ' φ'':Loc} {h h' h'':Heap} (a:Runs np C C' φ φ' h h') (b:Runs np C' C'' φ' φ'' h' h''):Runs np C C'' φ φ'' h h'':=
 ⟨a.st.trans b.st,a.kp.trans b.kp⟩
theorem Runs.refl (np:Nat) {C:Cx} {φ:Loc} {h:Heap} (hr:HR C φ h) (hb:∀b,C.I b→b<C.w.heap.size):Runs np C C φ φ h h:=⟨.refl hr hb,Keeps.refl _ _ _ _⟩
theorem Xh {O:ac} {np:Nat} {e:Env} {h h':Heap} {p:Op} {v:V} {j:Nat} (he:am O np e h p=some (v,h')) (hk:p.kill e v=some j):np≤j:=by
 cases p <;> simp only [Op.kill,reduceCtorEq] at hk
 rename_i sh i bytes x y
 simp only [am] at he;obtain ⟨w,hw,he⟩:=a4.1 he;obtain ⟨d,hd,he⟩:=a4.1 he
 split at he
 ·rename_i sh1 ys j' off n cap hxe
  rw [hxe] at hk
  split at he
  ·split at he
   ·split at he
    ·rename_i hfr
     simp only [a5,aa] at he;obtain ⟨rfl,rfl⟩:=he;simp at hk;omega
    ·split at he
     ·obtain ⟨h2,hpb,e⟩:=a8.1 he
      simp only [aa] at e;obtain ⟨rfl,rfl⟩:=e;simp at hk;omega
     ·cases he
   ·cases he
  ·cases he
 ·rename_i hxe
  rw [hxe] at hk;cases hk
 ·cases he
theorem xd (p:Nat→Bool):∀(e:Env) (n:Nat),Env.get (e.filter fun q=>p q.1) n=if p n then e.get n else none
 | [],n=>by simp [Env.get]
 | (m,v)::e,n=>by
  have ih:=xd p e n
  by_cases hm:p m=true
  ·rw [List.filter_cons_of_pos (by simpa using hm)]
   simp only [Env.get]
   by_cases hmn:m=n
   ·subst hmn; simp [hm]
   ·rw [if_neg hmn,if_neg hmn]; exact ih
  ·rw [List.filter_cons_of_neg (by simpa using hm),ih]
   simp only [Env.get]
   by_cases hmn:m=n
   ·subst hmn; simp [hm]
   ·rw [if_neg hmn]
theorem Ju {e:Env} {k:Option Nat} {n:Nat} {v:V} (h:(e.kill k).get n=some v):e.get n=some v∧∀j,k=some j→j ∉ v.refs:=by
 cases k with
 | none=>exact ⟨h,by simp⟩
 | some j=>
  simp only [Env.kill] at h;rw [xd (e.clear j) e n] at h
  split at h
  ·rename_i hp
   unfold Env.clear at hp;rw [h] at hp;refine ⟨h,fun j' hj=>?_⟩
   simp only [a5] at hj;subst hj;intro hm;simp at hp;exact hp j hm rfl
  ·cases h
def Em (P:Program) (num:Nat→Nat) (ops:Array Oper) (N:Nat) (i:Ins) (o:Oper):Bool:=
 decide (i.dst=o.dst)&&(match o.dst with | some d=>decide (d<N) | none=>true)&&Qp P num i.op o &&
 (match i.guard,o.guard with
  | none,none=>true
  | some (n,b),some (g,b')=>b == b'&&decide ((ops[g]?).bind (·.dst)=some n)
  | _,_=>false)
theorem H5 {a:Act} {d n:Nat} {v:Value} (hd:d<a.tmps.size):(a.put (some d) v).tmps[n]? = if n=d then some v else a.tmps[n]?:=by
 simp only [Act.put,fp]
 by_cases h:d=n
 ·subst h; simp [hd]
 ·rw [if_neg h,if_neg (gk h)]
theorem ol (a:Act) (d:Option Nat) (v:Value):(a.put d v).tmps.size=a.tmps.size:=by
 cases d <;> simp [Act.put]
theorem E3 {O:ac} {np:Nat} {s s':St} {i:Ins} (h:mu O np s i=some s'):jb O np s i=some s':=by
 unfold mu at h
 split at h
 ·exact h
 ·cases h
theorem zn {O:ac} {C:Cx} {φ:Loc} {s s':St} {a:Act} {ops:Array Oper} {N np:Nat} {i:Ins} {o:Oper} {j:Nat} {K:Act→World→Prop} {Q:Exit→Act→World→Prop}
 (hO:ja P C.num O) (hs:SR C φ s a.tmps) (hN:N≤a.tmps.size) (hok:Em P C.num ops N i o=true) (hj:ops[j]? = some o) (he:jb O np s i=some s')
 (hK:∀C' φ' u,Runs np C C' φ φ' s.h s'.h→SR C' φ' s' (a.put o.dst u).tmps→K (a.put o.dst u) C'.w):wpOp P ops Q j K a C.w:=by
 unfold Em at hok;simp only [ab,decide_eq_true_eq] at hok;obtain ⟨⟨⟨hdst,hdN⟩,hop⟩,hguard⟩:=hok
 have hdN':∀d,o.dst=some d→d<a.tmps.size:=by
  intro d hd;have h1:=hdN;simp [hd] at h1;exact jd h1 hN
 -- the guard
 have hwant:∀t,i.on s.e=some t→Region.wanted o (yielded ops a.tmps)=t:=by
  intro t ht;unfold Ins.on at ht;unfold Region.wanted;cases hg:i.guard with
  | none=>
   rw [hg] at hguard ht;cases hg':o.guard with
   | none=>simpa using ht
   | some x=>rw [hg'] at hguard; cases hguard
  | some q=>
   obtain ⟨n,b⟩:=q;rw [hg] at hguard ht;cases hg':o.guard with
   | none=>rw [hg'] at hguard; cases hguard
   | some x=>
    obtain ⟨g,b'⟩:=x;rw [hg'] at hguard;simp only [ab,beq_iff_eq,decide_eq_true_eq] at hguard;obtain ⟨rfl,hgn⟩:=hguard;simp only at ht ⊢
    split at ht
    ·rename_i t' hn
     obtain ⟨u,hu,hx⟩:=hs.env n _ hn;have hub:=Gk hx;subst hub
     have hy:yielded ops a.tmps g=some t':=by
      unfold yielded;rw [hgn];simp [hu]
     rw [hy];simp only [a5] at ht;rw [←ht];cases t' <;> cases b <;> rfl
    ·rename_i hn
     obtain ⟨u,hu,hx⟩:=hs.env n _ hn;simp only [RX,RXs] at hx;obtain ⟨us,rfl,-⟩:=hx
     have hy:yielded ops a.tmps g=none:=by
      unfold yielded;rw [hgn];simp [hu]
     rw [hy];simp only [a5] at ht;rw [←ht];rfl
    ·cases ht
 unfold jb at he;unfold wpOp;simp only [hj]
 split at he
 ·rename_i hg
  rw [hwant true hg,if_pos rfl]
  ·obtain ⟨⟨v,h'⟩,hev,rfl⟩:=a8.1 he
   left;refine Ru hO hs hop hev K Q fun C' φ' u st hx k=>hK C' φ' u ⟨st,k.mono fun i hi=>Xh hev hi⟩ ⟨st.hr,st.bd,fun n w hn=>?_⟩
   simp only at hn
   have old:∀w,((s.e.kill (i.op.kill s.e v)).get n=some w)→∃u0,a.tmps[n]? = some u0∧RX C' φ' h' w u0:=by
    intro w hw;obtain ⟨g1,g2⟩:=Ju hw;obtain ⟨u0,h1,h2⟩:=hs.env n w g1;exact ⟨u0,h1,k w u0 (fun j hj hk=>g2 j hk hj) h2⟩
   cases hd:o.dst with
   | none=>
    rw [hdst,hd] at hn;simp only [Env.putO] at hn;exact old w hn
   | some d=>
    rw [hdst,hd] at hn;simp only [Env.putO,Env.get] at hn;rw [H5 (hdN' d hd)]
    by_cases hdn:d=n
    ·subst hdn
     simp only [if_true,a5] at hn;subst hn;refine ⟨u,if_pos rfl,?_⟩;rcases hx with hx | hx
     ·rw [hd] at hx; cases hx
     ·exact hx
    ·rw [if_neg hdn] at hn
     rw [if_neg (gk hdn)];exact old w hn
 ·rename_i hg
  rw [hwant false hg,if_neg (by simp)]
  obtain rfl:=ao he;refine hK C φ undef (.refl np hs.hr hs.bd) ⟨hs.hr,hs.bd,fun n w hn=>?_⟩
  cases hd:o.dst with
  | none=>
   rw [hdst,hd] at hn;exact hs.env n w hn
  | some d=>
   rw [hdst,hd] at hn;simp only [Env.putO,Env.get] at hn;rw [H5 (hdN' d hd)]
   by_cases hdn:d=n
   ·subst hdn
    simp only [if_true,a5] at hn;subst hn;exact ⟨undef,if_pos rfl,by simp [RX,RXs,undef]⟩
   ·rw [if_neg hdn] at hn
    rw [if_neg (gk hdn)];exact hs.env n w hn
 ·cases he
theorem Cj {e:Env}:∀{ks:List Nat} {n:Nat} {v:V},(e.keep ks).get n=some v→e.get n=some v
 | [],n,v,h=>by simp [Env.keep,Env.get] at h
 | k::ks,n,v,h=>by
  simp only [Env.keep] at h
  split at h
  ·rename_i u hu
   simp only [Env.get] at h
   by_cases hk:k=n
   ·subst hk
    simp only [if_true,a5] at h;subst h; exact hu
   ·rw [if_neg hk] at h; exact Cj h
  ·exact Cj h
theorem vj (e:Env) (np:Nat):∀(j:Nat) (h:Heap) (i:Nat),(og e np j h)[i]? = (h[i]?).map fun b=>if j+i<np∨e.refd (j+i) then b else .hole
 | j,[],i=>by simp [og]
 | j,b::bs,i=>by
  simp only [og];cases i with
  | zero=>simp
  | succ i=>
   simp only [mb];rw [vj e np (j+1) bs i];rw [show j+1+i=j+(i+1) by omega]
theorem Uh {e:Env} {n i:Nat} {v:V} (h:e.get n=some v) (hi:i∈v.refs):e.refd i=true:=by
 induction e with
 | nil=>simp [Env.get] at h
 | cons q e ih=>
  obtain ⟨m,u⟩:=q;simp only [Env.get] at h;simp only [Env.refd,o9,Bool.or_eq_true] at ih ⊢
  by_cases hm:m=n
  ·rw [if_pos hm,a5] at h
   subst h;left
   simpa using hi
  ·rw [if_neg hm] at h
   exact .inr (ih h)
theorem Cl {C:Cx} {φ:Loc} {s:St} {tmps:Array Value} (np:Nat) (hs:SR C φ s tmps) (ks:List Nat) :
 Runs np C C φ φ s.h (og (s.e.keep ks) np 0 s.h)∧SR C φ ⟨s.e.keep ks,og (s.e.keep ks) np 0 s.h⟩ tmps:=by
 obtain ⟨st,k⟩:=Q5 (h':=og (s.e.keep ks) np 0 s.h) hs.hr hs.bd (fun i B hB=>by
  rw [vj] at hB;obtain ⟨b,hb,e⟩:=a8.1 hB
  split at e
  ·subst e; exact .inr hb
  ·exact .inl e.symm) (fun i B hB=>by
  rw [vj,hB];refine ⟨_,rfl,?_⟩
  split
  ·exact .inr rfl
  ·exact .inl rfl)
 have hold:∀v u,RX C φ s.h v u→(∀i∈v.refs,i<np∨(s.e.keep ks).refd i=true)→RX C φ (og (s.e.keep ks) np 0 s.h) v u:=by
  intro v u g hi;refine k v u (fun i hiv hh=>?_) g
  obtain ⟨B,hB,hn⟩:=RX.refs v u g i hiv;have hh:(og (s.e.keep ks) np 0 s.h)[i]? = some Blk.hole:=hh;rw [vj,hB,bo,b9,if_pos (hi i hiv)] at hh;exact hn (ao hh)
 refine ⟨⟨st,fun v u hv g=>hold v u g fun i hi=>.inl (by have:=hv i hi; omega)⟩,⟨st.hr,st.bd,fun n v hn=>?_⟩⟩
 obtain ⟨u,h1,h2⟩:=hs.env n v (Cj hn);exact ⟨u,h1,hold v u h2 fun i hi=>.inr (Uh hn hi)⟩
def uz (P:Program) (num:Nat→Nat) (ops:Array Oper) (N:Nat):List Ins→List Oper→Bool
 | [],[]=>true
 | i::is,o::os=>Em P num ops N i o&&uz P num ops N is os
 | _,_=>false
theorem qa {num:Nat→Nat} {ops:Array Oper} {N:Nat}:∀{is:List Ins} {os:List Oper},uz P num ops N is os=true→is.length=os.length∧∀(k:Nat) i o,is[k]? = some i→os[k]? = some o→Em P num ops N i o=true
 | [],[],_=>by simp
 | i::is,o::os,h=>by
  simp only [uz,ab] at h;obtain ⟨h1,h2⟩:=qa h.2;refine ⟨by simp [h1],fun k i' o' hi ho=>?_⟩
  cases k with
  | zero=>
   simp only [dh,a5] at hi ho;subst hi; subst ho; exact h.1
  | succ k=>exact h2 k i' o' (by simpa using hi) (by simpa using ho)
 | [],_::_,h=>by simp [uz] at h
 | _::_,[],h=>by simp [uz] at h
theorem E2 {O:ac} {ops:Array Oper} {N np:Nat} {Q:Exit→Act→World→Prop} {is:List Ins} (hok:uz P num ops N is ops.toList=true) (hO:ja P num O) :
 ∀(m k:Nat),k+m=is.length→∀(C:Cx) (φ:Loc) (s s':St) (a:Act),C.num=num→SR C φ s a.tmps→N≤a.tmps.size→du O np (is.drop k) s=some s' →
 (∀C' φ' a',C'.num=num→Runs np C C' φ φ' s.h s'.h→SR C' φ' s' a'.tmps→a'.tmps.size=a.tmps.size→a'.defers=a.defers→Q .normal a' C'.w)→wpOps P ops Q (List.range' k m) a C.w
 | 0,k,hk,C,φ,s,s',a,hC,hs,hN,he,hQ=>by
  rw [List.drop_eq_nil_of_le (by omega)] at he
  simp only [du,a5] at he;subst he;simp only [List.range'_zero,wpOps];exact hQ C φ a hC (.refl np hs.hr hs.bd) hs rfl rfl
 | m+1,k,hk,C,φ,s,s',a,hC,hs,hN,he,hQ=>by
  obtain ⟨hl,hget⟩:=qa hok;have hkl:k<is.length:=by omega
  have hi:is[k]? = some is[k]:=ah hkl;have hko:k<ops.toList.length:=by omega
  have ho:ops.toList[k]? = some ops.toList[k]:=ah hko;rw [ci hkl] at he;simp only [du] at he;obtain ⟨s1,h1,he⟩:=a4.1 he;rw [List.range'_succ,wpOps_cons];have ho':ops[k]? = some ops.toList[k]:=by simp
  refine zn (hC▸hO) hs hN (hC▸hget k _ _ hi ho) ho' (E3 h1) fun C' φ' u rn hs'=>?_
  have hC':C'.num=num:=rn.st.le.num.trans hC;refine E2 hok hO m (k+1) (by omega) C' φ' s1 s' _ hC' hs' (by rw [ol]; exact hN) he fun C2 φ2 a2 h2 rn2 hs2 e2 d2=>?_
  refine hQ C2 φ2 a2 h2 (rn.trans rn2) hs2 (by rw [e2,ol]) ?_
  rw [d2];cases ops.toList[k].dst <;> rfl
end Pe

namespace Pe
open Go
def Le (ns:List Nat) (e e':Env):Prop:=∀n∈ns,∀v,e.get n=some v→e'.get n=some v
theorem Le.sub {ns ms:List Nat} {e e':Env} (h:Le ns e e') (hs:∀n∈ms,n∈ns):Le ms e e':=fun n hn v hv=>h n (hs n hn) v hv
theorem bu {e e':Env} {x:Arg} (h:Le x.temps e e') {v:V} (hv:e.arg x=some v):e'.arg x=some v:=by
 cases x with
 | t n=>exact h n (by simp [Arg.temps]) v hv
 | c d=>exact hv
 | f f=>exact hv
theorem vr {e e':Env}:∀{xs:List Arg},Le (rh xs) e e'→∀{vs:List V},e.args xs=some vs→e'.args xs=some vs
 | [],_,vs,hv=>hv
 | x::xs,h,vs,hv=>by
  simp only [Env.args] at hv ⊢;obtain ⟨v,h1,hv⟩:=a4.1 hv;obtain ⟨r,h2,rfl⟩:=a8.1 hv;rw [bu (h.sub fun n hn=>by simp [rh,hn]) h1,a9,vr (h.sub fun n hn=>by simp [rh,hn]) h2,bo]
theorem tm {e e':Env} {x:Arg} (h:Le x.temps e e') {k:Nat} (hv:(e.arg x).bind V.nat? = some k):(e'.arg x).bind V.nat? = some k:=by
 obtain ⟨v,h1,h2⟩:=a4.1 hv;rw [bu h h1,a9,h2]
theorem jf {e e':Env} {x:Option Arg} (h:Le (ue x) e e') {m k:Nat} (hv:cg e x m=some k):cg e' x m=some k:=by
 cases x with
 | none=>exact hv
 | some a=>exact tm h hv
theorem xc {e e':Env} {h:Heap}:∀{ps:List (Nat×Arg)},Le (pr ps) e e'→∀{xs:List (Nat×D)},fl e h ps=some xs→fl e' h ps=some xs∧cq e' ps=cq e ps
 | [],_,xs,hv=>⟨hv,rfl⟩
 | (i,a)::r,hl,xs,hv=>by
  simp only [fl] at hv ⊢;obtain ⟨v,h1,hv⟩:=a4.1 hv;obtain ⟨x,h2,hv⟩:=a4.1 hv
  split at hv
  ·cases hv
  ·rename_i hx
   obtain ⟨ys,h3,rfl⟩:=a8.1 hv;have h1':=bu (hl.sub fun n hn=>by simp [pr,hn]) h1
   obtain ⟨g1,g2⟩:=xc (hl.sub fun n hn=>by simp [pr,hn]) h3
   refine ⟨?_,by simp only [cq,h1',h1,g2]⟩
   rw [h1',a9,h2,a9,if_neg hx,g1,bo]
theorem Xj {O:ac} {np:Nat} {e e':Env} {h:Heap} {p:Op} {r:V×Heap} (hl:Le p.temps e e') (he:am O np e h p=some r):am O np e' h p=some r∧p.kill e' r.1=p.kill e r.1:=by
 cases p with
 | mv x=>
  simp only [am] at he ⊢;obtain ⟨v,hv,e1⟩:=a8.1 he;rw [bu hl hv]; exact ⟨e1▸rfl,rfl⟩
 | chk x=>
  simp only [am] at he ⊢
  split at he
  ·rename_i hx; rw [bu hl hx]; exact ⟨he,rfl⟩
  ·rename_i hx; rw [bu hl hx]; exact ⟨he,rfl⟩
  ·cases he
 | pick c a b=>
  simp only [am] at he ⊢
  split at he
  ·rename_i t hc
   obtain ⟨v,hv,e1⟩:=a8.1 he;rw [bu (hl.sub fun n hn=>by simp [Op.temps,hn]) hc]
   simp only;have:e'.arg (if t then a else b)=some v:=bu (hl.sub fun n hn=>by cases t <;> simp_all [Op.temps]) hv
   rw [this]; exact ⟨e1▸rfl,rfl⟩
  ·cases he
 | nilOwn i s=>exact ⟨he,rfl⟩
 | box fz i x=>
  simp only [am] at he ⊢;obtain ⟨v,hv,he⟩:=a4.1 he;rw [bu hl hv]; exact ⟨he,rfl⟩
 | build fz z ps=>
  simp only [am] at he ⊢;obtain ⟨v,hv,he⟩:=a4.1 he;obtain ⟨g1,g2⟩:=xc hl hv;rw [g1,g2]; exact ⟨he,rfl⟩
 | buildSl fz i s z n ps=>
  simp only [am] at he ⊢;obtain ⟨v,hv,he⟩:=a4.1 he;obtain ⟨g1,g2⟩:=xc hl hv;rw [g1,g2]; exact ⟨he,rfl⟩
 | mkSl i s z bytes x y=>
  simp only [am] at he ⊢
  split at he
  ·rename_i n m hn hm
   rw [tm (hl.sub fun n hn=>by simp [Op.temps,hn]) hn,tm (hl.sub fun n hn=>by simp [Op.temps,hn]) hm]
   exact ⟨he,rfl⟩
  ·cases he
 | load s x=>
  simp only [am] at he ⊢
  split at he
  ·rename_i hx; rw [bu hl hx]; exact ⟨he,rfl⟩
  ·rename_i hx; rw [bu hl hx]; exact ⟨he,rfl⟩
  ·cases he
 | store fz s x y=>
  simp only [am] at he ⊢;obtain ⟨v,hv,he⟩:=a4.1 he;obtain ⟨d,hd,he⟩:=a4.1 he;obtain ⟨h1,hf,he⟩:=a4.1 he;rw [bu (hl.sub fun n hn=>by simp [Op.temps,hn]) hv,a9,hd,a9,hf,a9]
  split at he
  ·rename_i hx; rw [bu (hl.sub fun n hn=>by simp [Op.temps,hn]) hx]; exact ⟨he,rfl⟩
  ·cases he
 | bin o x y=>
  simp only [am] at he ⊢
  split at he
  ·rename_i hx hy
   rw [bu (hl.sub fun n hn=>by simp [Op.temps,hn]) hx,bu (hl.sub fun n hn=>by simp [Op.temps,hn]) hy]
   exact ⟨he,rfl⟩
  ·cases he
 | eqv neg q x y=>
  simp only [am] at he ⊢
  split at he
  ·rename_i hx hy
   rw [bu (hl.sub fun n hn=>by simp [Op.temps,hn]) hx,bu (hl.sub fun n hn=>by simp [Op.temps,hn]) hy]
   exact ⟨he,rfl⟩
  ·cases he
 | un o x=>
  simp only [am] at he ⊢
  split at he
  ·rename_i hx; rw [bu hl hx]; exact ⟨he,rfl⟩
  ·cases he
 | conv k x=>
  simp only [am] at he ⊢
  split at he
  ·rename_i hx; rw [bu hl hx]; exact ⟨he,rfl⟩
  ·cases he
 | cut ar s x lo hi mx=>
  have l1:Le x.temps e e':=hl.sub fun n hn=>by simp [Op.temps,hn]
  have l2:Le (ue lo) e e':=hl.sub fun n hn=>by simp [Op.temps,hn]
  have l3:Le (ue hi) e e':=hl.sub fun n hn=>by simp [Op.temps,hn]
  have l4:Le (ue mx) e e':=hl.sub fun n hn=>by simp [Op.temps,hn]
  cases ar with
  | none=>
   simp only [am] at he ⊢
   split at he
   ·rename_i hx
    obtain ⟨m,hm,he⟩:=a4.1 he;obtain ⟨b,hb,he⟩:=a4.1 he;obtain ⟨a,ha,he⟩:=a4.1 he;simp only [bu l1 hx,jf l4 hm,jf l3 hb,jf l2 ha,a9];exact ⟨he,rfl⟩
   ·rename_i hx
    obtain ⟨q,hq,he⟩:=a4.1 he;obtain ⟨m,hm,he⟩:=a4.1 he;obtain ⟨b,hb,he⟩:=a4.1 he;obtain ⟨a,ha,he⟩:=a4.1 he;simp only [bu l1 hx,hq,jf l4 hm,jf l3 hb,jf l2 ha,a9];exact ⟨he,rfl⟩
   ·cases he
  | some n=>
   simp only [am] at he ⊢
   split at he
   ·rename_i hx
    obtain ⟨q,hq,he⟩:=a4.1 he;rw [bu l1 hx];simp only [hq,a9]
    split at he
    ·obtain ⟨m,hm,he⟩:=a4.1 he
     obtain ⟨b,hb,he⟩:=a4.1 he;obtain ⟨a,ha,he⟩:=a4.1 he;simp only [jf l4 hm,jf l3 hb,jf l2 ha,a9];exact ⟨he,rfl⟩
    ·cases he
   ·rename_i hx
    obtain ⟨m,hm,he⟩:=a4.1 he;obtain ⟨b,hb,he⟩:=a4.1 he;obtain ⟨a,ha,he⟩:=a4.1 he;simp only [bu l1 hx,jf l4 hm,jf l3 hb,jf l2 ha,a9];exact ⟨he,rfl⟩
   ·cases he
 | fldA ss x j=>
  simp only [am] at he ⊢
  split at he
  ·rename_i hx; rw [bu hl hx]; exact ⟨he,rfl⟩
  ·rename_i hx; rw [bu hl hx]; exact ⟨he,rfl⟩
  ·cases he
 | fld ss x j=>
  simp only [am] at he ⊢
  split at he
  ·rename_i hx; rw [bu hl hx]; exact ⟨he,rfl⟩
  ·cases he
 | idxA ar s x j=>
  have l1:Le x.temps e e':=hl.sub fun n hn=>by simp [Op.temps,hn]
  have l2:Le j.temps e e':=hl.sub fun n hn=>by simp [Op.temps,hn]
  cases ar <;> simp only [am] at he ⊢ <;> split at he <;> first
   | cases he; done
   | (rename_i hx hj; rw [bu l1 hx,tm l2 hj]; exact ⟨he,rfl⟩)
 | idx ar s x j=>
  have l1:Le x.temps e e':=hl.sub fun n hn=>by simp [Op.temps,hn]
  have l2:Le j.temps e e':=hl.sub fun n hn=>by simp [Op.temps,hn]
  cases ar <;> simp only [am] at he ⊢ <;> split at he <;> first
   | cases he; done
   | (rename_i hx hj; rw [bu l1 hx,tm l2 hj]; exact ⟨he,rfl⟩)
 | ext x j=>
  simp only [am] at he ⊢
  split at he
  ·rename_i hx; rw [bu hl hx]; exact ⟨he,rfl⟩
  ·rename_i hx; rw [bu hl hx]; exact ⟨he,rfl⟩
  ·cases he
 | mkFn f xs ys=>
  simp only [am] at he ⊢;obtain ⟨us,hu,he⟩:=a4.1 he;obtain ⟨vs,hv,he⟩:=a8.1 he;rw [vr (hl.sub fun n hn=>by simp [Op.temps,hn]) hu,vr (hl.sub fun n hn=>by simp [Op.temps,hn]) hv]
  exact ⟨congrArg some he,rfl⟩
 | len str x=>
  cases str <;> simp only [am] at he ⊢ <;> split at he <;> first
   | cases he; done
   | (rename_i hx; rw [bu hl hx]; exact ⟨he,rfl⟩)
 | maxI x y=>
  simp only [am] at he ⊢
  split at he
  ·rename_i hx hy
   rw [bu (hl.sub fun n hn=>by simp [Op.temps,hn]) hx,bu (hl.sub fun n hn=>by simp [Op.temps,hn]) hy]
   exact ⟨he,rfl⟩
  ·cases he
 | minI x y=>
  simp only [am] at he ⊢
  split at he
  ·rename_i hx hy
   rw [bu (hl.sub fun n hn=>by simp [Op.temps,hn]) hx,bu (hl.sub fun n hn=>by simp [Op.temps,hn]) hy]
   exact ⟨he,rfl⟩
  ·cases he
 | append s i bytes x y=>
  simp only [am] at he ⊢;obtain ⟨w,hw,he⟩:=a4.1 he;obtain ⟨d,hd,he⟩:=a4.1 he;rw [bu (hl.sub fun n hn=>by simp [Op.temps,hn]) hw,a9,hd,a9]
  split at he
  ·rename_i hx
   have hx':=bu (hl.sub fun n hn=>by simp [Op.temps,hn]) hx
   simp only [hx',Op.kill,hx];exact ⟨he,trivial⟩
  ·rename_i hx
   have hx':=bu (hl.sub fun n hn=>by simp [Op.temps,hn]) hx
   simp only [hx',Op.kill,hx];exact ⟨he,trivial⟩
  ·cases he
 | copy s x y=>
  simp only [am] at he ⊢;obtain ⟨w,hw,he⟩:=a4.1 he;obtain ⟨d,hd,he⟩:=a4.1 he;rw [bu (hl.sub fun n hn=>by simp [Op.temps,hn]) hw,a9,hd,a9]
  split at he
  ·rename_i hx
   have hx':=bu (hl.sub fun n hn=>by simp [Op.temps,hn]) hx
   simp only [hx'];exact ⟨he,rfl⟩
  ·cases he
 | call m news f xs=>
  simp only [am] at he ⊢;obtain ⟨w,hw,he⟩:=a4.1 he;obtain ⟨g,hg,he⟩:=a4.1 he;obtain ⟨vs,hv,he⟩:=a4.1 he;rw [bu (hl.sub fun n hn=>by simp [Op.temps,hn]) hw,a9,hg,a9,vr (hl.sub fun n hn=>by simp [Op.temps,hn]) hv,a9]
  exact ⟨he,rfl⟩
 | nilq neg x=>
  simp only [am] at he ⊢
  split at he
  ·rename_i hx; rw [bu hl hx]; exact ⟨he,rfl⟩
  ·rename_i hx; rw [bu hl hx]; exact ⟨he,rfl⟩
  ·cases he
 | toStr x=>
  simp only [am] at he ⊢;obtain ⟨w,hw,he⟩:=a4.1 he;rw [bu hl hw,a9];exact ⟨he,rfl⟩
 | clear s z x=>
  simp only [am] at he ⊢
  split at he
  ·rename_i hx; rw [bu hl hx]; exact ⟨he,rfl⟩
  ·cases he
 | mkMap i=>exact ⟨he,rfl⟩
 | mapGet x k=>
  simp only [am] at he ⊢
  split at he
  ·rename_i hx hk
   rw [bu (hl.sub fun n hn=>by simp [Op.temps,hn]) hx,bu (hl.sub fun n hn=>by simp [Op.temps,hn]) hk]
   exact ⟨he,rfl⟩
  ·cases he
 | mapSet x k v=>
  simp only [am] at he ⊢
  split at he
  ·rename_i hx hk hv
   rw [bu (hl.sub fun n hn=>by simp [Op.temps,hn]) hx,bu (hl.sub fun n hn=>by simp [Op.temps,hn]) hk,bu (hl.sub fun n hn=>by simp [Op.temps,hn]) hv]
   exact ⟨he,rfl⟩
  ·cases he
 | fail=>simp [am] at he
mutual
theorem jn {h h2:Heap}:∀(v:V),(∀i∈v.refs,h2[i]? = h[i]?)→toD h2 v=toD h v
 | .d x,_=>by simp [toD]
 | .sl i p off len cap,g=>by simp only [toD]; rw [g i (by simp [V.refs])]
 | .ptr i p,g=>by simp only [toD]; rw [g i (by simp [V.refs])]
 | .mp _,_=>by simp [toD]
 | .fn f first caps,g=>by
  simp only [toD];rw [m6 first fun i hi=>g i (by simp [V.refs,hi]),m6 caps fun i hi=>g i (by simp [V.refs,hi])]
 | .tup vs,g=>by
  simp only [toD];rw [m6 vs fun i hi=>g i (by simpa [V.refs] using hi)]
theorem m6 {h h2:Heap}:∀(vs:List V),(∀i∈V.refss vs,h2[i]? = h[i]?)→kl h2 vs=kl h vs
 | [],_=>by simp [kl]
 | v::vs,g=>by
  simp only [kl];rw [jn v fun i hi=>g i (by simp [V.refss,hi]),m6 vs fun i hi=>g i (by simp [V.refss,hi])]
end
inductive Cls where
 | z | r | a | s | w | x
 deriving DecidableEq
def Op.cls:Op→Cls
 | .mv _ | .chk _ | .pick _ _ _ | .bin _ _ _ | .eqv _ _ _ _ | .un _ _ | .conv _ _ | .fld _ _ _ | .idx _ _ _ _ | .ext _ _ | .mkFn _ _ _ | .len _ _ | .maxI _ _ | .minI _ _ | .nilq _ _ | .fail=>.z
 | .load _ _ | .cut _ _ _ _ _ _ | .fldA _ _ _ | .idxA _ _ _ _ | .build false _ _ | .call .flat _ _ _ | .call .plain _ _ _=>.r
 | .nilOwn _ _ | .box false _ _ | .buildSl false _ _ _ _ _ | .mkSl _ _ _ _ _ _=>.a
 | .store false _ _ _=>.s
 | .toStr _ | .clear _ _ _ | .mkMap _ | .mapGet _ _ | .mapSet _ _ _=>.x
 | .store true _ _ _ | .box true _ _ | .build true _ _ | .buildSl true _ _ _ _ _ | .copy _ _ _ | .call .data _ _ _ | .call .heap _ _ _ | .append _ _ _ _ _=>.w
theorem qf {e:Env} {ns:List Nat} {n i:Nat} {v:V} (hn:n∈ns) (hv:e.get n=some v) (hi:i∈v.refs):i∈e.refsOf ns:=by
 induction ns with
 | nil=>simp at hn
 | cons m ns ih=>
  simp only [Env.refsOf,au];rcases cr.1 hn with rfl | hn
  ·left; simp [hv,hi]
  ·exact .inr (ih hn)
theorem wv {e:Env} {ns:List Nat} {i:Nat} (h:i∈e.refsOf ns):∃n∈ns,∃v,e.get n=some v∧i∈v.refs:=by
 induction ns with
 | nil=>simp [Env.refsOf] at h
 | cons m ns ih=>
  simp only [Env.refsOf,au] at h;rcases h with h | h
  ·split at h
   ·rename_i v hv; exact ⟨m,by simp,v,hv,h⟩
   ·simp at h
  ·obtain ⟨n,hn,q⟩:=ih h
   exact ⟨n,by simp [hn],q⟩
theorem Li {e:Env} {ns ms:List Nat} (hs:∀n∈ns,n∈ms) {i:Nat} (h:i∈e.refsOf ns):i∈e.refsOf ms:=by
 obtain ⟨n,hn,v,hv,hi⟩:=wv h;exact qf (hs n hn) hv hi
theorem dq {e:Env} {x:Arg} {v:V} (hv:e.arg x=some v) {i:Nat} (hi:i∈v.refs):i∈e.refsOf x.temps:=by
 cases x with
 | t n=>exact qf (by simp [Arg.temps]) hv hi
 | c d=>simp only [Env.arg,a5] at hv; subst hv; simp [V.refs] at hi
 | f f=>simp only [Env.arg,a5] at hv; subst hv; simp [V.refs] at hi
theorem ck (e:Env) (ns ms:List Nat):e.refsOf (ns++ms)=e.refsOf ns++e.refsOf ms:=by
 induction ns with
 | nil=>rfl
 | cons n ns ih=>simp [Env.refsOf,ih,fi]
theorem ph {e:Env}:∀{xs:List Arg} {vs:List V},e.args xs=some vs→∀{i:Nat},i∈V.refss vs→i∈e.refsOf (rh xs)
 | [],vs,hv,i,hi=>by simp only [Env.args,a5] at hv; subst hv; simp [V.refss] at hi
 | x::xs,vs,hv,i,hi=>by
  simp only [Env.args] at hv;obtain ⟨v,h1,hv⟩:=a4.1 hv;obtain ⟨r,h2,rfl⟩:=a8.1 hv;simp only [V.refss,au] at hi;simp only [rh,ck,au];rcases hi with hi | hi
  ·exact .inl (dq h1 hi)
  ·exact .inr (ph h2 hi)
theorem oc {e:Env} {h h2:Heap}:∀{ps:List (Nat×Arg)},(∀i∈e.refsOf (pr ps),h2[i]? = h[i]?)→fl e h2 ps=fl e h ps
 | [],_=>rfl
 | (i,a)::r,g=>by
  simp only [fl];cases ha:e.arg a with
  | none=>rfl
  | some v=>
   simp only [a9];rw [jn v fun j hj=>g j (by simp only [pr,ck,au]; exact .inl (dq ha hj)),oc fun j hj=>g j (by simp only [pr,ck,au]; exact .inr hj)]
end Pe

namespace Pe
open Go
theorem Dx:∀{vs:List V} {j:Nat} {v:V},vs[j]? = some v→∀i∈v.refs,i∈V.refss vs
 | [],j,v,h,i,_=>by simp at h
 | w::vs,0,v,h,i,hi=>by simp at h; subst h; simp [V.refss,hi]
 | w::vs,j+1,v,h,i,hi=>by
  simp only [V.refss,au];exact .inr (Dx (by simpa using h) i hi)
theorem a35 {O:ac} {np:Nat} {e:Env} {h h':Heap} {p:Op} {v:V} (hc:p.cls=.z) (he:am O np e h p=some (v,h')) :
 h'=h∧(∀h2,am O np e h2 p=some (v,h2))∧∀i∈v.refs,i∈e.refsOf p.temps:=by
 cases p with
 | mv x=>
  simp only [am] at he ⊢;obtain ⟨u,hu,e1⟩:=a8.1 he;simp only [aa] at e1;obtain ⟨rfl,rfl⟩:=e1;exact ⟨rfl,fun h2=>by rw [hu]; rfl,fun i hi=>dq hu hi⟩
 | chk x=>
  simp only [am] at he ⊢
  split at he
  ·rename_i hx
   simp only [a5,aa] at he;obtain ⟨rfl,rfl⟩:=he;exact ⟨rfl,fun h2=>rfl,fun i hi=>dq hx hi⟩
  ·rename_i hx
   simp only [a5,aa] at he;obtain ⟨rfl,rfl⟩:=he;exact ⟨rfl,fun h2=>rfl,fun i hi=>dq hx hi⟩
  ·cases he
 | pick c a b=>
  simp only [am] at he ⊢
  split at he
  ·rename_i t hc
   obtain ⟨u,hu,e1⟩:=a8.1 he;simp only [aa] at e1;obtain ⟨rfl,rfl⟩:=e1;refine ⟨rfl,fun h2=>by rw [hu]; rfl,fun i hi=>?_⟩
   simp only [Op.temps,ck,au];cases t
   ·exact .inr (dq hu hi)
   ·exact .inl (.inr (dq hu hi))
  ·cases he
 | bin o x y=>
  simp only [am] at he ⊢
  split at he
  ·rename_i hx hy
   obtain ⟨u,hu,e1⟩:=a8.1 he;simp only [aa] at e1;obtain ⟨rfl,rfl⟩:=e1;exact ⟨rfl,fun h2=>by rw [hu]; rfl,fun i hi=>by simp [V.refs] at hi⟩
  ·cases he
 | eqv neg q x y=>
  simp only [am] at he ⊢
  split at he
  ·rename_i hx hy
   obtain ⟨u,hu,e1⟩:=a8.1 he;simp only [aa] at e1;obtain ⟨rfl,rfl⟩:=e1;exact ⟨rfl,fun h2=>by rw [hu]; rfl,fun i hi=>by simp [V.refs] at hi⟩
  ·cases he
 | un o x=>
  simp only [am] at he ⊢
  split at he
  ·obtain ⟨u,hu,e1⟩:=a8.1 he
   simp only [aa] at e1;obtain ⟨rfl,rfl⟩:=e1;exact ⟨rfl,fun h2=>by rw [hu]; rfl,fun i hi=>by simp [V.refs] at hi⟩
  ·cases he
 | conv k x=>
  simp only [am] at he ⊢
  split at he
  ·simp only [a5,aa] at he
   obtain ⟨rfl,rfl⟩:=he;exact ⟨rfl,fun h2=>rfl,fun i hi=>by simp [V.refs] at hi⟩
  ·cases he
 | fld ss x j=>
  simp only [am] at he ⊢
  split at he
  ·split at he
   ·rename_i hs
    obtain ⟨u,hu,e1⟩:=a8.1 he;simp only [aa] at e1;obtain ⟨rfl,rfl⟩:=e1;exact ⟨rfl,fun h2=>by rw [if_pos hs,hu]; rfl,fun i hi=>by simp [V.refs] at hi⟩
   ·cases he
  ·cases he
 | idx ar s x j=>
  cases ar with
  | none=>
   simp only [am] at he ⊢
   split at he
   ·obtain ⟨u,hu,e1⟩:=a8.1 he
    simp only [aa] at e1;obtain ⟨rfl,rfl⟩:=e1;exact ⟨rfl,fun h2=>by rw [hu]; rfl,fun i hi=>by simp [V.refs] at hi⟩
   ·cases he
  | some n=>
   simp only [am] at he ⊢
   split at he
   ·split at he
    ·rename_i hs
     obtain ⟨u,hu,e1⟩:=a8.1 he;simp only [aa] at e1;obtain ⟨rfl,rfl⟩:=e1;exact ⟨rfl,fun h2=>by rw [if_pos hs,hu]; rfl,fun i hi=>by simp [V.refs] at hi⟩
    ·cases he
   ·cases he
 | ext x j=>
  simp only [am] at he ⊢
  split at he
  ·obtain ⟨u,hu,e1⟩:=a8.1 he
   simp only [aa] at e1;obtain ⟨rfl,rfl⟩:=e1;exact ⟨rfl,fun h2=>by rw [hu]; rfl,fun i hi=>by simp [V.refs] at hi⟩
  ·rename_i vs hx
   obtain ⟨u,hu,e1⟩:=a8.1 he;simp only [aa] at e1;obtain ⟨rfl,rfl⟩:=e1;exact ⟨rfl,fun h2=>by rw [hu]; rfl,fun i hi=>dq hx (by simpa [V.refs] using Dx hu i hi)⟩
  ·cases he
 | mkFn f xs ys=>
  simp only [am] at he ⊢;obtain ⟨us,hu,he⟩:=a4.1 he;obtain ⟨vs,hv,e1⟩:=a8.1 he;simp only [aa] at e1;obtain ⟨rfl,rfl⟩:=e1;refine ⟨rfl,fun h2=>by rw [hu,a9,hv]; rfl,fun i hi=>?_⟩
  simp only [V.refs,au] at hi;simp only [Op.temps,ck,au];exact hi.imp (ph hu) (ph hv)
 | len str x=>
  cases str <;> simp only [am] at he ⊢ <;> split at he <;> first
   | cases he; done
   | (simp only [a5,aa] at he
      obtain ⟨rfl,rfl⟩:=he;exact ⟨rfl,fun h2=>rfl,fun i hi=>by simp [V.refs] at hi⟩)
 | maxI x y=>
  simp only [am] at he ⊢
  split at he
  ·split at he
   ·rename_i hk
    simp only [a5,aa] at he;obtain ⟨rfl,rfl⟩:=he;exact ⟨rfl,fun h2=>by rw [if_pos hk],fun i hi=>by simp [V.refs] at hi⟩
   ·cases he
  ·cases he
 | minI x y=>
  simp only [am] at he ⊢
  split at he
  ·split at he
   ·rename_i hk
    simp only [a5,aa] at he;obtain ⟨rfl,rfl⟩:=he;exact ⟨rfl,fun h2=>by rw [if_pos hk],fun i hi=>by simp [V.refs] at hi⟩
   ·cases he
  ·cases he
 | nilq neg x=>
  simp only [am] at he ⊢
  split at he
  ·simp only [a5,aa] at he
   obtain ⟨rfl,rfl⟩:=he;exact ⟨rfl,fun h2=>rfl,fun i hi=>by simp [V.refs] at hi⟩
  ·simp only [a5,aa] at he
   obtain ⟨rfl,rfl⟩:=he;exact ⟨rfl,fun h2=>rfl,fun i hi=>by simp [V.refs] at hi⟩
  ·cases he
 | fail=>simp [am] at he
 | call m news f xs=>cases m <;> simp [Op.cls] at hc
 | box fz i x=>cases fz <;> simp [Op.cls] at hc
 | build fz z ps=>cases fz <;> simp [Op.cls] at hc
 | buildSl fz i s z n ps=>cases fz <;> simp [Op.cls] at hc
 | store fz s x y=>cases fz <;> simp [Op.cls] at hc
 | nilOwn _ _=>simp [Op.cls] at hc
 | mkSl _ _ _ _ _ _=>simp [Op.cls] at hc
 | load _ _=>simp [Op.cls] at hc
 | cut _ _ _ _ _ _=>simp [Op.cls] at hc
 | fldA _ _ _=>simp [Op.cls] at hc
 | idxA _ _ _ _=>simp [Op.cls] at hc
 | append _ _ _ _ _=>simp [Op.cls] at hc
 | copy _ _ _=>simp [Op.cls] at hc
 | toStr _=>simp [Op.cls] at hc
 | clear _ _ _=>simp [Op.cls] at hc
 | mkMap _=>simp [Op.cls] at hc
 | mapGet _ _=>simp [Op.cls] at hc
 | mapSet _ _ _=>simp [Op.cls] at hc
theorem m8 {e:Env} {f:Arg} {fv:V} {g:Nat×List V×List V} (hf:e.arg f=some fv) (hg:callee fv=some g):∀i,i∈V.refss g.2.1∨i∈V.refss g.2.2→i∈e.refsOf f.temps:=by
 have hd:∀ds:List D,V.refss (ds.map .d)=[]:=by
  intro ds
  induction ds with
  | nil=>simp [V.refss]
  | cons d ds ih=>simp [V.refss,V.refs,ih]
 intro i hi;unfold callee at hg
 split at hg
 ·simp only [a5] at hg
  subst hg;simp only [hd] at hi;simp at hi
 ·simp only [a5] at hg
  subst hg;exact dq hf (by simpa [V.refs] using hi)
 ·cases hg
theorem t6 (vs ws:List V):V.refss (vs++ws)=V.refss vs++V.refss ws:=by
 induction vs with
 | nil=>simp [V.refss]
 | cons v vs ih=>simp [V.refss,ih,fi]
theorem a33 {O:ac} {np:Nat} {e:Env} {h h':Heap} {p:Op} {v:V} (hc:p.cls=.r) (he:am O np e h p=some (v,h')) :
 h'=h∧(∀h2,(∀i∈e.refsOf p.temps,h2[i]? = h[i]?)→am O np e h2 p=some (v,h2))∧∀i∈v.refs,i∈e.refsOf p.temps:=by
 have one:∀{x:Arg} {u:V} {i:Nat} {ts:List Nat},e.arg x=some u→i∈u.refs→(∀n∈x.temps,n∈ts)→i∈e.refsOf ts:=fun hu hi hs=>Li hs (dq hu hi)
 cases p with
 | load s x=>
  simp only [am] at he ⊢
  split at he
  ·split at he
   ·rename_i hs
    simp only [a5,aa] at he;obtain ⟨rfl,rfl⟩:=he;exact ⟨rfl,fun h2 _=>by rw [if_pos hs],fun i hi=>by simp [V.refs] at hi⟩
   ·cases he
  ·rename_i i p hx
   obtain ⟨d,hd,he⟩:=a4.1 he
   split at he
   ·rename_i hs
    simp only [a5,aa] at he;obtain ⟨rfl,rfl⟩:=he;exact ⟨rfl,fun h2 g=>by rw [g i (one hx (by simp [V.refs]) (fun n hn=>hn)),hd,a9,if_pos hs],fun i hi=>by simp [V.refs] at hi⟩
   ·cases he
  ·cases he
 | cut ar s x lo hi mx=>
  have hxs:∀n∈x.temps,n∈(Op.cut ar s x lo hi mx).temps:=fun n hn=>by simp [Op.temps,hn]
  cases ar with
  | none=>
   simp only [am] at he ⊢
   split at he
   ·obtain ⟨m,hm,he⟩:=a4.1 he
    obtain ⟨b,hb,he⟩:=a4.1 he;obtain ⟨a,ha,he⟩:=a4.1 he
    split at he
    ·rename_i hcc
     simp only [a5,aa] at he;obtain ⟨rfl,rfl⟩:=he;exact ⟨rfl,fun h2 _=>by simp only [hm,hb,ha,a9]; rw [if_pos hcc],fun i hi=>by simp [V.refs] at hi⟩
    ·cases he
   ·rename_i i p off n cap hx
    obtain ⟨q,hq,he⟩:=a4.1 he;obtain ⟨m,hm,he⟩:=a4.1 he;obtain ⟨b,hb,he⟩:=a4.1 he;obtain ⟨a,ha,he⟩:=a4.1 he
    split at he
    ·rename_i hcc
     simp only [a5,aa] at he;obtain ⟨rfl,rfl⟩:=he;have hii:=one hx (i:=i) (by simp [V.refs]) hxs
     exact ⟨rfl,fun h2 g=>by simp only [g i hii,hq,hm,hb,ha,a9]; rw [if_pos hcc],fun j hj=>by simp only [V.refs,bb] at hj; subst hj; exact hii⟩
    ·cases he
   ·cases he
  | some n=>
   simp only [am] at he ⊢
   split at he
   ·rename_i i p hx
    obtain ⟨q,hq,he⟩:=a4.1 he
    split at he
    ·obtain ⟨m,hm,he⟩:=a4.1 he
     obtain ⟨b,hb,he⟩:=a4.1 he;obtain ⟨a,ha,he⟩:=a4.1 he
     split at he
     ·rename_i hcc
      simp only [a5,aa] at he;obtain ⟨rfl,rfl⟩:=he;have hii:=one hx (i:=i) (by simp [V.refs]) hxs
      exact ⟨rfl,fun h2 g=>by simp only [g i hii,hq,hm,hb,ha,a9]; rw [if_pos hcc],fun j hj=>by simp only [V.refs,bb] at hj; subst hj; exact hii⟩
     ·cases he
    ·cases he
   ·obtain ⟨m,hm,he⟩:=a4.1 he
    obtain ⟨b,hb,he⟩:=a4.1 he;obtain ⟨a,ha,he⟩:=a4.1 he
    split at he
    ·rename_i hcc
     simp only [a5,aa] at he;obtain ⟨rfl,rfl⟩:=he;exact ⟨rfl,fun h2 _=>by simp only [hm,hb,ha,a9]; rw [if_pos hcc],fun i hi=>by simp [V.refs] at hi⟩
    ·cases he
   ·cases he
 | fldA ss x j=>
  simp only [am] at he ⊢
  split at he
  ·rename_i i p hx
   obtain ⟨d,hd,he⟩:=a4.1 he;have hii:=one hx (i:=i) (ts:=x.temps) (by simp [V.refs]) (fun n hn=>hn)
   split at he
   ·rename_i hs
    simp only [a5,aa] at he;obtain ⟨rfl,rfl⟩:=he;exact ⟨rfl,fun h2 g=>by rw [g i hii,hd,a9,if_pos hs],fun j hj=>by simp only [V.refs,bb] at hj; subst hj; exact hii⟩
   ·cases he
  ·split at he
   ·rename_i hs
    obtain ⟨u,hu,e1⟩:=a8.1 he;simp only [aa] at e1;obtain ⟨rfl,rfl⟩:=e1;exact ⟨rfl,fun h2 _=>by rw [if_pos hs,hu]; rfl,fun i hi=>by simp [V.refs] at hi⟩
   ·cases he
  ·cases he
 | idxA ar s x j=>
  have hxs:∀n∈x.temps,n∈(Op.idxA ar s x j).temps:=fun n hn=>by simp [Op.temps,hn]
  cases ar with
  | none=>
   simp only [am] at he ⊢
   split at he
   ·rename_i i p off n cap k hx hk
    obtain ⟨d,hd,he⟩:=a4.1 he;have hii:=one hx (i:=i) (by simp [V.refs]) hxs
    split at he
    ·rename_i hs
     simp only [a5,aa] at he;obtain ⟨rfl,rfl⟩:=he;exact ⟨rfl,fun h2 g=>by rw [g i hii,hd,a9,if_pos hs],fun j hj=>by simp only [V.refs,bb] at hj; subst hj; exact hii⟩
    ·cases he
   ·split at he
    ·rename_i hs
     obtain ⟨u,hu,e1⟩:=a8.1 he;simp only [aa] at e1;obtain ⟨rfl,rfl⟩:=e1;exact ⟨rfl,fun h2 _=>by rw [if_pos hs,hu]; rfl,fun i hi=>by simp [V.refs] at hi⟩
    ·cases he
   ·cases he
  | some n=>
   simp only [am] at he ⊢
   split at he
   ·rename_i i p k hx hk
    obtain ⟨d,hd,he⟩:=a4.1 he;have hii:=one hx (i:=i) (by simp [V.refs]) hxs
    split at he
    ·split at he
     ·rename_i hs
      simp only [a5,aa] at he;obtain ⟨rfl,rfl⟩:=he;exact ⟨rfl,fun h2 g=>by rw [g i hii,hd]; simp only [a9]; rw [if_pos hs],fun j hj=>by simp only [V.refs,bb] at hj; subst hj; exact hii⟩
     ·cases he
    ·cases he
   ·split at he
    ·rename_i hs
     obtain ⟨u,hu,e1⟩:=a8.1 he;simp only [aa] at e1;obtain ⟨rfl,rfl⟩:=e1;exact ⟨rfl,fun h2 _=>by rw [if_pos hs,hu]; rfl,fun i hi=>by simp [V.refs] at hi⟩
    ·cases he
   ·cases he
 | build fz z ps=>
  cases fz with
  | true=>simp [Op.cls] at hc
  | false=>
   simp only [am] at he ⊢;obtain ⟨xs,hx,he⟩:=a4.1 he;obtain ⟨h1,hf,he'⟩:=a4.1 he;clear he
   have hh:∀h2,freezeIf false h2 (cq e ps)=some h2:=by
    intro h2;unfold freezeIf at hf ⊢;simp only [ak,if_false] at hf ⊢
    split at hf
    ·rename_i hr; rw [if_pos hr]
    ·cases hf
   have heq:h1=h:=ao (hf.symm.trans (hh h));rw [heq] at he'
   split at he'
   ·obtain ⟨cs,hcs,e1⟩:=a8.1 he'
    simp only [aa] at e1;obtain ⟨rfl,rfl⟩:=e1;exact ⟨rfl,fun h2 g=>by rw [oc g,hx,a9,hh h2,a9]; simp only [hcs,bo],fun i hi=>by simp [V.refs] at hi⟩
   ·obtain ⟨cs,hcs,e1⟩:=a8.1 he'
    simp only [aa] at e1;obtain ⟨rfl,rfl⟩:=e1;exact ⟨rfl,fun h2 g=>by rw [oc g,hx,a9,hh h2,a9]; simp only [hcs,bo],fun i hi=>by simp [V.refs] at hi⟩
   ·cases he'
 | call m news f xs=>
  simp only [am] at he ⊢;obtain ⟨fv,hf,he⟩:=a4.1 he;obtain ⟨g,hg,he⟩:=a4.1 he;obtain ⟨vs,hv,he⟩:=a4.1 he
  have hr:∀i∈V.refss (g.2.1++vs++g.2.2),i∈e.refsOf (Op.call m news f xs).temps:=by
   intro i hi;simp only [t6,au] at hi;simp only [Op.temps,ck,au];rcases hi with (hi | hi) | hi
   ·exact .inl (m8 hf hg i (.inl hi))
   ·exact .inr (ph hv hi)
   ·exact .inl (m8 hf hg i (.inr hi))
  cases m with
  | flat=>
   simp only [f9] at he ⊢;obtain ⟨ds,hds,he⟩:=a4.1 he;obtain ⟨ans,hans,he⟩:=a4.1 he;obtain ⟨x,hx,he⟩:=a4.1 he
   split at he
   ·rename_i hfl
    simp only [a5,aa] at he;obtain ⟨rfl,rfl⟩:=he;refine ⟨rfl,fun h2 gg=>?_,fun i hi=>by simp [V.refs] at hi⟩
    simp only [hf,hg,hv,a9];rw [m6 _ fun i hi=>gg i (hr i hi),hds,a9,hans,a9,hx,a9,if_pos hfl]
   ·cases he
  | plain=>
   simp only [f9] at he ⊢;obtain ⟨ds,hds,he⟩:=a4.1 he;obtain ⟨ans,hans,he⟩:=a4.1 he;obtain ⟨x,hx,he⟩:=a4.1 he
   split at he
   ·rename_i hfl
    simp only [a5,aa] at he;obtain ⟨rfl,rfl⟩:=he;refine ⟨rfl,fun h2 gg=>?_,fun i hi=>by simp [V.refs] at hi⟩
    simp only [hf,hg,hv,a9];rw [m6 _ fun i hi=>gg i (hr i hi),hds,a9,hans,a9,hx,a9,if_pos hfl]
   ·cases he
  | data=>simp [Op.cls] at hc
  | heap=>simp [Op.cls] at hc
 | box fz i x=>cases fz <;> simp [Op.cls] at hc
 | buildSl fz i s z n ps=>cases fz <;> simp [Op.cls] at hc
 | store fz s x y=>cases fz <;> simp [Op.cls] at hc
 | _=>simp [Op.cls] at hc
end Pe

namespace Pe
open Go
theorem mg {h h1:Heap} {is:List Nat} (hf:freezeIf false h is=some h1):is=[]∧h1=h:=by
 unfold freezeIf at hf;simp only [ak,if_false] at hf
 split at hf
 ·rename_i he
  exact ⟨by simpa using he,(ao hf).symm⟩
 ·cases hf
theorem rl {e:Env}:∀{ps:List (Nat×Arg)} {i:Nat},i∈cq e ps→i∈e.refsOf (pr ps)
 | [],i,h=>by simp [cq] at h
 | (k,a)::r,i,h=>by
  simp only [cq,au] at h;simp only [pr,ck,au];refine h.imp (fun h=>?_) rl
  split at h
  ·rename_i v hv; exact dq hv h
  ·simp at h
theorem Ey {e:Env} {h h2:Heap}:∀{ps:List (Nat×Arg)},cq e ps=[]→fl e h2 ps=fl e h ps
 | [],_=>rfl
 | (k,a)::r,g=>by
  simp only [cq,List.append_eq_nil_iff] at g;simp only [fl];cases ha:e.arg a with
  | none=>rfl
  | some v=>
   have hv:v.refs=[]:=by simpa [ha] using g.1
   simp only [a9];rw [jn v (h:=h) (h2:=h2) (by simp [hv]),Ey g.2]
theorem a2n {O:ac} {np:Nat} {e:Env} {h h':Heap} {p:Op} {v:V} (hc:p.cls=.a) (he:am O np e h p=some (v,h')) :
 ∃j b,p.news=[j]∧h[np+j]? = some .hole∧b≠Blk.hole∧h'=h.set (np+j) b∧(∀h2:Heap,h2[np+j]? = some .hole→am O np e h2 p=some (v,h2.set (np+j) b))∧∀i∈v.refs,i=np+j:=by
 have put:∀{h2:Heap} {i:Nat} {b:Blk},h2[i]? = some .hole→ee h2 i b=some (h2.set i b):=fun hh=>by simp [ee,hh]
 cases p with
 | nilOwn i s=>
  simp only [am] at he ⊢;obtain ⟨h1,hp,e1⟩:=a8.1 he;simp only [aa] at e1;obtain ⟨rfl,rfl⟩:=e1;obtain ⟨hi,rfl⟩:=ca hp;exact ⟨i,_,rfl,hi,by simp,rfl,fun h2 hh=>by rw [put hh]; rfl,fun j hj=>by simpa [V.refs] using hj⟩
 | mkSl i s z bytes x y=>
  simp only [am] at he ⊢
  split at he
  ·split at he
   ·rename_i hcc
    obtain ⟨h1,hp,e1⟩:=a8.1 he;simp only [aa] at e1;obtain ⟨rfl,rfl⟩:=e1;obtain ⟨hi,rfl⟩:=ca hp;exact ⟨i,_,rfl,hi,by simp,rfl,fun h2 hh=>by rw [if_pos hcc,put hh]; rfl,fun j hj=>by simpa [V.refs] using hj⟩
   ·cases he
  ·cases he
 | box fz i x=>
  cases fz with
  | true=>simp [Op.cls] at hc
  | false=>
   simp only [am] at he ⊢;obtain ⟨u,hu,he1⟩:=a4.1 he;obtain ⟨d,hd,he2⟩:=a4.1 he1;obtain ⟨h1,hf,he3⟩:=a4.1 he2;obtain ⟨h2,hp,e1⟩:=a8.1 he3;clear he he1 he2 he3;simp only [aa] at e1;obtain ⟨rfl,rfl⟩:=e1;obtain ⟨hr,rfl⟩:=mg hf;obtain ⟨hi,rfl⟩:=ca hp;refine ⟨i,_,rfl,hi,by simp,rfl,fun h2 hh=>?_,fun j hj=>by simpa [V.refs] using hj⟩
   have:tq h2 u=some d:=by
    unfold tq at hd ⊢;rw [jn u (h:=h1) (h2:=h2) (by simp [hr])]; exact hd
   rw [hu,a9,this,a9,hr];simp only [freezeIf,ak,if_false,List.isEmpty_nil,if_true,a9];rw [put hh]; rfl
 | buildSl fz i s z n ps=>
  cases fz with
  | true=>simp [Op.cls] at hc
  | false=>
   simp only [am] at he ⊢;obtain ⟨xs,hx,he1⟩:=a4.1 he;obtain ⟨cs,hcs,he2⟩:=a4.1 he1;obtain ⟨h1,hf,he3⟩:=a4.1 he2;obtain ⟨h2,hp,e1⟩:=a8.1 he3;clear he he1 he2 he3;simp only [aa] at e1;obtain ⟨rfl,rfl⟩:=e1;obtain ⟨hr,rfl⟩:=mg hf;obtain ⟨hi,rfl⟩:=ca hp;refine ⟨i,_,rfl,hi,by simp,rfl,fun h2 hh=>?_,fun j hj=>by simpa [V.refs] using hj⟩
   rw [Ey (h:=h1) (h2:=h2) hr,hx,a9,hcs,a9,hr];simp only [freezeIf,ak,if_false,List.isEmpty_nil,if_true,a9];rw [put hh]; rfl
 | build fz _ _=>cases fz <;> simp [Op.cls] at hc
 | store fz _ _ _=>cases fz <;> simp [Op.cls] at hc
 | call m _ _ _=>cases m <;> simp [Op.cls] at hc
 | _=>simp [Op.cls] at hc
theorem Blk.set_nh {b b':Blk} {p:List Nat} {d:D} (h:b.set p d=some b'):b'≠.hole:=by
 cases b with
 | hole=>simp [Blk.set] at h
 | box fr x=>
  cases fr
  ·simp only [Blk.set] at h
   obtain ⟨y,_,rfl⟩:=a8.1 h;simp
  ·simp [Blk.set] at h
 | sl fr s cs=>
  cases fr
  ·cases p with
   | nil=>simp [Blk.set] at h
   | cons i p=>
    simp only [Blk.set] at h;obtain ⟨c,_,h⟩:=a4.1 h;obtain ⟨y,_,rfl⟩:=a8.1 h;simp
  ·cases p <;> simp [Blk.set] at h
 | mp fr es=>cases p <;> simp [Blk.set] at h
theorem a42 {O:ac} {np:Nat} {e:Env} {h h':Heap} {p:Op} {v:V} (hc:p.cls=.s) (he:am O np e h p=some (v,h')) :
 ∃i b,i∈e.refsOf p.temps∧b≠Blk.hole∧h'=h.set i b∧(∀h2:Heap,(∀i∈e.refsOf p.temps,h2[i]? = h[i]?)→am O np e h2 p=some (v,h2.set i b))∧v.refs=[]:=by
 cases p with
 | store fz s x y=>
  cases fz with
  | true=>simp [Op.cls] at hc
  | false=>
   simp only [am] at he ⊢;obtain ⟨u,hu,he1⟩:=a4.1 he;obtain ⟨d,hd,he2⟩:=a4.1 he1;obtain ⟨h1,hf,he3⟩:=a4.1 he2;clear he he1 he2;obtain ⟨hr,rfl⟩:=mg hf
   split at he3
   ·rename_i i p hp
    split at he3
    ·rename_i hs
     obtain ⟨b,hb,he4⟩:=a4.1 he3;obtain ⟨b',hb',e1⟩:=a8.1 he4;simp only [aa] at e1;obtain ⟨rfl,rfl⟩:=e1
     have hi:i∈e.refsOf (Op.store false s x y).temps:=by
      simp only [Op.temps,ck,au];exact .inl (dq hp (by simp [V.refs]))
     refine ⟨i,b',hi,Blk.set_nh hb',rfl,fun h2 g=>?_,by simp [V.refs,V.refss]⟩
     have hd2:tq h2 u=some d:=by
      unfold tq at hd ⊢;rw [jn u (h:=h1) (h2:=h2) (by simp [hr])]; exact hd
     rw [hu,a9,hd2,a9,hr];simp only [freezeIf,ak,if_false,List.isEmpty_nil,if_true,a9];rw [g i hi,hb,a9,hb',if_pos hs]; rfl
    ·cases he3
   ·cases he3
 | box fz _ _=>cases fz <;> simp [Op.cls] at hc
 | buildSl fz _ _ _ _ _=>cases fz <;> simp [Op.cls] at hc
 | build fz _ _=>cases fz <;> simp [Op.cls] at hc
 | call m _ _ _=>cases m <;> simp [Op.cls] at hc
 | _=>simp [Op.cls] at hc
def Laid (h:Heap) (i:Nat):Prop:=∃B:Blk,h[i]? = some B∧B≠.hole
theorem Laid.set {h:Heap} {i j:Nat} {b:Blk} (hb:b≠.hole) (g:Laid h i):Laid (h.set j b) i:=by
 obtain ⟨B,hB,hn⟩:=g
 by_cases hij:j=i
 ·subst hij
  exact ⟨b,aq (al.1 hB).1,hb⟩
 ·exact ⟨B,by rw [b5 hij]; exact hB,hn⟩
theorem Laid.new {h:Heap} {j:Nat} {b:Blk} (hb:b≠.hole) (g:h[j]? = some .hole):Laid (h.set j b) j:=
 ⟨b,aq (al.1 g).1,hb⟩
theorem Laid.freeze {h:Heap} {i:Nat} (is:List Nat) (g:Laid h i):Laid (freeze h is) i:=by
 obtain ⟨B,hB,hn⟩:=g
 by_cases hi:i∈is
 ·exact ⟨B.freeze,by rw [fk,if_pos hi,hB]; rfl,fun e=>hn (Blk.freeze_hole e)⟩
 ·exact ⟨B,by rw [fk,if_neg hi]; exact hB,hn⟩
theorem Laid.freezeIf {h h1:Heap} {i:Nat} {fz:Bool} {is:List Nat} (hf:freezeIf fz h is=some h1) (g:Laid h i):Laid h1 i:=by
 cases fz with
 | false=>rw [(mg hf).2]; exact g
 | true=>
  simp only [Pe.freezeIf,if_true,a5] at hf;subst hf; exact g.freeze is
theorem Cf:∀{is:List Nat} {bs:Heap} {h h':Heap},h.put is bs=some h'→∀i,Laid h i→Laid h' i
 | [],[],h,h',e,i,g=>by simp only [Heap.put,a5] at e; subst e; exact g
 | j::is,b::bs,h,h',e,i,g=>by
  simp only [Heap.put] at e
  split at e
  ·cases e
  ·rename_i hb
   exact Cf e i (g.set (by rintro rfl; simp [Blk.isHole] at hb))
 | [],_::_,_,_,e,_,_=>by simp [Heap.put] at e
 | _::_,[],_,_,e,_,_=>by simp [Heap.put] at e
theorem sq:∀{is:List Nat} {bs:Heap} {h h':Heap},putNews h is bs=some h'→bs.length≤is.length∧(∀i,Laid h i→Laid h' i)∧∀(k j:Nat),k<bs.length→is[k]? = some j→Laid h' j
 | is,[],h,h',e=>by
  cases is <;> simp only [putNews,a5] at e <;> subst e <;> exact ⟨by simp,fun _ g=>g,fun k j hk=>by simp at hk⟩
 | j::is,b::bs,h,h',e=>by
  simp only [putNews] at e
  split at e
  ·cases e
  ·rename_i hb
   have hb':b≠.hole:=by rintro rfl; simp [Blk.isHole] at hb
   obtain ⟨h0,e0,e⟩:=a4.1 e;obtain ⟨hj,rfl⟩:=ca e0;obtain ⟨h1,h2,h3⟩:=sq e;refine ⟨by simpa using h1,fun i g=>h2 i (g.set hb'),fun k i hk hi=>?_⟩
   cases k with
   | zero=>
    simp only [dh,a5] at hi;subst hi;exact h2 _ (.new hb' hj)
   | succ k=>exact h3 k i (by simpa using hk) (by simpa using hi)
 | [],_::_,_,_,e=>by simp [putNews] at e
theorem Ev {O:ac} {np:Nat} {e:Env} {h h':Heap} {p:Op} {v:V} (hc:p.cls=.x∨p.cls=.w) (he:am O np e h p=some (v,h')) (hp:∀i∈e.refsOf p.temps,Laid h i) :
 (∀i,Laid h i→Laid h' i)∧∀i∈v.refs,Laid h' i:=by
 cases p with
 | box fz i x=>
  simp only [am] at he;obtain ⟨u,hu,he⟩:=a4.1 he;obtain ⟨d,hd,he⟩:=a4.1 he;obtain ⟨h1,hf,he⟩:=a4.1 he;obtain ⟨h2,hpb,e1⟩:=a8.1 he;simp only [aa] at e1;obtain ⟨rfl,rfl⟩:=e1;obtain ⟨hi,rfl⟩:=ca hpb;refine ⟨fun _ g=>(g.freezeIf hf).set (by simp),fun j hj=>?_⟩
  simp only [V.refs,bb] at hj;subst hj;exact .new (by simp) hi
 | build fz z ps=>
  simp only [am] at he;obtain ⟨xs,hx,he⟩:=a4.1 he;obtain ⟨h1,hf,he⟩:=a4.1 he
  split at he
  ·obtain ⟨cs,hcs,e1⟩:=a8.1 he
   simp only [aa] at e1;obtain ⟨rfl,rfl⟩:=e1;exact ⟨fun _ g=>g.freezeIf hf,fun j hj=>by simp [V.refs] at hj⟩
  ·obtain ⟨cs,hcs,e1⟩:=a8.1 he
   simp only [aa] at e1;obtain ⟨rfl,rfl⟩:=e1;exact ⟨fun _ g=>g.freezeIf hf,fun j hj=>by simp [V.refs] at hj⟩
  ·cases he
 | buildSl fz i s z n ps=>
  simp only [am] at he;obtain ⟨xs,hx,he⟩:=a4.1 he;obtain ⟨cs,hcs,he⟩:=a4.1 he;obtain ⟨h1,hf,he⟩:=a4.1 he;obtain ⟨h2,hpb,e1⟩:=a8.1 he;simp only [aa] at e1;obtain ⟨rfl,rfl⟩:=e1;obtain ⟨hi,rfl⟩:=ca hpb;refine ⟨fun _ g=>(g.freezeIf hf).set (by simp),fun j hj=>?_⟩
  simp only [V.refs,bb] at hj;subst hj;exact .new (by simp) hi
 | store fz s x y=>
  simp only [am] at he;obtain ⟨u,hu,he⟩:=a4.1 he;obtain ⟨d,hd,he⟩:=a4.1 he;obtain ⟨h1,hf,he⟩:=a4.1 he
  split at he
  ·split at he
   ·obtain ⟨b,hb,he⟩:=a4.1 he
    obtain ⟨b',hb',e1⟩:=a8.1 he;simp only [aa] at e1;obtain ⟨rfl,rfl⟩:=e1;exact ⟨fun _ g=>(g.freezeIf hf).set (Blk.set_nh hb'),fun j hj=>by simp [V.refs,V.refss] at hj⟩
   ·cases he
  ·cases he
 | append s i bytes x y=>
  simp only [am] at he;obtain ⟨w,hw,he⟩:=a4.1 he;obtain ⟨d,hd,he⟩:=a4.1 he
  split at he
  ·rename_i sh1 ys j off n cap hxe
   split at he
   ·rename_i fr sh2 cs hB
    split at he
    ·split at he
     ·simp only [a5,aa] at he
      obtain ⟨rfl,rfl⟩:=he;refine ⟨fun _ g=>g.set (by simp),fun k hk=>?_⟩
      simp only [V.refs,bb] at hk;subst hk;exact Laid.set (by simp) ⟨_,hB,by simp⟩
     ·split at he
      ·obtain ⟨h2,hpb,e1⟩:=a8.1 he
       simp only [aa] at e1;obtain ⟨rfl,rfl⟩:=e1;obtain ⟨hi,rfl⟩:=ca hpb;refine ⟨fun _ g=>g.set (by simp),fun k hk=>?_⟩
       simp only [V.refs,bb] at hk;subst hk;exact .new (by simp) hi
      ·cases he
    ·cases he
   ·cases he
  ·split at he
   ·obtain ⟨h2,hpb,e1⟩:=a8.1 he
    simp only [aa] at e1;obtain ⟨rfl,rfl⟩:=e1;obtain ⟨hi,rfl⟩:=ca hpb;refine ⟨fun _ g=>g.set (by simp),fun k hk=>?_⟩
    simp only [V.refs,bb] at hk;subst hk;exact .new (by simp) hi
   ·cases he
  ·cases he
 | copy s x y=>
  simp only [am] at he;obtain ⟨w,hw,he⟩:=a4.1 he;obtain ⟨d,hd,he⟩:=a4.1 he
  split at he
  ·split at he
   ·split at he
    ·simp only [a5,aa] at he
     obtain ⟨rfl,rfl⟩:=he;exact ⟨fun _ g=>g.set (by simp),fun k hk=>by simp [V.refs] at hk⟩
    ·cases he
   ·cases he
  ·cases he
 | call m news f xs=>
  simp only [am] at he;obtain ⟨fv,hf,he⟩:=a4.1 he;obtain ⟨g,hg,he⟩:=a4.1 he;obtain ⟨vs,hv,he⟩:=a4.1 he
  have hr:∀i∈V.refss (g.2.1++vs++g.2.2),Laid h i:=by
   intro i hi;apply hp;simp only [t6,au] at hi;simp only [Op.temps,ck,au];rcases hi with (hi | hi) | hi
   ·exact .inl (m8 hf hg i (.inl hi))
   ·exact .inr (ph hv hi)
   ·exact .inl (m8 hf hg i (.inr hi))
  cases m with
  | flat=>simp [Op.cls] at hc
  | plain=>simp [Op.cls] at hc
  | data=>
   simp only [f9] at he;obtain ⟨ds,hds,he⟩:=a4.1 he;obtain ⟨ans,hans,he⟩:=a4.1 he;obtain ⟨x,hx,he⟩:=a4.1 he;simp only [a5,aa] at he;obtain ⟨rfl,rfl⟩:=he;exact ⟨fun _ g=>g.freeze _,fun k hk=>by simp [V.refs] at hk⟩
  | heap=>
   simp only [jh] at he;obtain ⟨bs,hbs,he⟩:=a4.1 he;obtain ⟨ans,hans,he⟩:=a4.1 he;obtain ⟨h1,hh1,he⟩:=a4.1 he;obtain ⟨h2,hh2,he⟩:=a4.1 he
   split at he
   case isFalse=>cases he
   rename_i hall
   simp only [a5,aa] at he;obtain ⟨rfl,rfl⟩:=he;obtain ⟨n1,n2,n3⟩:=sq hh2;refine ⟨fun i g=>n2 i (Cf hh1 i g),fun i hi=>?_⟩
   rw [V.ren_refs,cd] at hi;obtain ⟨k,hk,rfl⟩:=hi;have hkl:=dc.1 hall k hk;simp only [decide_eq_true_eq] at hkl
   by_cases h0:k<(oq (V.refss (g.2.1++vs++g.2.2))).length
   ·rw [if_pos h0]
    have hm:(oq (V.refss (g.2.1++vs++g.2.2))).getD k 0∈oq (V.refss (g.2.1++vs++g.2.2)):=by
     rw [c5,ah h0]; exact cx h0
    exact n2 _ (Cf hh1 _ (hr _ (uo.1 hm)))
   ·rw [if_neg h0]
    have h2:k-(oq (V.refss (g.2.1++vs++g.2.2))).length<ans.2.2.length:=by omega
    refine n3 _ _ h2 ?_;rw [c5,ah (by omega)]
    rfl
 | toStr x=>
  simp only [am] at he;obtain ⟨w,hw,he⟩:=a4.1 he;obtain ⟨d,hd,he⟩:=a4.1 he
  split at he
  ·obtain ⟨bs,hb,e1⟩:=a8.1 he
   simp only [aa] at e1;obtain ⟨rfl,rfl⟩:=e1;exact ⟨fun _ g=>g,fun i hi=>by simp [V.refs] at hi⟩
  ·cases he
 | clear s z x=>
  simp only [am] at he
  split at he
  ·split at he
   ·split at he
    ·simp only [a5,aa] at he
     obtain ⟨rfl,rfl⟩:=he;exact ⟨fun _ g=>g.set (by simp),fun i hi=>by simp [V.refs,V.refss] at hi⟩
    ·cases he
   ·cases he
  ·cases he
 | mkMap i=>
  simp only [am] at he;obtain ⟨h2,hpb,e1⟩:=a8.1 he;simp only [aa] at e1;obtain ⟨rfl,rfl⟩:=e1;obtain ⟨hi,rfl⟩:=ca hpb;refine ⟨fun _ g=>g.set (by simp),fun j hj=>?_⟩
  simp only [V.refs,bb] at hj;subst hj;exact .new (by simp) hi
 | mapGet x k=>
  simp only [am] at he
  split at he
  ·split at he
   ·simp only [a5,aa] at he
    obtain ⟨rfl,rfl⟩:=he;exact ⟨fun _ g=>g,fun i hi=>by simp [V.refs] at hi⟩
   ·cases he
  ·cases he
 | mapSet x k y=>
  simp only [am] at he
  split at he
  ·split at he
   ·simp only [a5,aa] at he
    obtain ⟨rfl,rfl⟩:=he;exact ⟨fun _ g=>g.set (by simp),fun i hi=>by simp [V.refs,V.refss] at hi⟩
   ·cases he
  ·cases he
 | _=>simp [Op.cls] at hc
theorem Wu {O:ac} {np:Nat} {e:Env} {h h':Heap} {p:Op} {v:V} (he:am O np e h p=some (v,h')) (hp:∀i∈e.refsOf p.temps,Laid h i) :
 (∀i,Laid h i→Laid h' i)∧∀i∈v.refs,Laid h' i:=by
 cases hc:p.cls with
 | z=>
  obtain ⟨rfl,_,h3⟩:=a35 hc he;exact ⟨fun _ g=>g,fun i hi=>hp i (h3 i hi)⟩
 | r=>
  obtain ⟨rfl,_,h3⟩:=a33 hc he;exact ⟨fun _ g=>g,fun i hi=>hp i (h3 i hi)⟩
 | a=>
  obtain ⟨j,b,_,hj,hb,rfl,_,h3⟩:=a2n hc he;exact ⟨fun _ g=>g.set hb,fun i hi=>by rw [h3 i hi]; exact .new hb hj⟩
 | s=>
  obtain ⟨j,b,_,hb,rfl,_,h3⟩:=a42 hc he;exact ⟨fun _ g=>g.set hb,fun i hi=>by rw [h3] at hi; simp at hi⟩
 | w=>exact Ev (.inr hc) he hp
 | x=>exact Ev (.inl hc) he hp
end Pe

namespace Pe
open Go
structure Par (W:List Nat) (h h2 g g2:Heap):Prop where
 on:∀i∈W,g2[i]? = g[i]?
 off1:∀i,i ∉ W→g[i]? = h[i]?
 off2:∀i,i ∉ W→g2[i]? = h2[i]?
 len:g.length=h.length
theorem Par.start {W:List Nat} {h h2:Heap} (a:∀i∈W,h2[i]? = h[i]?):Par W h h2 h h2:=⟨a,fun _ _=>rfl,fun _ _=>rfl,rfl⟩
theorem D8:∀(is:List Nat) (h:Heap),(freeze h is).length=h.length
 | [],_=>rfl
 | i::is,h=>by
  unfold freeze;rw [D8 is,List.length_modify]
theorem Par.freeze {W is:List Nat} {h h2 g g2:Heap} (p:Par W h h2 g g2) (hs:∀i∈is,i∈W):Par W h h2 (Pe.freeze g is) (Pe.freeze g2 is) where
 on i hi:=by rw [fk,fk,p.on i hi]
 off1 i hi:=by rw [fk,if_neg fun k=>hi (hs i k),p.off1 i hi]
 off2 i hi:=by rw [fk,if_neg fun k=>hi (hs i k),p.off2 i hi]
 len:=(D8 is g).trans p.len
theorem Eg {g g2:Heap} {j:Nat} (h:g2[j]? = g[j]?):j<g2.length↔j<g.length:=by
 have h1:=List.getElem?_eq_none_iff (l:=g) (i:=j);have h2:=List.getElem?_eq_none_iff (l:=g2) (i:=j);rw [h] at h2;have h3:=h1.symm.trans h2;omega
theorem Par.set {W:List Nat} {h h2 g g2:Heap} (p:Par W h h2 g g2) {j:Nat} (hj:j∈W) (b:Blk):Par W h h2 (g.set j b) (g2.set j b) where
 on i hi:=by
  by_cases hij:j=i
  ·subst hij
   have hl:=Eg (p.on j hj)
   by_cases hk:j<g.length
   ·rw [aq hk,aq (hl.2 hk)]
   ·rw [bg (by rw [bt]; omega),bg (by rw [bt]; omega)]
  ·rw [b5 hij,b5 hij,p.on i hi]
 off1 i hi:=by rw [b5 (by rintro rfl; exact hi hj),p.off1 i hi]
 off2 i hi:=by rw [b5 (by rintro rfl; exact hi hj),p.off2 i hi]
 len:=by rw [bt,p.len]
theorem oe {g:Heap} {i:Nat} {b:Blk} (hh:g[i]? = some .hole):ee g i b=some (g.set i b):=by simp [ee,hh]
theorem Par.put {W:List Nat} {h h2:Heap}:∀{is:List Nat} {bs g g2 g1:Heap},Par W h h2 g g2→(∀i∈is,i∈W)→g.put is bs=some g1→∃g3,g2.put is bs=some g3∧Par W h h2 g1 g3
 | [],[],g,g2,g1,p,_,e=>by
  simp only [Heap.put,a5] at e ⊢;subst e;exact ⟨_,rfl,p⟩
 | i::is,b::bs,g,g2,g1,p,hs,e=>by
  simp only [Heap.put] at e ⊢
  split at e
  ·cases e
  ·rename_i hb
   rw [if_neg hb];exact Par.put (p.set (hs i (by simp)) b) (fun j hj=>hs j (by simp [hj])) e
 | [],_::_,_,_,_,_,_,e=>by simp [Heap.put] at e
 | _::_,[],_,_,_,_,_,e=>by simp [Heap.put] at e
theorem Par.putNews {W:List Nat} {h h2:Heap}:∀{is:List Nat} {bs g g2 g1:Heap},Par W h h2 g g2→(∀i∈is.take bs.length,i∈W)→putNews g is bs=some g1→∃g3,putNews g2 is bs=some g3∧Par W h h2 g1 g3
 | is,[],g,g2,g1,p,_,e=>by
  cases is <;> simp only [Pe.putNews,a5] at e ⊢ <;> subst e <;> exact ⟨_,rfl,p⟩
 | i::is,b::bs,g,g2,g1,p,hs,e=>by
  simp only [Pe.putNews] at e ⊢
  split at e
  ·cases e
  ·rename_i hb
   rw [if_neg hb];obtain ⟨g0,e0,e⟩:=a4.1 e;obtain ⟨hj,rfl⟩:=ca e0;have hi:i∈W:=hs i (by simp)
   rw [oe ((p.on i hi).trans hj),a9];exact Par.putNews (p.set hi b) (fun j hj=>hs j (by simp [hj])) e
 | [],_::_,_,_,_,_,_,e=>by simp [Pe.putNews] at e
theorem Iq {g:Heap} {i j:Nat} {b:Blk} (hb:b≠.hole) (h:(g.set i b)[j]? = some .hole):g[j]? = some .hole:=by
 by_cases hij:i=j
 ·subst hij
  have hl:i<g.length:=by
   have:=(al.1 h).1
   rwa [bt] at this
  rw [aq hl] at h;exact absurd (ao h) hb
 ·rwa [b5 hij] at h
theorem Jw:∀{is:List Nat} {bs g g1:Heap},g.put is bs=some g1→∀j:Nat,g1[j]? = some Blk.hole→g[j]? = some Blk.hole
 | [],[],g,g1,e,j,h=>by simp only [Heap.put,a5] at e; subst e; exact h
 | i::is,b::bs,g,g1,e,j,h=>by
  simp only [Heap.put] at e
  split at e
  ·cases e
  ·rename_i hb
   exact Iq (by rintro rfl; simp [Blk.isHole] at hb) (Jw e j h)
 | [],_::_,_,_,e,_,_=>by simp [Heap.put] at e
 | _::_,[],_,_,e,_,_=>by simp [Heap.put] at e
theorem ye:∀{is:List Nat} {bs g g1:Heap},putNews g is bs=some g1→∀j∈is.take bs.length,g[j]? = some Blk.hole
 | is,[],_,_,_,j,h=>by simp at h
 | i::is,b::bs,g,g1,e,j,h=>by
  simp only [putNews] at e
  split at e
  ·cases e
  ·rename_i hb
   obtain ⟨g0,e0,e⟩:=a4.1 e;obtain ⟨hi,rfl⟩:=ca e0;rw [bf,ej] at h;rcases cr.1 h with rfl | h
   ·exact hi
   ·exact Iq (by rintro rfl; simp [Blk.isHole] at hb) (ye e j h)
 | [],_::_,_,_,e,_,_=>by simp [putNews] at e
theorem A5 {h:Heap} {is:List Nat} {j:Nat} (g:(freeze h is)[j]? = some .hole):h[j]? = some .hole:=by
 rw [fk] at g
 split at g
 ·obtain ⟨B,hB,e⟩:=a8.1 g
  rw [hB,Blk.freeze_hole e]
 ·exact g
theorem Cy {h h2:Heap}:∀{is:List Nat},(∀i∈is,h2[i]? = h[i]?)→h2.pick is=h.pick is
 | [],_=>rfl
 | i::is,a=>by
  simp only [Heap.pick];rw [a i (by simp),Cy fun j hj=>a j (by simp [hj])]
theorem o7 {h h1:Heap} {is:List Nat} (hf:freezeIf true h is=some h1):h1=freeze h is:=by
 simp only [freezeIf,if_true,a5] at hf;exact hf.symm
theorem D4 {h h2:Heap} (u:V) (g:∀i∈u.refs,h2[i]? = h[i]?):tq h2 u=tq h u:=by
 unfold tq;rw [jn u g]
theorem a7e {O:ac} {np:Nat} {e:Env} {h h':Heap} {p:Op} {v:V} (hc:p.cls=.w) (he:am O np e h p=some (v,h')) :
 ∃N:List Nat,(∀i∈N,h[i]? = some .hole∧Laid h' i)∧∀h2:Heap,(∀i∈e.refsOf p.temps++N,h2[i]? = h[i]?)→∃h3,am O np e h2 p=some (v,h3)∧Par (e.refsOf p.temps++N) h h2 h' h3:=by
 cases p with
 | box fz i x=>
  cases fz with
  | false=>simp [Op.cls] at hc
  | true=>
   simp only [am] at he ⊢;obtain ⟨u,hu,he1⟩:=a4.1 he;obtain ⟨d,hd,he2⟩:=a4.1 he1;obtain ⟨h1,hf,he3⟩:=a4.1 he2;obtain ⟨g,hp,e1⟩:=a8.1 he3;clear he he1 he2 he3;simp only [aa] at e1;obtain ⟨rfl,rfl⟩:=e1;obtain rfl:=o7 hf;obtain ⟨hi,rfl⟩:=ca hp;refine ⟨[np+i],fun j hj=>?_,fun h2 a=>?_⟩
   ·obtain rfl:=bb.1 hj
    exact ⟨A5 hi,.new (by simp) hi⟩
   ·have hs:∀j∈u.refs,j∈e.refsOf (Op.box true i x).temps++[np+i]:=fun j hj=>bp _ (dq hu hj)
    have hn:np+i∈e.refsOf (Op.box true i x).temps++[np+i]:=by simp
    have p1:=(Par.start a).freeze hs;refine ⟨_,?_,p1.set hn _⟩;rw [hu,a9,D4 u fun j hj=>a j (hs j hj),hd,a9]
    simp only [freezeIf,if_true,a9];rw [oe ((p1.on _ hn).trans hi),bo]
 | build fz z ps=>
  cases fz with
  | false=>simp [Op.cls] at hc
  | true=>
   simp only [am] at he ⊢;obtain ⟨xs,hx,he1⟩:=a4.1 he;obtain ⟨h1,hf,he2⟩:=a4.1 he1;clear he he1;obtain rfl:=o7 hf;refine ⟨[],by simp,fun h2 a=>?_⟩
   have hs:∀j∈cq e ps,j∈e.refsOf (Op.build true z ps).temps++[]:=fun j hj=>bp _ (rl hj)
   have p1:=(Par.start a).freeze hs
   have hpc:fl e h2 ps=some xs:=by
    rw [oc fun j hj=>a j (bp _ hj)]; exact hx
   split at he2
   ·obtain ⟨cs,hcs,e1⟩:=a8.1 he2
    simp only [aa] at e1;obtain ⟨rfl,rfl⟩:=e1;refine ⟨_,?_,p1⟩;rw [hpc];simp only [freezeIf,if_true,a9,hcs,bo]
   ·obtain ⟨cs,hcs,e1⟩:=a8.1 he2
    simp only [aa] at e1;obtain ⟨rfl,rfl⟩:=e1;refine ⟨_,?_,p1⟩;rw [hpc];simp only [freezeIf,if_true,a9,hcs,bo]
   ·cases he2
 | buildSl fz i s z n ps=>
  cases fz with
  | false=>simp [Op.cls] at hc
  | true=>
   simp only [am] at he ⊢;obtain ⟨xs,hx,he1⟩:=a4.1 he;obtain ⟨cs,hcs,he2⟩:=a4.1 he1;obtain ⟨h1,hf,he3⟩:=a4.1 he2;obtain ⟨g,hp,e1⟩:=a8.1 he3;clear he he1 he2 he3;simp only [aa] at e1;obtain ⟨rfl,rfl⟩:=e1;obtain rfl:=o7 hf;obtain ⟨hi,rfl⟩:=ca hp;refine ⟨[np+i],fun j hj=>?_,fun h2 a=>?_⟩
   ·obtain rfl:=bb.1 hj
    exact ⟨A5 hi,.new (by simp) hi⟩
   ·have hs:∀j∈cq e ps,j∈e.refsOf (Op.buildSl true i s z n ps).temps++[np+i]:=fun j hj=>bp _ (rl hj)
    have hn:np+i∈e.refsOf (Op.buildSl true i s z n ps).temps++[np+i]:=by simp
    have p1:=(Par.start a).freeze hs
    have hpc:fl e h2 ps=some xs:=by
     rw [oc fun j hj=>a j (bp _ hj)]; exact hx
    refine ⟨_,?_,p1.set hn _⟩;rw [hpc,a9,hcs,a9];simp only [freezeIf,if_true,a9];rw [oe ((p1.on _ hn).trans hi),bo]
 | store fz s x y=>
  cases fz with
  | false=>simp [Op.cls] at hc
  | true=>
   simp only [am] at he ⊢;obtain ⟨u,hu,he1⟩:=a4.1 he;obtain ⟨d,hd,he2⟩:=a4.1 he1;obtain ⟨h1,hf,he3⟩:=a4.1 he2;clear he he1 he2;obtain rfl:=o7 hf;refine ⟨[],by simp,fun h2 a=>?_⟩
   have hs:∀j∈u.refs,j∈e.refsOf (Op.store true s x y).temps++[]:=fun j hj=>bp _ (by
    simp only [Op.temps,ck,au]; exact .inr (dq hu hj))
   have p1:=(Par.start a).freeze hs
   split at he3
   ·rename_i i p hp
    split at he3
    ·rename_i hss
     obtain ⟨b,hb,he4⟩:=a4.1 he3;obtain ⟨b',hb',e1⟩:=a8.1 he4;simp only [aa] at e1;obtain ⟨rfl,rfl⟩:=e1
     have hi:i∈e.refsOf (Op.store true s x y).temps++[]:=bp _ (by
      simp only [Op.temps,ck,au]; exact .inl (dq hp (by simp [V.refs])))
     refine ⟨_,?_,p1.set hi _⟩;rw [hu,a9,D4 u fun j hj=>a j (hs j hj),hd,a9]
     simp only [freezeIf,if_true,a9];rw [if_pos hss,p1.on i hi,hb,a9,hb',bo]
    ·cases he3
   ·cases he3
 | copy s x y=>
  simp only [am] at he ⊢;obtain ⟨w,hw,he1⟩:=a4.1 he;obtain ⟨d,hd,he2⟩:=a4.1 he1;clear he he1;refine ⟨[],by simp,fun h2 a=>?_⟩
  have hs:∀j∈w.refs,j∈e.refsOf (Op.copy s x y).temps++[]:=fun j hj=>bp _ (by
   simp only [Op.temps,ck,au]; exact .inr (dq hw hj))
  have hd2:toD h2 w=some d:=by rw [jn w fun j hj=>a j (hs j hj)]; exact hd
  split at he2
  ·rename_i t ys j off n cap hx
   have hj:j∈e.refsOf (Op.copy s x y).temps++[]:=bp _ (by
    simp only [Op.temps,ck,au]; exact .inl (dq hx (by simp [V.refs])))
   split at he2
   ·rename_i t' cs hB
    split at he2
    ·rename_i hcc
     simp only [a5,aa] at he2;obtain ⟨rfl,rfl⟩:=he2;refine ⟨_,?_,(Par.start a).set hj _⟩;rw [hw,a9,hd2,a9];simp only [hx,a j hj,hB];rw [if_pos hcc]
    ·cases he2
   ·cases he2
  ·cases he2
 | call m news f xs=>
  simp only [am] at he ⊢;obtain ⟨fv,hf,he1⟩:=a4.1 he;obtain ⟨g,hg,he2⟩:=a4.1 he1;obtain ⟨vs,hv,he3⟩:=a4.1 he2;clear he he1 he2
  have hr:∀i∈V.refss (g.2.1++vs++g.2.2),i∈e.refsOf (Op.call m news f xs).temps:=by
   intro i hi;simp only [t6,au] at hi;simp only [Op.temps,ck,au];rcases hi with (hi | hi) | hi
   ·exact .inl (m8 hf hg i (.inl hi))
   ·exact .inr (ph hv hi)
   ·exact .inl (m8 hf hg i (.inr hi))
  cases m with
  | flat=>simp [Op.cls] at hc
  | plain=>simp [Op.cls] at hc
  | data=>
   simp only [f9] at he3 ⊢;obtain ⟨ds,hds,he4⟩:=a4.1 he3;obtain ⟨ans,hans,he5⟩:=a4.1 he4;obtain ⟨x,hx,he6⟩:=a4.1 he5;clear he3 he4 he5;simp only [a5,aa] at he6;obtain ⟨rfl,rfl⟩:=he6;refine ⟨[],by simp,fun h2 a=>?_⟩
   have hs:∀i∈V.refss (g.2.1++vs++g.2.2),i∈e.refsOf (Op.call Mode.data news f xs).temps++[]:=fun i hi=>bp _ (hr i hi)
   refine ⟨_,?_,(Par.start a).freeze hs⟩;simp only [hf,hg,hv,a9];rw [m6 _ fun i hi=>a i (hs i hi),hds,a9,hans,a9,hx,a9]
  | heap=>
   simp only [jh] at he3 ⊢;obtain ⟨bs,hbs,he4⟩:=a4.1 he3;obtain ⟨ans,hans,he5⟩:=a4.1 he4;obtain ⟨h1,hh1,he6⟩:=a4.1 he5;obtain ⟨h2',hh2,he7⟩:=a4.1 he6;clear he3 he4 he5 he6
   split at he7
   case isFalse=>cases he7
   rename_i hall
   simp only [a5,aa] at he7;obtain ⟨rfl,rfl⟩:=he7;obtain ⟨n1,n2,n3⟩:=sq hh2;refine ⟨(news.map (np + ·)).take ans.2.2.length,fun j hj=>⟨Jw hh1 j (ye hh2 j hj),?_⟩,fun h2 a=>?_⟩
   ·obtain ⟨k,hk,e1⟩:=i5 hj
    have hk':k<ans.2.2.length:=by rw [b6] at hk; omega
    refine n3 k j hk' ?_;rw [my] at e1;rw [←e1];exact ah (by rw [b6] at hk; omega)
   ·have hs:∀i∈oq (V.refss (g.2.1++vs++g.2.2)),i∈e.refsOf (Op.call Mode.heap news f xs).temps++(news.map (np + ·)).take ans.2.2.length:=fun i hi=>bp _ (hr i (uo.1 hi))
    obtain ⟨g3,q1,q2⟩:=(Par.start a).put hs hh1;obtain ⟨g4,q3,q4⟩:=q2.putNews (fun i hi=>List.mem_append_right _ hi) hh2
    refine ⟨g4,?_,q4⟩;simp only [hf,hg,hv,a9];rw [Cy fun i hi=>a i (hs i hi),hbs,a9,hans,a9,q1,a9,q3,a9,if_pos hall]
 | append s i bytes x y=>
  simp only [am] at he ⊢;obtain ⟨w,hw,he1⟩:=a4.1 he;obtain ⟨d,hd,he2⟩:=a4.1 he1;clear he he1
  have hwr:∀j∈w.refs,j∈e.refsOf (Op.append s i bytes x y).temps:=fun j hj=>by
   simp only [Op.temps,ck,au];exact .inr (dq hw hj)
  split at he2
  ·rename_i t ys j off n cap hx
   have hjr:j∈e.refsOf (Op.append s i bytes x y).temps:=by
    simp only [Op.temps,ck,au];exact .inl (dq hx (by simp [V.refs]))
   split at he2
   ·rename_i fr t' cs hj
    split at he2
    ·rename_i hC
     split at he2
     ·rename_i hF
      simp only [a5,aa] at he2;obtain ⟨rfl,rfl⟩:=he2;refine ⟨[],by simp,fun h2 a=>?_⟩
      have aj:=a j (bp _ hjr);refine ⟨_,?_,(Par.start a).set (bp _ hjr) _⟩;simp only [hw,a9,jn w fun j hj=>a j (bp _ (hwr j hj)),hd,hx,aj,hj]
      rw [if_pos hC,if_pos hF]
     ·rename_i hF
      split at he2
      ·rename_i hG
       obtain ⟨g,hp,e1⟩:=a8.1 he2;simp only [aa] at e1;obtain ⟨rfl,rfl⟩:=e1;obtain ⟨hi,rfl⟩:=ca hp;refine ⟨[np+i],fun j hj=>?_,fun h2 a=>?_⟩
       ·obtain rfl:=bb.1 hj
        exact ⟨hi,.new (by simp) hi⟩
       ·have aj:=a j (bp _ hjr)
        have ai:=a (np+i) (by simp)
        refine ⟨_,?_,(Par.start a).set (by simp) _⟩
        simp only [hw,a9,jn w fun j hj=>a j (bp _ (hwr j hj)),hd,hx,aj,hj]
        rw [if_pos hC,if_neg hF,if_pos hG,oe (ai.trans hi)];rfl
      ·cases he2
    ·cases he2
   ·cases he2
  ·rename_i t y' ys t' hx
   split at he2
   ·rename_i hC
    obtain ⟨g,hp,e1⟩:=a8.1 he2;simp only [aa] at e1;obtain ⟨rfl,rfl⟩:=e1;obtain ⟨hi,rfl⟩:=ca hp;refine ⟨[np+i],fun j hj=>?_,fun h2 a=>?_⟩
    ·obtain rfl:=bb.1 hj
     exact ⟨hi,.new (by simp) hi⟩
    ·have ai:=a (np+i) (by simp)
     refine ⟨_,?_,(Par.start a).set (by simp) _⟩
     simp only [hw,a9,jn w fun j hj=>a j (bp _ (hwr j hj)),hd,hx]
     rw [if_pos hC,oe (ai.trans hi)];rfl
   ·cases he2
  ·cases he2
 | _=>simp [Op.cls] at hc
end Pe

namespace Pe
open Go
def Ins.look (i:Ins):List Nat:=i.op.temps++(match i.guard with | some (n,_)=>[n] | none=>[])
def Op.isAppend:Op→Bool
 | .append _ _ _ _ _=>true
 | _=>false
inductive Kd where
 | off | z | r
 | a (j:Nat) (b:Blk)
 | s (j:Nat) (b:Blk)
 | w (W:List Nat) (h:Heap)
 | x (h:Heap)
def over (h h':Heap) (W:List Nat):Heap:=h.mapIdx fun i b=>if i∈W then (h'[i]?).getD b else b
structure Tr where
 i:Ins
 s:St
 k:Kd
 v:V
def Tr.T (t:Tr):List Nat:=t.s.e.refsOf t.i.op.temps
def Tr.hag (t:Tr) (h:Heap):Prop:=
 match t.k with
 | .off | .z=>True
 | .r | .s _ _=>∀i∈t.T,h[i]? = t.s.h[i]?
 | .a j _=>h[j]? = some .hole
 | .w W _=>∀i∈W,h[i]? = t.s.h[i]?
 | .x _=>h=t.s.h
def Tr.ag (t:Tr) (s:St):Prop:=Le t.i.look t.s.e s.e∧t.hag s.h
def Tr.heff (t:Tr) (h:Heap):Heap:=
 match t.k with
 | .off | .z | .r=>h
 | .a j b | .s j b=>h.set j b
 | .w W h'=>over h h' W
 | .x h'=>h'
def Tr.eeff (t:Tr) (e:Env):Env:=(e.kill (t.i.op.kill t.s.e t.v)).putO t.i.dst t.v
def Tr.eff (t:Tr) (s:St):St:=⟨t.eeff s.e,t.heff s.h⟩
def PI (s:St):Prop:=∀n v,s.e.get n=some v→∀i∈v.refs,Laid s.h i
structure Tr.Valid (O:ac) (np:Nat) (t:Tr):Prop where
 exec:∀s,t.ag s→jb O np s t.i=some (t.eff s)
 laid:∀s,t.ag s→PI s→PI (t.eff s)
 keep:∀s,t.ag s→PI s→∀i,Laid s.h i→Laid (t.heff s.h) i
 cls:match t.k with
  | .off=>True
  | .z=>t.i.op.cls=.z
  | .r=>t.i.op.cls=.r
  | .a _ b=>t.i.op.cls=.a∧b≠.hole
  | .s j b=>t.i.op.cls=.s∧b≠.hole∧j∈t.T
  | .w W h'=>t.i.op.cls=.w∧h'.length=t.s.h.length∧∃N:List Nat,W=t.T++N∧∀i∈N,t.s.h[i]? = some .hole∧Laid h' i
  | .x _=>t.i.op.cls=.x
theorem Qr {p:Op} (h:p.isAppend=false) (e:Env) (v:V):p.kill e v=none:=by
 cases p <;> simp_all [Op.isAppend,Op.kill]
theorem qk {e:Env} {d:Option Nat} {v:V} {n:Nat}:(e.putO d v).get n=if d=some n then some v else e.get n:=by
 cases d with
 | none=>simp [Env.putO]
 | some d=>
  simp only [Env.putO,Env.get,a5]
theorem PI.put {e:Env} {h h':Heap} {k:Option Nat} {d:Option Nat} {v:V} (hp:PI ⟨e,h⟩) (h1:∀i,Laid h i→Laid h' i) (h2:∀i∈v.refs,Laid h' i):PI ⟨(e.kill k).putO d v,h'⟩:=by
 intro n w hn i hi;simp only [qk] at hn
 split at hn
 ·obtain rfl:=ao hn
  exact h2 i hi
 ·exact h1 i (hp n w (Ju hn).1 i hi)
theorem PI.refsOf {s:St} (hp:PI s) {e:Env} {ns:List Nat} (hl:Le ns e s.e) {i:Nat} (hi:i∈e.refsOf ns):Laid s.h i:=by
 obtain ⟨n,hn,v,hv,h⟩:=wv hi;exact hp n v (hl n hn v hv) i h
theorem Nx {i:Ins} {e e':Env} (hl:Le i.look e e') {b:Bool} (h:i.on e=some b):i.on e'=some b:=by
 unfold Ins.on at h ⊢;cases hg:i.guard with
 | none=>rw [hg] at h; exact h
 | some q=>
  obtain ⟨n,b'⟩:=q;rw [hg] at h;simp only at h ⊢
  split at h
  ·rename_i t hn
   rw [hl n (by simp [Ins.look,hg]) _ hn]; exact h
  ·rename_i hn
   rw [hl n (by simp [Ins.look,hg]) _ hn]; exact h
  ·cases h
theorem Le.refl (ns:List Nat) (e:Env):Le ns e e:=fun _ _ _ h=>h
theorem Dc (h h':Heap) (W:List Nat) (i:Nat):(over h h' W)[i]? = (h[i]?).map fun b=>if i∈W then (h'[i]?).getD b else b:=by
 unfold over;rw [List.getElem?_mapIdx]
theorem P6 {h h' k:Heap} {W:List Nat} {i:Nat} (hi:i∈W) (hl:h'.length=k.length) (ha:h[i]? = k[i]?):(over h h' W)[i]? = h'[i]?:=by
 rw [Dc,ha]
 by_cases hk:i<k.length
 ·rw [ah hk,ah (show i<h'.length by omega),bo,if_pos hi]
  rfl
 ·rw [bg (by omega),bg (by omega)]
  rfl
theorem Io {h h':Heap} {W:List Nat} {i:Nat} (hi:i ∉ W):(over h h' W)[i]? = h[i]?:=by
 rw [Dc];simp only [if_neg hi,Option.map_id']
theorem J9 {W:List Nat} {h h2 h' h3:Heap} (p:Par W h h2 h' h3) (a:∀i∈W,h2[i]? = h[i]?):h3=over h2 h' W:=by
 refine cu fun i=>?_
 by_cases hi:i∈W
 ·rw [P6 hi p.len (a i hi),p.on i hi]
 ·rw [Io hi,p.off2 i hi]
theorem a3n {O:ac} {np:Nat} {s s':St} {i:Ins} (h:jb O np s i=some s'):∃t:Tr,t.i=i∧t.s=s∧t.ag s∧t.eff s=s'∧t.Valid O np:=by
 unfold jb at h
 split at h
 ·rename_i hon
  obtain ⟨⟨v,h'⟩,hev,rfl⟩:=a8.1 h
  -- what holds of all
  have common:∀(k:Kd),(∀s0:St,Le i.look s.e s0.e→(Tr.mk i s k v).hag s0.h→am O np s.e s0.h i.op=some (v,(Tr.mk i s k v).heff s0.h)) →
   ∀s0,(Tr.mk i s k v).ag s0→jb O np s0 i=some ((Tr.mk i s k v).eff s0)∧(PI s0→PI ((Tr.mk i s k v).eff s0)∧∀j,Laid s0.h j→Laid ((Tr.mk i s k v).heff s0.h) j):=by
   intro k hx s0 ⟨g1,g3⟩;simp only at g1;have ht:Le i.op.temps s.e s0.e:=Le.sub g1 fun n hn=>by simp [Ins.look,hn]
   obtain ⟨m1,m2⟩:=Xj ht (hx s0 g1 g3);refine ⟨?_,fun hp=>?_⟩
   ·unfold jb
    rw [Nx g1 hon];simp only [m1,bo,Tr.eff,Tr.eeff,m2]
   ·obtain ⟨l1,l2⟩:=Wu m1 fun j hj=>hp.refsOf (Le.refl _ _) hj
    simp only [Tr.eff,Tr.eeff];exact ⟨PI.put hp l1 l2,l1⟩
  cases hc:i.op.cls with
  | z=>
   obtain ⟨rfl,h2,_⟩:=a35 hc hev;have c:=common .z fun s0 _ _=>h2 s0.h
   refine ⟨⟨i,s,.z,v⟩,rfl,rfl,⟨Le.refl _ _,trivial⟩,?_,fun s0 g=>(c s0 g).1,fun s0 g hp=>((c s0 g).2 hp).1,fun s0 g hp=>((c s0 g).2 hp).2,hc⟩
   simp [Tr.eff,Tr.eeff,Tr.heff]
  | r=>
   obtain ⟨rfl,h2,_⟩:=a33 hc hev;have c:=common .r fun s0 _ g=>h2 s0.h g
   refine ⟨⟨i,s,.r,v⟩,rfl,rfl,⟨Le.refl _ _,fun _ _=>rfl⟩,?_,fun s0 g=>(c s0 g).1,fun s0 g hp=>((c s0 g).2 hp).1,fun s0 g hp=>((c s0 g).2 hp).2,hc⟩
   simp [Tr.eff,Tr.eeff,Tr.heff]
  | a=>
   obtain ⟨j,b,_,hj,hb,rfl,h2,_⟩:=a2n hc hev;have c:=common (.a (np+j) b) fun s0 _ g=>h2 s0.h g
   refine ⟨⟨i,s,.a (np+j) b,v⟩,rfl,rfl,⟨Le.refl _ _,hj⟩,?_,fun s0 g=>(c s0 g).1,fun s0 g hp=>((c s0 g).2 hp).1,fun s0 g hp=>((c s0 g).2 hp).2,hc,hb⟩
   simp [Tr.eff,Tr.eeff,Tr.heff]
  | s=>
   obtain ⟨j,b,hj,hb,rfl,h2,_⟩:=a42 hc hev;have c:=common (.s j b) fun s0 _ g=>h2 s0.h g
   refine ⟨⟨i,s,.s j b,v⟩,rfl,rfl,⟨Le.refl _ _,fun _ _=>rfl⟩,?_,fun s0 g=>(c s0 g).1,fun s0 g hp=>((c s0 g).2 hp).1,fun s0 g hp=>((c s0 g).2 hp).2,hc,hb,hj⟩
   simp [Tr.eff,Tr.eeff,Tr.heff]
  | w=>
   obtain ⟨N,hN,h2⟩:=a7e hc hev
   have c:=common (.w (s.e.refsOf i.op.temps++N) h') fun s0 _ g=>by
    have g':∀j∈s.e.refsOf i.op.temps++N,s0.h[j]? = s.h[j]?:=g;obtain ⟨h3,q1,q2⟩:=h2 s0.h g';rw [q1,J9 q2 g'];rfl
   obtain ⟨h3,q1,q2⟩:=h2 s.h fun _ _=>rfl
   have e3:h3=h':=by
    have:=q1.symm.trans hev
    simpa using this
   subst e3;refine ⟨⟨i,s,.w (s.e.refsOf i.op.temps++N) h3,v⟩,rfl,rfl,⟨Le.refl _ _,fun _ _=>rfl⟩,?_,fun s0 g=>(c s0 g).1,fun s0 g hp=>((c s0 g).2 hp).1,fun s0 g hp=>((c s0 g).2 hp).2,hc,q2.len,N,rfl,hN⟩
   simp [Tr.eff,Tr.eeff,Tr.heff,←J9 q2 fun _ _=>rfl]
  | x=>
   have c:=common (.x h') fun s0 _ g=>by
    have g':s0.h=s.h:=g;rw [g']; exact hev
   refine ⟨⟨i,s,.x h',v⟩,rfl,rfl,⟨Le.refl _ _,rfl⟩,?_,fun s0 g=>(c s0 g).1,fun s0 g hp=>((c s0 g).2 hp).1,fun s0 g hp=>((c s0 g).2 hp).2,hc⟩
   simp [Tr.eff,Tr.eeff,Tr.heff]
 ·rename_i hon
  obtain rfl:=ao h
  have hk:i.op.kill s.e (.tup [])=none:=by
   cases i.op <;> try rfl
   simp only [Op.kill]
   split <;> simp_all
  refine ⟨⟨i,s,.off,.tup []⟩,rfl,rfl,⟨Le.refl _ _,trivial⟩,by simp [Tr.eff,Tr.eeff,Tr.heff,hk,Env.kill],fun s0 g=>?_,fun s0 _ hp=>?_,fun s0 _ _ i hi=>hi,trivial⟩
  ·unfold jb
   obtain ⟨g1,_⟩:=g;rw [Nx g1 hon];simp [Tr.eff,Tr.eeff,Tr.heff,hk,Env.kill]
  ·simp only [Tr.eff,Tr.eeff,Tr.heff,hk]
   exact PI.put hp (fun _ h=>h) (fun i hi=>by simp [V.refs,V.refss] at hi)
 ·cases h
structure Sim (s t:St):Prop where
 h:s.h=t.h
 e:∀n,s.e.get n=t.e.get n
theorem Sim.refl (s:St):Sim s s:=⟨rfl,fun _=>rfl⟩
theorem Sim.symm {s t:St} (h:Sim s t):Sim t s:=⟨h.h.symm,fun n=>(h.e n).symm⟩
theorem Sim.trans {s t u:St} (h:Sim s t) (g:Sim t u):Sim s u:=⟨h.h.trans g.h,fun n=>(h.e n).trans (g.e n)⟩
theorem qx (e:Env) (k:Option Nat) (n:Nat):(e.kill k).get n=match k with | some j=>if e.clear j n then e.get n else none | none=>e.get n:=by
 cases k with
 | none=>rfl
 | some j=>exact xd (e.clear j) e n
theorem Sim.kill {e e':Env} (h:∀n,e.get n=e'.get n) (k:Option Nat) (n:Nat):(e.kill k).get n=(e'.kill k).get n:=by
 rw [qx,qx];cases k with
 | none=>exact h n
 | some j=>
  have hc:e.clear j n=e'.clear j n:=by unfold Env.clear; rw [h n]
  simp only [hc,h n]
theorem Sim.eff {s t:St} (h:Sim s t) (x:Tr):Sim (x.eff s) (x.eff t):=by
 refine ⟨by simp only [Tr.eff,h.h],fun n=>?_⟩
 simp only [Tr.eff,Tr.eeff,qk,Sim.kill h.e]
theorem Sim.ag {s t:St} (h:Sim s t) {x:Tr} (g:x.ag s):x.ag t:=by
 obtain ⟨g1,g3⟩:=g;exact ⟨fun n hn v hv=>by rw [←h.e n]; exact g1 n hn v hv,by rw [←h.h]; exact g3⟩
def Ins.free (d:Option Nat) (ns:List Nat):Bool:=
 match d with
 | some d=>!ns.contains d
 | none=>true
def U5:Option Nat→Option Nat→Bool
 | some a,some b=>a != b
 | _,_=>true
def iz:Cls→Cls→Option Bool
 | .z,_ | _,.z | .r,.r | .r,.a | .a,.r | .a,.a | .a,.s | .s,.a | .a,.w | .w,.a=>some false
 | .r,.s | .s,.r | .s,.s | .r,.w | .w,.r | .s,.w | .w,.s | .w,.w=>some true
 | _,_=>none
def Ins.isLoad (i:Ins):Bool:=match i.op,i.guard with
 | .load _ _,none=>true
 | _,_=>false
def G1 (y x:Ins):Bool:=Ins.free y.dst x.look&&Ins.free x.dst y.look&&U5 y.dst x.dst && !y.op.isAppend&&(!x.op.isAppend||y.isLoad)
theorem J3 {i:Ins} (h:i.isLoad=true):i.op.isAppend=false∧i.guard=none∧∃s x,i.op=.load s x:=by
 unfold Ins.isLoad at h
 split at h
 ·rename_i s x h1 h2
  exact ⟨by rw [h1]; rfl,h2,s,x,h1⟩
 ·cases h
theorem ru {d:Option Nat} {ns:List Nat} (h:Ins.free d ns=true) {n:Nat} (hn:n∈ns):d≠some n:=by
 rintro rfl
 simp [Ins.free,hn] at h
theorem Cg {a b:Option Nat} (h:U5 a b=true) {n:Nat} (ha:a=some n):b≠some n:=by
 subst ha
 rintro rfl
 simp [U5] at h
theorem uv {t:Tr} (ha:t.i.op.isAppend=false) (e:Env) (n:Nat):(t.eeff e).get n=if t.i.dst=some n then some t.v else e.get n:=by
 unfold Tr.eeff;rw [qk,Qr ha]; rfl
theorem xv {t:Tr} (ha:t.i.op.isAppend=false) {e:Env} {n:Nat} (hn:t.i.dst≠some n):(t.eeff e).get n=e.get n:=by
 rw [uv ha,if_neg hn]
theorem Si {O:ac} {np:Nat} {t:Tr} (vt:t.Valid O np) {s:St} (g:t.ag s) (hl:t.i.isLoad=true) {n:Nat} (hn:t.i.dst=some n):∃d,t.v=.d d:=by
 obtain ⟨l1,l2,sh,x,l3⟩:=J3 hl;have h:=vt.exec s g;unfold jb Ins.on at h;rw [l2] at h;simp only [l3] at h;obtain ⟨⟨v,h'⟩,hev,heq⟩:=a8.1 h
 have e1:((t.eff s).e.get n)=some t.v:=by
  simp only [Tr.eff,Tr.eeff,qk,hn,if_true]
 rw [←heq] at e1;simp only [qk,hn,if_true,a5] at e1;subst e1;simp only [am] at hev
 split at hev
 ·split at hev
  ·simp only [a5,aa] at hev; exact ⟨_,hev.1.symm⟩
  ·cases hev
 ·obtain ⟨q,_,hev⟩:=a4.1 hev
  split at hev
  ·simp only [a5,aa] at hev; exact ⟨_,hev.1.symm⟩
  ·cases hev
 ·cases hev
theorem zd (t:Tr) (e:Env) (n:Nat):(t.eeff e).get n=if t.i.dst=some n then some t.v else (match t.i.op.kill t.s.e t.v with | some j=>if e.clear j n then e.get n else none | none=>e.get n):=by
 unfold Tr.eeff;rw [qk,qx]
theorem O1 {p:Op} {e:Env} {v:V} {j:Nat} (h:p.kill e v=some j):j∈e.refsOf p.temps:=by
 unfold Op.kill at h
 split at h
 ·split at h
  ·rename_i hx
   split at h
   ·obtain rfl:=ao h
    simp only [Op.temps,ck,au];exact .inl (dq hx (by simp [V.refs]))
   ·cases h
  ·cases h
 ·cases h
theorem zr {e:Env} {j n:Nat} {v:V} (h:e.get n=some v):e.clear j n=true↔j ∉ v.refs:=by
 unfold Env.clear;rw [h];simp only [d5,List.any_eq_false,beq_iff_eq];exact ⟨fun h hj=>h j hj rfl,fun h x hx e=>h (e▸hx)⟩
def Kd.rd (T:List Nat):Kd→Nat→Prop
 | .off,_ | .z,_=>False
 | .r,i=>i∈T
 | .a j _,i=>i=j
 | .s _ _,i=>i∈T
 | .w W _,i=>i∈W
 | .x _,_=>True
def Kd.wr:Kd→Nat→Prop
 | .off,_ | .z,_ | .r,_=>False
 | .a j _,i | .s j _,i=>i=j
 | .w W _,i=>i∈W
 | .x _,_=>True
def Kd.isX:Kd→Bool
 | .x _=>true
 | _=>false
theorem sa {t:Tr} (hx:t.k.isX=false) {i:Nat} (hi:¬ t.k.wr i) (h:Heap):(t.heff h)[i]? = h[i]?:=by
 unfold Tr.heff;cases hk:t.k with
 | off | z | r=>rfl
 | a j b | s j b=>
  rw [hk] at hi;exact b5 fun e=>hi e.symm
 | w W h'=>
  rw [hk] at hi;exact Io hi
 | x h'=>rw [hk] at hx; cases hx
theorem Ol {t:Tr} (_hx:t.k.isX=false) {i:Nat} {h h2:Heap} (he:h2[i]? = h[i]?):(t.heff h2)[i]? = (t.heff h)[i]?:=by
 unfold Tr.heff;cases hk:t.k with
 | off | z | r=>exact he
 | a j b | s j b=>
  simp only
  by_cases hij:j=i
  ·subst hij
   have hl:=Eg he
   by_cases hk:j<h.length
   ·rw [aq hk,aq (hl.2 hk)]
   ·rw [bg (by rw [bt]; omega),bg (by rw [bt]; omega)]
  ·rw [b5 hij,b5 hij,he]
 | w W h'=>simp only [Dc,he]
 | x h'=>rfl
theorem V8 {t:Tr} (hx:t.k.isX=false) {h h2:Heap} (he:∀i,t.k.rd t.T i→h2[i]? = h[i]?) (g:t.hag h):t.hag h2:=by
 unfold Tr.hag at g ⊢;cases hk:t.k with
 | off | z=>trivial
 | r=>rw [hk] at g he; exact fun i hi=>(he i hi).trans (g i hi)
 | a j b=>rw [hk] at g he; exact (he j rfl).trans g
 | s j b=>rw [hk] at g he; exact fun i hi=>(he i hi).trans (g i hi)
 | w W h'=>rw [hk] at g he; exact fun i hi=>(he i hi).trans (g i hi)
 | x h'=>rw [hk] at hx; cases hx
theorem Us {O:ac} {np:Nat} {t:Tr} (vt:t.Valid O np) (hx:t.k.isX=false) {h:Heap} (hg:t.hag h) {i:Nat} (hi:t.k.wr i) :
 (i∈t.T∧(t.i.op.cls=.s∨t.i.op.cls=.w))∨(h[i]? = some .hole∧Laid (t.heff h) i):=by
 have vc:=vt.cls;unfold Tr.hag at hg;unfold Tr.heff;cases hk:t.k with
 | off | z | r=>rw [hk] at hi; exact hi.elim
 | a j b=>
  rw [hk] at hi hg;simp only [hk] at vc;obtain rfl:i=j:=hi;exact .inr ⟨hg,.new vc.2 hg⟩
 | s j b=>
  rw [hk] at hi;simp only [hk] at vc;obtain rfl:i=j:=hi;exact .inl ⟨vc.2.2,.inl vc.1⟩
 | w W h'=>
  rw [hk] at hi hg;simp only [hk] at vc;obtain ⟨c1,c2,N,rfl,hN⟩:=vc;have hi':i∈t.T++N:=hi;rcases au.1 hi' with hT | hn
  ·exact .inl ⟨hT,.inr c1⟩
  ·obtain ⟨q1,B,hB,hb⟩:=hN i hn
   exact .inr ⟨(hg i hi').trans q1,B,(P6 hi' c2 (hg i hi')).trans hB,hb⟩
 | x h'=>rw [hk] at hx; cases hx
theorem Oh {O:ac} {np:Nat} {t:Tr} (vt:t.Valid O np) (hx:t.k.isX=false) {h:Heap} (hg:t.hag h) {i:Nat} (hi:t.k.rd t.T i) :
 (i∈t.T∧(t.i.op.cls=.r∨t.i.op.cls=.s∨t.i.op.cls=.w))∨(h[i]? = some .hole∧t.k.wr i):=by
 have vc:=vt.cls;unfold Tr.hag at hg;cases hk:t.k with
 | off | z=>rw [hk] at hi; exact hi.elim
 | r=>
  rw [hk] at hi;simp only [hk] at vc;exact .inl ⟨hi,.inl vc⟩
 | a j b=>
  rw [hk] at hi hg;obtain rfl:i=j:=hi;exact .inr ⟨hg,rfl⟩
 | s j b=>
  rw [hk] at hi;simp only [hk] at vc;exact .inl ⟨hi,.inr (.inl vc.1)⟩
 | w W h'=>
  rw [hk] at hi hg;simp only [hk] at vc;obtain ⟨c1,c2,N,rfl,hN⟩:=vc;have hi':i∈t.T++N:=hi;rcases au.1 hi' with hT | hn
  ·exact .inl ⟨hT,.inr (.inr c1)⟩
  ·exact .inr ⟨(hg i hi').trans (hN i hn).1,hi'⟩
 | x h'=>rw [hk] at hx; cases hx
theorem n6 {h:Heap} {i:Nat} (h1:h[i]? = some .hole) (h2:Laid h i):False:=by
 obtain ⟨B,hB,hn⟩:=h2;rw [hB] at h1;exact hn (ao h1)
theorem U4 {O:ac} {np:Nat} {y x:Tr} (vy:y.Valid O np) (vx:x.Valid O np) {b:Bool} (hc:iz y.i.op.cls x.i.op.cls=some b) (h:y.k.isX=true):x.k=.off∨x.k=.z:=by
 have vyc:=vy.cls;have vxc:=vx.cls;cases hky:y.k with
 | x hy=>
  simp only [hky] at vyc;rw [vyc] at hc;cases hkx:x.k with
  | off=>exact .inl rfl
  | z=>exact .inr rfl
  | r=>simp only [hkx] at vxc; rw [vxc] at hc; simp [iz] at hc
  | a j b=>simp only [hkx] at vxc; rw [vxc.1] at hc; simp [iz] at hc
  | s j b=>simp only [hkx] at vxc; rw [vxc.1] at hc; simp [iz] at hc
  | w W h'=>simp only [hkx] at vxc; rw [vxc.1] at hc; simp [iz] at hc
  | x h'=>simp only [hkx] at vxc; rw [vxc] at hc; simp [iz] at hc
 | _=>rw [hky] at h; cases h
theorem Q1 {O:ac} {np:Nat} {y x:Tr} (vy:y.Valid O np) (vx:x.Valid O np) {b:Bool} (hc:iz y.i.op.cls x.i.op.cls=some b) (h:x.k.isX=true):y.k=.off∨y.k=.z:=by
 have vyc:=vy.cls;have vxc:=vx.cls;cases hkx:x.k with
 | x hx=>
  simp only [hkx] at vxc;rw [vxc] at hc;cases hky:y.k with
  | off=>exact .inl rfl
  | z=>exact .inr rfl
  | r=>simp only [hky] at vyc; rw [vyc] at hc; simp [iz] at hc
  | a j b=>simp only [hky] at vyc; rw [vyc.1] at hc; simp [iz] at hc
  | s j b=>simp only [hky] at vyc; rw [vyc.1] at hc; simp [iz] at hc
  | w W h'=>simp only [hky] at vyc; rw [vyc.1] at hc; simp [iz] at hc
  | x h'=>simp only [hky] at vyc; rw [vyc] at hc; simp [iz] at hc
 | _=>rw [hkx] at h; cases h
theorem swap {O:ac} {np:Nat} {y x:Tr} {s:St} (hp:PI s) (vy:y.Valid O np) (vx:x.Valid O np) (ay:y.ag s) (ax:x.ag (y.eff s)) (hd:G1 y.i x.i=true)
 {b:Bool} (hc:iz y.i.op.cls x.i.op.cls=some b) (hap:b=true→∀i∈y.T,i ∉ x.T):x.ag s∧y.ag (x.eff s)∧Sim (y.eff (x.eff s)) (x.eff (y.eff s)):=by
 have aya:=ay;have axa:=ax;unfold G1 at hd;simp only [ab,d5,Bool.or_eq_true] at hd;obtain ⟨⟨⟨⟨d1,d2⟩,d3⟩,ny⟩,nx⟩:=hd;obtain ⟨ay1,ay3⟩:=ay;obtain ⟨ax1,ax3⟩:=ax
 -- variables
 have lx:Le x.i.look x.s.e s.e:=fun n hn v hv=>by
  have:=ax1 n hn v hv
  rwa [Tr.eff,xv ny (ru d1 hn)] at this
 have ly:Le y.i.look y.s.e (x.eff s).e:=fun n hn v hv=>by
  have h1:=ay1 n hn v hv;rcases nx with nx | nx
  ·rw [Tr.eff,xv nx (ru d2 hn)]
   exact h1
  ·simp only [Tr.eff,Tr.eeff,qk,if_neg (ru d2 hn),qx]
   cases hk:x.i.op.kill x.s.e x.v with
   | none=>exact h1
   | some j=>
    obtain ⟨l1,l2,sh,a,l3⟩:=J3 nx;have hj:=O1 hk
    have hnt:n∈y.i.op.temps:=by
     unfold Ins.look at hn;rw [l2] at hn
     simpa using hn
    have hb:b=true:=by
     have c1:y.i.op.cls=.r:=by rw [l3]; rfl
     have c2:x.i.op.cls=.w:=by
      cases hop:x.i.op <;> rw [hop] at hk <;> first | rfl | (simp only [Op.kill] at hk; cases hk)
     rw [c1,c2] at hc
     simpa [iz] using hc.symm
    have hcl:s.e.clear j n=true:=(zr h1).2 fun hi=>hap hb j (qf hnt hv hi) hj
    simp only [hcl,if_true];exact h1
 have es:∀n,(y.eff (x.eff s)).e.get n=(x.eff (y.eff s)).e.get n:=by
  intro n;rcases nx with nx | nx
  ·simp only [Tr.eff,uv ny,uv nx]
   by_cases h1:y.i.dst=some n
   ·have h2:=Cg d3 h1
    simp only [h1,h2,if_true,if_false]
   ·simp only [h1,if_false]
  ·show (y.eeff (x.eeff s.e)).get n=(x.eeff (y.eeff s.e)).get n
   rw [uv ny,zd x (y.eeff s.e),zd x s.e]
   by_cases h1:y.i.dst=some n
   ·have h2:=Cg d3 h1
    obtain ⟨d,hd⟩:=Si vy aya nx h1;have hg:(y.eeff s.e).get n=some y.v:=by rw [uv ny,if_pos h1]
    rw [if_pos h1,if_neg h2];cases hk:x.i.op.kill x.s.e x.v with
    | none=>exact hg.symm
    | some j=>
     have hcl:(y.eeff s.e).clear j n=true:=(zr hg).2 (by rw [hd]; simp [V.refs])
     simp only [hcl,if_true];exact hg.symm
   ·rw [if_neg h1]
    by_cases h2:x.i.dst=some n
    ·rw [if_pos h2,if_pos h2]
    ·rw [if_neg h2,if_neg h2]
     have hg:(y.eeff s.e).get n=s.e.get n:=xv ny h1;cases hk:x.i.op.kill x.s.e x.v with
     | none=>exact hg.symm
     | some j=>
      have hcl:(y.eeff s.e).clear j n=s.e.clear j n:=by unfold Env.clear; rw [hg]
      simp only [hcl,hg]
 -- what is laid
 have tx:∀i∈x.T,Laid s.h i:=fun i hi=>hp.refsOf (Le.sub lx fun n hn=>by simp [Ins.look,hn]) hi
 have ty:∀i∈y.T,Laid s.h i:=fun i hi=>hp.refsOf (Le.sub ay1 fun n hn=>by simp [Ins.look,hn]) hi
 have ky:∀i,Laid s.h i→Laid (y.heff s.h) i:=vy.keep s aya hp;have ax3':x.hag (y.heff s.h):=ax3
 have hm:x.hag s.h∧y.hag (x.heff s.h)∧y.heff (x.heff s.h)=x.heff (y.heff s.h):=by
  cases hyx:y.k.isX with
  | true=>
   rcases U4 vy vx hc hyx with hk | hk
   ·simp only [Tr.hag,Tr.heff,hk] at ay3 ⊢
    exact ⟨trivial,ay3,trivial⟩
   ·simp only [Tr.hag,Tr.heff,hk] at ay3 ⊢
    exact ⟨trivial,ay3,trivial⟩
  | false=>
   cases hxx:x.k.isX with
   | true=>
    rcases Q1 vy vx hc hxx with hk | hk
    ·simp only [Tr.hag,Tr.heff,hk] at ax3' ⊢
     exact ⟨ax3',trivial,trivial⟩
    ·simp only [Tr.hag,Tr.heff,hk] at ax3' ⊢
     exact ⟨ax3',trivial,trivial⟩
   | false=>
    -- both reach the same place only if they are told to be apart
    have two:∀i,i∈y.T→i∈x.T→(y.i.op.cls=.s∨y.i.op.cls=.w∨(y.i.op.cls=.r∧(x.i.op.cls=.s∨x.i.op.cls=.w)))→(x.i.op.cls=.r∨x.i.op.cls=.s∨x.i.op.cls=.w)→False:=by
     intro i h1 h2 h3 h4
     have hb:b=true:=by
      rcases h3 with h3 | h3 | ⟨h3,h5⟩
      ·rcases h4 with h4 | h4 | h4 <;> rw [h3,h4] at hc <;> simpa [iz] using hc.symm
      ·rcases h4 with h4 | h4 | h4 <;> rw [h3,h4] at hc <;> simpa [iz] using hc.symm
      ·rcases h5 with h5 | h5 <;> rw [h3,h5] at hc <;> simpa [iz] using hc.symm
     exact hap hb i h1 h2
    have D1:∀i,y.k.wr i→¬ x.k.rd x.T i:=by
     intro i hw hr;rcases Us vy hyx ay3 hw with ⟨w1,w2⟩ | ⟨w1,w2⟩
     ·rcases Oh vx hxx ax3' hr with ⟨r1,r2⟩ | ⟨r1,_⟩
      ·exact two i w1 r1 (w2.imp id .inl) r2
      ·exact n6 r1 (ky i (ty i w1))
     ·rcases Oh vx hxx ax3' hr with ⟨r1,r2⟩ | ⟨r1,_⟩
      ·exact n6 w1 (tx i r1)
      ·exact n6 r1 w2
    have D2:∀i,x.k.wr i→¬ y.k.rd y.T i:=by
     intro i hw hr;rcases Us vx hxx ax3' hw with ⟨w1,w2⟩ | ⟨w1,w2⟩
     ·rcases Oh vy hyx ay3 hr with ⟨r1,r2⟩ | ⟨r1,_⟩
      ·refine two i r1 w1 ?_ (.inr w2)
       rcases r2 with r2 | r2 | r2
       ·exact .inr (.inr ⟨r2,w2⟩)
       ·exact .inl r2
       ·exact .inr (.inl r2)
      ·exact n6 r1 (tx i w1)
     ·rcases Oh vy hyx ay3 hr with ⟨r1,r2⟩ | ⟨r1,r2⟩
      ·exact n6 w1 (ky i (ty i r1))
      ·rcases Us vy hyx ay3 r2 with ⟨q1,q2⟩ | ⟨q1,q2⟩
       ·exact n6 r1 (ty i q1)
       ·exact n6 w1 q2
    have rw_:∀{t:Tr},t.Valid O np→t.k.isX=false→∀i,t.k.wr i→t.k.rd t.T i:=by
     intro t vt ht i hi;have vc:=vt.cls;cases hk:t.k with
     | off | z | r=>rw [hk] at hi; exact hi.elim
     | a j b=>rw [hk] at hi; exact hi
     | s j b=>
      rw [hk] at hi;simp only [hk] at vc;obtain rfl:i=j:=hi;exact vc.2.2
     | w W h'=>rw [hk] at hi; exact hi
     | x h'=>rw [hk] at ht; cases ht
    refine ⟨V8 hxx (fun i hi=>(sa hyx (fun hw=>D1 i hw hi) s.h).symm) ax3',V8 hyx (fun i hi=>sa hxx (fun hw=>D2 i hw hi) s.h) ay3,cu fun i=>?_⟩
    by_cases hw:x.k.wr i
    ·have h1:¬ y.k.wr i:=fun h=>D1 i h (rw_ vx hxx i hw)
     rw [sa hyx h1,Ol hxx (sa hyx h1 s.h)]
    ·rw [sa hxx hw,Ol hyx (sa hxx hw s.h)]
 exact ⟨⟨lx,hm.1⟩,⟨ly,hm.2.1⟩,⟨hm.2.2,es⟩⟩
end Pe

namespace Pe
open Go
variable {P:Program} {num:Nat→Nat}
def Chain:List Tr→St→St→Prop
 | [],s,s'=>Sim s s'
 | t::L,s,s'=>t.ag s∧Chain L (t.eff s) s'
theorem Chain.sim:∀{L:List Tr} {s t s':St},Sim s t→Chain L s s'→Chain L t s'
 | [],_,_,_,h,g=>h.symm.trans g
 | x::_L,_s,_t,_s',h,g=>⟨h.ag g.1,Chain.sim (h.eff x) g.2⟩
def Ind (y x:Tr):Prop:=G1 y.i x.i=true∧∃b,iz y.i.op.cls x.i.op.cls=some b∧(b=true→∀i∈y.T,i ∉ x.T)
theorem Xs {O:ac} {np:Nat} {x:Tr} {post:List Tr} {s':St} (vx:x.Valid O np):∀{pre:List Tr} {s:St},PI s→(∀t∈pre,t.Valid O np)→Chain (pre++x::post) s s'→(∀y∈pre,Ind y x)→x.ag s∧Chain (pre++post) (x.eff s) s'
 | [],s,_,_,hc,_=>hc
 | y::pre,s,hp,hv,hc,hi=>by
  have vy:=hv y (by simp)
  obtain ⟨ay,hc⟩:=hc;obtain ⟨ax,hc'⟩:=Xs vx (pre:=pre) (vy.laid s ay hp) (fun t ht=>hv t (by simp [ht])) hc (fun z hz=>hi z (by simp [hz]))
  obtain ⟨i1,b,i2,i3⟩:=hi y (by simp)
  obtain ⟨g1,g2,g3⟩:=swap hp vy vx ay ax i1 i2 i3;exact ⟨g1,g2,Chain.sim g3.symm hc'⟩
def Seq:List Tr→St→St→Prop
 | [],s,s'=>s=s'
 | t::L,s,s'=>t.s=s∧t.ag s∧t.i.side s.e=true∧Seq L (t.eff s) s'
theorem Seq.chain:∀{L:List Tr} {s s':St},Seq L s s'→Chain L s s'
 | [],_,_,h=>h▸Sim.refl _
 | _::_,_,_,h=>⟨h.2.1,Seq.chain h.2.2.2⟩
theorem Ug {O:ac} {np:Nat}:∀{is:List Ins} {s s':St},du O np is s=some s'→∃L:List Tr,L.map (·.i)=is∧(∀t∈L,t.Valid O np)∧Seq L s s'
 | [],s,s',h=>by
  simp only [du,a5] at h;exact ⟨[],rfl,by simp,h⟩
 | i::is,s,s',h=>by
  simp only [du] at h;obtain ⟨s1,h1,h⟩:=a4.1 h;obtain ⟨L,g1,g2,g3⟩:=Ug h
  have hside:i.side s.e=true:=by
   unfold mu at h1
   split at h1
   ·assumption
   ·cases h1
  obtain ⟨t,e1,e2,e3,e4,e5⟩:=a3n (E3 h1);exact ⟨t::L,by simp [e1,g1],by simpa using ⟨e5,g2⟩,e2,e3,by rw [e1]; exact hside,by rw [e4]; exact g3⟩
theorem N9 {i:Ins} {e:Env} (h:i.side e=true) {n:Nat} (hn:n∈i.apart) {v:V} (hv:e.get n=some v) {j:Nat} (hj:j∈v.refs):j ∉ e.refsOf i.op.temps:=by
 intro hx;have hmem:j∈e.refsOf i.apart:=qf hn hv hj;unfold Ins.side at h
 have hne:i.apart.isEmpty=false:=by
  cases hq:i.apart with
  | nil=>rw [hq] at hn; simp at hn
  | cons _ _=>rfl
 rw [hne] at h;simp only [Bool.false_or] at h;have h1:=dc.1 h j hmem;simp only [d5,List.any_eq_false,beq_iff_eq] at h1;exact h1 j hx rfl
theorem Seq.keeps {ns:List Nat}:∀{mid:List Tr} {x:Tr} {post:List Tr} {s s':St},Seq (mid++x::post) s s'→(∀z∈mid,(z.i.op.isAppend=false∨∀n∈ns,n∈z.i.apart)∧Ins.free z.i.dst ns=true)→x.s=x.s∧x.i.side x.s.e=true∧∀n∈ns,x.s.e.get n=s.e.get n
 | [],x,post,s,s',h,_=>by
  obtain ⟨rfl,_,h2,_⟩:=h;exact ⟨rfl,h2,fun _ _=>rfl⟩
 | z::mid,x,post,s,s',h,hm=>by
  obtain ⟨hzs,_,hside,h⟩:=h;obtain ⟨_,h2,h3⟩:=Seq.keeps h fun y hy=>hm y (by simp [hy])
  obtain ⟨m1,m2⟩:=hm z (by simp)
  refine ⟨rfl,h2,fun n hn=>(h3 n hn).trans ?_⟩
  rw [Tr.eff];rcases m1 with m1 | m1
  ·exact xv m1 (ru m2 hn)
  ·show (z.eeff s.e).get n=s.e.get n
   rw [zd,if_neg (ru m2 hn)];cases hk:z.i.op.kill z.s.e z.v with
   | none=>rfl
   | some j=>
    have hj:=O1 hk;rw [hzs] at hj;cases hv:s.e.get n with
    | none=>
     have hcl:s.e.clear j n=true:=by unfold Env.clear; rw [hv]
     simp only [hcl,if_true]
    | some v=>
     have hcl:s.e.clear j n=true:=(zr hv).2 fun hi=>N9 hside (m1 n hn) hv hi hj
     simp only [hcl,if_true]
theorem Seq.apart:∀{pre:List Tr} {y x:Tr} {mid post:List Tr} {s s':St},Seq (pre++y::(mid++x::post)) s s'→(∀z∈y::mid,(z.i.op.isAppend=false∨∀n∈y.i.op.temps,n∈z.i.apart)∧Ins.free z.i.dst y.i.op.temps=true)→(∀n∈y.i.op.temps,n∈x.i.apart)→∀i∈y.T,i ∉ x.T
 | z::pre,y,x,mid,post,s,s',h,hm,ha=>Seq.apart (pre:=pre) h.2.2.2 hm ha
 | [],y,x,mid,post,s,s',h,hm,ha=>by
  intro i hi hx;have hys:y.s=s:=h.1;obtain ⟨_,hside,hk⟩:=Seq.keeps (ns:=y.i.op.temps) (mid:=y::mid) (s:=s) h hm;obtain ⟨n,hn,v,hv,hiv⟩:=wv hi;have hn':=ha n hn;have hxv:x.s.e.get n=some v:=by rw [hk n hn,←hys]; exact hv
  have hmem:i∈x.s.e.refsOf x.i.apart:=qf hn' hxv hiv;unfold Ins.side at hside
  have hne:x.i.apart.isEmpty=false:=by
   cases hq:x.i.apart with
   | nil=>rw [hq] at hn'; simp at hn'
   | cons _ _=>rfl
  rw [hne] at hside;simp only [Bool.false_or] at hside;have h1:=dc.1 hside i hmem;simp only [d5,List.any_eq_false,beq_iff_eq] at h1;exact h1 i hx rfl
def a00 (acc:List Nat) (o:Oper):Nat:=o.after.toList.foldr (fun e m=>if Region.binds .any e then m ||| (1 <<< e.on) ||| acc.getD e.on 0 else m) 0
def tj:List Oper→List Nat→List Nat
 | [],acc=>acc
 | o::os,acc=>tj os (acc++[a00 acc o])
def Mw (is:List Ins) (ky kx:Nat) (y x:Ins):Bool:=
 G1 y x&&match iz y.op.cls x.op.cls with
  | some false=>true
  | some true=>y.op.temps.all (x.apart.contains ·)&&((is.drop ky).take (kx-ky)).all fun z=>(!z.op.isAppend||y.op.temps.all (z.apart.contains ·))&&Ins.free z.dst y.op.temps
  | none=>false
def M7 (ops:List Oper) (is:List Ins):Bool:=
 let ms:=tj ops []
 (List.range is.length).all fun kx=>match ops[kx]?,is[kx]? with
  | some o,some x=>(o.after.toList.all fun e=>!Region.binds .any e||decide (e.on<kx)) &&
   (List.range kx).all fun ky=>(ms.getD kx 0).testBit ky||match is[ky]? with | some y=>Mw is ky kx y x | none=>false
  | _,_=>false
def Lu (ops:List Oper) (L:Nat→Prop):Prop:=∀(k:Nat) o,ops[k]? = some o→L k→∀e∈o.after.toList,Region.binds .any e=true→L e.on
def yb (ops:List Oper) (acc:List Nat):Prop:=
 ∀(k m:Nat),acc[k]? = some m→∀o,ops[k]? = some o→∀L,Lu ops L→(∀e∈o.after.toList,Region.binds .any e=true→L e.on)→∀y,m.testBit y=true→L y
theorem I5 {ops:List Oper} {acc:List Nat} (hl:acc.length≤ops.length) (hg:yb ops acc) {L:Nat→Prop} (hL:Lu ops L) (es:List Edge) (hes:∀e∈es,Region.binds .any e=true→L e.on) (y:Nat)
 (hy:(es.foldr (fun e m=>if Region.binds .any e then m ||| (1 <<< e.on) ||| acc.getD e.on 0 else m) 0).testBit y=true):L y:=by
 induction es with
 | nil=>simp at hy
 | cons e es ih=>
  have ih':=ih fun e' he'=>hes e' (by simp [he'])
  simp only [List.foldr_cons] at hy
  split at hy
  ·rename_i hb
   simp only [Nat.testBit_or,Bool.or_eq_true] at hy;have he:=hes e (by simp) hb
   rcases hy with (hy | hy) | hy
   ·exact ih' hy
   ·have:e.on=y:=by
     rw [Nat.shiftLeft_eq,Nat.one_mul,Nat.testBit_two_pow] at hy
     simpa using hy
    exact this▸he
   ·by_cases hk:e.on<acc.length
    ·have h1:acc[e.on]? = some acc[e.on]:=ah hk
     have h2:acc.getD e.on 0=acc[e.on]:=by simp [c5,h1]
     have h3:ops[e.on]? = some ops[e.on]:=ah (by omega)
     rw [h2] at hy;exact hg e.on _ h1 _ h3 L hL (fun e' he' hb'=>hL e.on _ h3 he e' he' hb') y hy
    ·have h1:acc[e.on]? = none:=bg (by omega)
     simp [c5,h1] at hy
  ·exact ih' hy
theorem Ab {ops:List Oper}:∀(os:List Oper) (acc:List Nat),(∃pre,ops=pre++os∧pre.length=acc.length)→yb ops acc→yb ops (tj os acc)
 | [],acc,_,hg=>hg
 | o::os,acc,⟨pre,e,hl⟩,hg=>by
  refine Ab os _ ⟨pre++[o],by simp [e],by simp [hl]⟩ ?_
  intro k m hk o' ho' L hL hp y hy;rcases cb k acc.length with h | h
  ·rw [av h] at hk
   exact hg k m hk o' ho' L hL hp y hy
  ·rw [aw h] at hk
   have hk0:k-acc.length=0:=by
    rcases dp (k-acc.length) with h0 | h0
    ·exact h0
    ·rw [bg (by simp only [bf,f0]; omega)] at hk; cases hk
   rw [hk0] at hk;simp only [dh,a5] at hk;subst hk;have hkl:k=pre.length:=by omega
   have:o'=o:=by
    rw [e,hkl,aw (ap _),p9] at ho'
    simpa using ho'.symm
   subst this;exact I5 (by rw [e]; simp; omega) hg hL _ hp y hy
theorem Lp (ops:List Oper):yb ops (tj ops []):=
 Ab ops [] ⟨[],rfl,rfl⟩ (by intro k m hk; simp at hk)
def t0:Tr:=⟨default,⟨[],[]⟩,.off,default⟩
theorem SR.pi {C:Cx} {φ:Loc} {s:St} {tmps:Array Value} (hs:SR C φ s tmps):PI s:=by
 intro n v hn i hi;obtain ⟨u,_,h⟩:=hs.env n v hn;exact RX.refs v u h i hi
theorem SR.sim {C:Cx} {φ:Loc} {s t:St} {tmps:Array Value} (hs:SR C φ s tmps) (h:Sim s t):SR C φ t tmps:=
 ⟨h.h▸hs.hr,hs.bd,fun n v hn=>by rw [←h.e n] at hn; rw [←h.h]; exact hs.env n v hn⟩
theorem getD_some {α:Type} {l:List α} {d:α} {k:Nat} {x:α} (h:l[k]? = some x):l.getD k d=x:=by
 rw [c5,h]; rfl
theorem Qi {O:ac} {ops:Array Oper} {N np:Nat} {Q:Exit→Act→World→Prop} {is:List Ins} (hok:uz P num ops N is ops.toList=true) (hdr:M7 ops.toList is=true) (hO:ja P num O)
 {L:List Tr} (hL:L.map (·.i)=is) (hV:∀t∈L,t.Valid O np) {s0 s':St} (hseq:Seq L s0 s') :
 ∀(fuel:Nat) (listed:Array Bool) (rem:List Nat) (C:Cx) (φ:Loc) (s:St) (a:Act),rem.length=fuel→rem.Pairwise (· < ·)→listed.size=ops.size→(∀j,j∈rem↔listed[j]? = some false) →
 Lu ops.toList (fun j=>listed[j]? = some true)→C.num=num→SR C φ s a.tmps→N≤a.tmps.size→Chain (rem.map fun k=>L.getD k t0) s s' →
 (∀C' φ' a',C'.num=num→Runs np C C' φ φ' s.h s'.h→SR C' φ' s' a'.tmps→a'.tmps.size=a.tmps.size→a'.defers=a.defers→Q .normal a' C'.w)→wpAny P .any ops Q fuel listed a C.w:=by
 obtain ⟨hlen,hget⟩:=qa hok;have hLlen:L.length=is.length:=by rw [←hL]; simp
 have hol:ops.toList.length=ops.size:=by simp
 intro fuel
 induction fuel with
 | zero=>
  intro listed rem C φ s a hrl _ _ hrem _ hC hs hN hch hQ;have:rem=[]:=dx.1 hrl;subst this;simp only [List.map_nil,Chain] at hch;refine ⟨?_,?_⟩
  ·apply List.eq_nil_iff_forall_not_mem.2
   intro j hj;have h1:=(mem_ready.1 hj).1
   have:listed[j]? = some false:=by
    cases hq:listed[j]? with
    | none=>rw [cj,hq] at h1; cases h1
    | some b=>rw [cj,hq] at h1; simpa using h1
   have:=(hrem j).2 this;simp at this
  ·refine hQ C φ a hC ?_ (hs.sim hch) rfl rfl
   rw [←hch.h];exact .refl np hs.hr hs.bd
 | succ fuel ih=>
  intro listed rem C φ s a hrl hsort hsz hrem hcl hC hs hN hch hQ
  have hlt:∀j,j∈rem→j<ops.size:=by
   intro j hj;have:=(hrem j).1 hj;rw [←hsz]; exact (c7.1 this).1
  -- a line's facts
  have hline:∀j,j<ops.size→∃t i o,L[j]? = some t∧is[j]? = some i∧t.i=i∧ops[j]? = some o∧t.Valid O np∧Em P num ops N i o=true:=by
   intro j hj;have hjL:j<L.length:=by omega
   have e1:L[j]? = some L[j]:=ah hjL;have e2:is[j]? = some L[j].i:=by rw [←hL,dd,e1]; rfl
   have e3:ops.toList[j]? = some ops.toList[j]:=ah (by omega)
   exact ⟨L[j],L[j].i,ops.toList[j],e1,e2,rfl,by simp,hV _ (cx hjL),hget j _ _ e2 e3⟩
  have hdr':∀kx,kx<ops.size→∀o x,ops[kx]? = some o→is[kx]? = some x→(∀e∈o.after.toList,Region.binds .any e=true→e.on<kx)∧∀ky,ky<kx→((tj ops.toList []).getD kx 0).testBit ky=true∨∃y,is[ky]? = some y∧Mw is ky kx y x=true:=by
   intro kx hkx o x ho hx;unfold M7 at hdr;have h1:=dc.1 hdr kx (gh.2 (by omega))
   have ho':ops.toList[kx]? = some o:=by simpa using ho
   rw [ho',hx] at h1;simp only [ab] at h1;refine ⟨fun e he hb=>?_,fun ky hky=>?_⟩
   ·have:=dc.1 h1.1 e he
    simpa [hb] using this
   ·have:=dc.1 h1.2 ky (gh.2 hky)
    simp only [Bool.or_eq_true] at this;refine this.imp id fun h=>?_
    split at h
    ·rename_i y hy; exact ⟨y,hy,h⟩
    ·cases h
  refine ⟨fun h0=>?_,fun i hi=>?_⟩
  ·-- the first line that is left is ready
   exfalso;cases rem with
   | nil=>simp at hrl
   | cons r rem=>
    have hr:r<ops.size:=hlt r (by simp)
    obtain ⟨t,ir,o,e1,e2,e3,e4,_⟩:=hline r hr
    have hmem:r∈Region.ready .any ops listed:=by
     rw [mem_ready];have h1:=(hrem r).1 (by simp)
     refine ⟨by rw [cj,h1]; rfl,o,e4,fun e he hb=>?_⟩
     have hon:=(hdr' r hr o ir e4 e2).1 e (by simpa using he) hb
     have hnot:e.on ∉ r::rem:=by
      intro hm;rcases cr.1 hm with rfl | hm
      ·omega
      ·have:=List.rel_of_pairwise_cons hsort hm
       omega
     have hin:e.on<listed.size:=by omega
     have h2:listed[e.on]? = some listed[e.on]:=gq hin;rw [cj,h2];cases hq:listed[e.on] with
     | true=>rfl
     | false=>exact absurd ((hrem e.on).2 (by rw [h2,hq])) hnot
    rw [h0] at hmem;simp at hmem
  ·obtain ⟨hun,o,ho,hpre⟩:=mem_ready.1 hi
   have hil:i<ops.size:=(c7.1 ho).1
   have hif:listed[i]? = some false:=by
    have h2:listed[i]? = some (listed[i]'(by omega)):=gq (by omega)
    rw [cj,h2] at hun;rw [h2]; exact congrArg some hun
   have hirem:=(hrem i).2 hif;obtain ⟨pre,post,rfl⟩:=List.append_of_mem hirem;obtain ⟨t,ii,o',e1,e2,e3,e4,e5,e6⟩:=hline i hil;obtain rfl:o'=o:=ao (e4.symm.trans ho)
   have hpreL:∀e∈o'.after.toList,Region.binds .any e=true→listed[e.on]? = some true:=by
    intro e he hb;have:=hpre e (by simpa using he) hb
    cases hq:listed[e.on]? with
    | none=>rw [cj,hq] at this; cases this
    | some b=>rw [cj,hq] at this; simpa using this
   have hsort':=fc.1 hsort
   have hind:∀y∈pre,Ind (L.getD y t0) (L.getD i t0):=by
    intro y hy;have hyi:y<i:=hsort'.2.2 y hy i (by simp)
    have hyrem:y∈pre++i::post:=by simp [hy]
    obtain ⟨ty,iy,oy,y1,y2,y3,y4,y5,y6⟩:=hline y (by omega)
    rcases (hdr' i hil o' ii ho e2).2 y hyi with h1 | ⟨y',h1,h2⟩
    ·exfalso
     have hm:(tj ops.toList [])[i]? = some ((tj ops.toList []).getD i 0):=by
      cases hq:(tj ops.toList [])[i]? with
      | none=>rw [c5,hq] at h1; simp at h1
      | some m=>rw [getD_some hq]
     have:=Lp ops.toList i _ hm o' (by simpa using ho) _ hcl hpreL y h1
     rw [(hrem y).1 hyrem] at this;cases this
    ·obtain rfl:y'=iy:=ao (h1.symm.trans y2)
     rw [getD_some y1,getD_some e1];unfold Mw at h2;simp only [ab] at h2;obtain ⟨p1,p2⟩:=h2;rw [←y3,←e3] at p1 p2;refine ⟨p1,?_⟩
     split at p2
     ·rename_i hc
      exact ⟨false,hc,by simp⟩
     ·rename_i hc
      refine ⟨true,hc,fun _=>?_⟩
      simp only [ab] at p2;obtain ⟨q1,q2⟩:=p2
      -- the text between them
      have hyl:y<L.length:=by omega
      have hil':i<L.length:=by omega
      have split1:L=L.take y++L[y]::(((L.drop (y+1)).take (i-y-1))++L[i]::L.drop (i+1)):=by
       have s1:L.drop (y+1)=(L.drop (y+1)).take (i-y-1)++(L.drop (y+1)).drop (i-y-1):=(gj _ _).symm
       have s2:(L.drop (y+1)).drop (i-y-1)=L[i]::L.drop (i+1):=by
        rw [ef,show y+1+(i-y-1)=i by omega,ci hil']
       have s3:L.drop (y+1)=(L.drop (y+1)).take (i-y-1)++L[i]::L.drop (i+1):=s1.trans (by rw [s2])
       have s4:L=L.take y++L[y]::L.drop (y+1):=by rw [←ci hyl,gj]
       exact s4.trans (congrArg (fun q=>L.take y++L[y]::q) s3)
      have ey:L[y]=ty:=ao ((ah hyl).symm.trans y1);have ei:L[i]=t:=ao ((ah hil').symm.trans e1);rw [ey,ei] at split1;have hseq':=hseq;rw [split1] at hseq';refine Seq.apart hseq' ?_ ?_
      ·intro z hz
       have hz':z∈(L.drop y).take (i-y):=by
        rw [ci hyl,ey,show i-y=(i-y-1)+1 by omega,ej]
        exact hz
       have hzi:z.i∈(is.drop y).take (i-y):=by
        rw [←hL,←List.map_drop,←List.map_take];exact List.mem_map_of_mem hz'
       have:=dc.1 q2 z.i hzi
       simpa using this
      ·intro n hn
       have:=dc.1 q1 n hn
       simpa using this
     ·cases p2
   have hvp:∀t∈pre.map (fun k=>L.getD k t0),t.Valid O np:=by
    intro t ht;obtain ⟨y,hy,rfl⟩:=cd.1 ht;obtain ⟨ty,_,_,y1,_,_,_,y5,_⟩:=hline y (hlt y (by simp [hy]))
    rw [getD_some y1]; exact y5
   rw [ou,li] at hch
   obtain ⟨hag,hch'⟩:=Xs (by rw [getD_some e1]; exact e5) hs.pi hvp hch (by
    intro t ht;obtain ⟨y,hy,rfl⟩:=cd.1 ht;exact hind y hy)
   rw [getD_some e1] at hag hch';have hex:=e5.exec s hag;rw [e3] at hex;refine zn (hC▸hO) hs hN (hC▸e6) ho hex fun C' φ' u rn hs'=>?_
   have hC':C'.num=num:=rn.st.le.num.trans hC;have hnd:(pre++i::post).Nodup:=hsort.imp fun h=>by omega
   have hgetset:∀j:Nat,(listed.setIfInBounds i true)[j]? = if j=i then some true else listed[j]?:=by
    intro j;rw [fp]
    by_cases hij:i=j
    ·subst hij; simp [hsz,hil]
    ·rw [if_neg hij,if_neg (gk hij)]
   refine ih (listed.setIfInBounds i true) (pre++post) C' φ' _ _ (by simp at hrl ⊢; omega) ?_ (by simpa using hsz) ?_ ?_ hC' hs' (by rw [ol]; exact hN) (by rw [ou]; exact hch') ?_
   ·exact hsort.sublist (List.Sublist.append (List.Sublist.refl _) (List.sublist_cons_self _ _))
   ·intro j
    rw [hgetset]
    by_cases hij:j=i
    ·subst hij
     rw [if_pos rfl];refine ⟨fun h=>?_,fun h=>by cases h⟩
     have hn:=List.nodup_append.1 hnd;rcases au.1 h with h | h
     ·exact absurd rfl (hn.2.2 j h j (by simp))
     ·exact absurd h (fq.1 hn.2.1).1
    ·rw [if_neg hij,←hrem j]
     simp [hij]
   ·intro k o2 hk hkl e he hb
    rw [hgetset] at hkl ⊢
    by_cases hei:e.on=i
    ·rw [if_pos hei]
    ·rw [if_neg hei]
     by_cases hki:k=i
     ·subst hki
      have:o2=o':=by
       have h2:ops[k]? = some o2:=by simpa using hk
       exact ao (h2.symm.trans ho)
      subst this;exact hpreL e he hb
     ·rw [if_neg hki] at hkl
      exact hcl k o2 hk hkl e he hb
   ·intro C2 φ2 a2 h2 rn2 hs2 z2 d2
    refine hQ C2 φ2 a2 h2 (rn.trans rn2) hs2 (by rw [z2,ol]) ?_
    rw [d2];cases o'.dst <;> rfl
end Pe

namespace Pe
open Go
variable {P:Program} {num:Nat→Nat}
def fo (P:Program) (num:Nat→Nat) (N:Nat):Cd→Code→Bool
 | .skip,.skip=>true
 | .region is _,.region _ ops draw=>uz P num ops N is ops.toList&&(if draw then M7 ops.toList is else true)
 | .seq a b,.seq x y=>fo P num N a x&&fo P num N b y
 | .cond c a b,.cond c' x y=>bw num c c'&&fo P num N a x&&fo P num N b y
 | .block i c,.block j x=>i == j&&fo P num N c x
 | .loop c,.loop x=>fo P num N c x
 | .exit i,.exit j=>i == j
 | .ret,.ret=>true
 | _,_=>false
def Out.exit':Out→Exit
 | .normal=>.normal
 | .exit id=>.exit id
 | .ret=>.ret
def Xe (num:Nat→Nat) (np:Nat) (Q:Exit→Act→World→Prop) (o:Out) (C:Cx) (φ:Loc) (h:Heap) (s':St) (a:Act):Prop:=
 ∀C' φ' a',C'.num=num→Runs np C C' φ φ' h s'.h→SR C' φ' s' a'.tmps→a'.tmps.size=a.tmps.size→a'.defers=a.defers→Q o.exit' a' C'.w
theorem Gl {O:ac} {np N:Nat} (hO:ja P num O) (hm:P.follows .mixedOrders=true) {is:List Ins} {ks:List Nat} {id:Nat} {ops:Array Oper} {draw:Bool} (hok:fo P num N (.region is ks) (.region id ops draw)=true)
 {C:Cx} {φ:Loc} {s s1:St} {a:Act} (hC:C.num=num) (hs:SR C φ s a.tmps) (hN:N≤a.tmps.size) (he:du O np is s=some s1) {Q:Exit→Act→World→Prop}
 (hQ:Xe num np Q .normal C φ s.h ⟨s1.e.keep ks,og (s1.e.keep ks) np 0 s1.h⟩ a):(Code.region id ops draw).wp P Q a C.w:=by
 simp only [fo,ab] at hok;obtain ⟨hok,hdr⟩:=hok;have hlen:=(qa hok).1
 have hend:∀C' φ' a',C'.num=num→Runs np C C' φ φ' s.h s1.h→SR C' φ' s1 a'.tmps→a'.tmps.size=a.tmps.size→a'.defers=a.defers→Q .normal a' C'.w:=by
  intro C' φ' a' h1 h2 h3 h4 h5;obtain ⟨r1,r2⟩:=Cl np h3 ks;exact hQ C' φ' a' h1 (h2.trans r1) r2 h4 h5
 cases draw with
 | false=>
  refine wp_region ?_;have:=E2 (Q:=Q) hok hO is.length 0 (by omega) C φ s s1 a hC hs hN (by simpa using he) hend
  rw [hlen] at this;rw [List.range_eq_range']
  simpa using this
 | true=>
  simp only [if_true] at hdr;refine wp_region_any hm ?_;obtain ⟨st,k⟩:=Rc (w':={ C.w with drawn:=C.w.drawn+1 }) hs.hr hs.bd ⟨rfl,rfl,rfl,rfl⟩
  have hs':SR { C with w:={ C.w with drawn:=C.w.drawn+1 } } φ s a.tmps:=⟨st.hr,st.bd,fun n v hn=>by
   obtain ⟨u,h1,h2⟩:=hs.env n v hn;exact ⟨u,h1,k v u (by simp) h2⟩⟩
  obtain ⟨L,g1,g2,g3⟩:=Ug he
  have hLl:L.length=ops.size:=by
   have:L.length=is.length:=by rw [←g1]; simp
   rw [this,hlen]; simp
  refine Qi (s0:=s) (s':=s1) hok hdr hO g1 g2 g3 ops.size (Array.replicate ops.size false) (List.range ops.size) { C with w:={ C.w with drawn:=C.w.drawn+1 } } φ s a (by simp) List.pairwise_lt_range (by simp) ?_ ?_ hC hs' hN ?_ ?_
  ·intro j
   rw [gh,Array.getElem?_replicate]
   split <;> simp_all
  ·intro k o hk hkl
   rw [Array.getElem?_replicate] at hkl
   split at hkl <;> simp at hkl
  ·have:(List.range ops.size).map (fun k=>L.getD k t0)=L:=by
    apply cu;intro i;rw [dd]
    by_cases hi:i<ops.size
    ·rw [ek hi,bo,ah (by omega)]
     rw [getD_some (ah (by omega))]
    ·rw [bg (by simpa using hi),bg (by omega)]; rfl
   rw [this];exact g3.chain
  ·intro C' φ' a' h1 h2 h3 h4 h5
   exact hend C' φ' a' h1 (Runs.trans ⟨st,k.mono (by simp)⟩ h2) h3 h4 h5
theorem Og {p:Nat→Prop}:∀{m:Nat},p m→∃m,p m∧∀k,p k→m≤k:=by
 intro m
 induction m using Nat.strongRecOn with
 | _ m ih=>
  intro h
  by_cases hx:∃k,k<m∧p k
  ·obtain ⟨k,hk,hp⟩:=hx
   exact ih k hk hp
  ·exact ⟨m,h,fun k hk=>Nat.le_of_not_lt fun hl=>hx ⟨k,hl,hk⟩⟩
theorem Re {c:Code} {Q:Exit→Act→World→Prop} (R:Nat→Act→World→Prop) (round:∀m a w,R m a w→c.wp P (Exit.then (fun a' w'=>∃m',m'<m∧R m' a' w') Q) a w) {m:Nat} {a:Act} {w:World} (h0:R m a w) :
 (Code.loop c).wp P Q a w:=by
 have hl:∀a w,(∃m,R m a w)→∃m,R m a w∧∀k,R k a w→m≤k:=fun a w ⟨m,h⟩=>Og (p:=fun m=>R m a w) h
 let μ:Act→World→Nat:=fun a w=>by
  classical
  exact if h:∃m,R m a w then Classical.choose (hl a w h) else 0
 have hμ:∀a w,(∃m,R m a w)→R (μ a w) a w∧∀k,R k a w→μ a w≤k:=by
  intro a w h;have:=c6 (hl a w h);simp only [μ,h,dite_true];exact this
 refine wp_loop (fun a w=>∃m,R m a w) μ ⟨m,h0⟩ fun a w hI=>?_
 refine wp_mono (round (μ a w) a w (hμ a w hI).1) fun e a' w' hq=>?_
 cases e with
 | normal=>
  obtain ⟨m',hm',hR⟩:=hq;exact ⟨⟨m',hR⟩,Nat.lt_of_le_of_lt ((hμ a' w' ⟨m',hR⟩).2 m' hR) hm'⟩
 | _=>exact hq
theorem pu {O:ac} {np N:Nat} (hO:ja P num O) (hm:P.follows .mixedOrders=true) (n:Nat):∀(c:Cd) (x:Code),fo P num N c x=true→∀(C:Cx) (φ:Loc) (s s':St) (a:Act) (o:Out),C.num=num→SR C φ s a.tmps→N≤a.tmps.size →
 ch O np n c s=some (o,s')→∀(Q:Exit→Act→World→Prop),Xe num np Q o C φ s.h s' a→x.wp P Q a C.w:=by
 intro c
 induction c with
 | skip=>
  intro x hok C φ s s' a o hC hs hN he Q hQ;cases x <;> simp only [fo,ak] at hok
  simp only [ch,a5,aa] at he;obtain ⟨rfl,rfl⟩:=he;exact wp_skip (hQ C φ a hC (.refl np hs.hr hs.bd) hs rfl rfl)
 | ret=>
  intro x hok C φ s s' a o hC hs hN he Q hQ;cases x <;> simp only [fo,ak] at hok
  simp only [ch,a5,aa] at he;obtain ⟨rfl,rfl⟩:=he;exact wp_ret (hQ C φ a hC (.refl np hs.hr hs.bd) hs rfl rfl)
 | exit id=>
  intro x hok C φ s s' a o hC hs hN he Q hQ;cases x <;> simp only [fo,ak] at hok
  rename_i j
  have:id=j:=by simpa using hok
  subst this;simp only [ch,a5,aa] at he;obtain ⟨rfl,rfl⟩:=he;exact wp_exit (hQ C φ a hC (.refl np hs.hr hs.bd) hs rfl rfl)
 | region is ks=>
  intro x hok C φ s s' a o hC hs hN he Q hQ;cases x <;> simp only [fo,ak] at hok
  simp only [ch] at he;obtain ⟨s1,h1,e⟩:=a8.1 he;simp only [aa] at e;obtain ⟨rfl,rfl⟩:=e;exact Gl hO hm (by simpa only [fo] using hok) hC hs hN h1 hQ
 | seq c d ihc ihd=>
  intro x hok C φ s s' a o hC hs hN he Q hQ;cases x <;> simp only [fo,ak,ab] at hok
  simp only [ch] at he;obtain ⟨⟨o1,s1⟩,h1,he⟩:=a4.1 he;refine wp_seq (ihc _ hok.1 C φ s s1 a o1 hC hs hN h1 _ ?_);intro C1 φ1 a1 k1 r1 hs1 z1 d1;cases o1 with
  | normal=>
   simp only at he;refine ihd _ hok.2 C1 φ1 s1 s' a1 o k1 hs1 (by rw [z1]; exact hN) he Q ?_
   intro C2 φ2 a2 k2 r2 hs2 z2 d2;exact hQ C2 φ2 a2 k2 (r1.trans r2) hs2 (z2.trans z1) (d2.trans d1)
  | exit id=>
   simp only [a5,aa] at he;obtain ⟨rfl,rfl⟩:=he;exact hQ C1 φ1 a1 k1 r1 hs1 z1 d1
  | ret=>
   simp only [a5,aa] at he;obtain ⟨rfl,rfl⟩:=he;exact hQ C1 φ1 a1 k1 r1 hs1 z1 d1
 | cond q c d ihc ihd=>
  intro x hok C φ s s' a o hC hs hN he Q hQ;cases x <;> simp only [fo,ak,ab] at hok
  simp only [ch] at he
  split at he
  ·rename_i t ht
   have hb:=Gk (b7 hs (hC▸hok.1.1) ht);cases t with
   | true=>exact wp_cond_true hb (ihc _ hok.1.2 C φ s s' a o hC hs hN (by simpa using he) Q hQ)
   | false=>exact wp_cond_false hb (ihd _ hok.2 C φ s s' a o hC hs hN (by simpa using he) Q hQ)
  ·cases he
 | block id c ihc=>
  intro x hok C φ s s' a o hC hs hN he Q hQ;cases x <;> simp only [fo,ak,ab] at hok
  rename_i j d
  obtain ⟨hij,hok⟩:=hok;have:id=j:=by simpa using hij
  subst this;simp only [ch] at he;obtain ⟨⟨o1,s1⟩,h1,he⟩:=a8.1 he;refine wp_block (ihc _ hok C φ s s1 a o1 hC hs hN h1 _ ?_);intro C1 φ1 a1 k1 r1 hs1 z1 d1;cases o1 with
  | normal=>
   simp only [aa] at he;obtain ⟨rfl,rfl⟩:=he;exact hQ C1 φ1 a1 k1 r1 hs1 z1 d1
  | exit i=>
   simp only at he;simp only [Out.exit',Exit.inBlock]
   split at he
   ·rename_i hi
    rw [if_pos hi];simp only [aa] at he;obtain ⟨rfl,rfl⟩:=he;exact hQ C1 φ1 a1 k1 r1 hs1 z1 d1
   ·rename_i hi
    rw [if_neg hi];simp only [aa] at he;obtain ⟨rfl,rfl⟩:=he;exact hQ C1 φ1 a1 k1 r1 hs1 z1 d1
  | ret=>
   simp only [aa] at he;obtain ⟨rfl,rfl⟩:=he;exact hQ C1 φ1 a1 k1 r1 hs1 z1 d1
 | loop c ihc=>
  intro x hok C φ s s' a o hC hs hN he Q hQ;cases x <;> simp only [fo,ak] at hok
  rename_i d
  simp only [ch] at he;refine Re (fun m a1 w=>∃C1 φ1 s1,C1.w=w∧C1.num=num∧Runs np C C1 φ φ1 s.h s1.h∧SR C1 φ1 s1 a1.tmps∧a1.tmps.size=a.tmps.size∧a1.defers=a.defers∧sj (ch O np n c) m s1=some (o,s')) ?_ (m:=n) ⟨C,φ,s,rfl,hC,.refl np hs.hr hs.bd,hs,rfl,rfl,he⟩
  rintro m a1 w ⟨C1,φ1,s1,rfl,k1,r1,hs1,z1,d1,hit⟩
  cases m with
  | zero=>simp [sj] at hit
  | succ m=>
   simp only [sj] at hit;obtain ⟨⟨o2,s2⟩,h2,hit⟩:=a4.1 hit;refine ihc _ hok C1 φ1 s1 s2 a1 o2 k1 hs1 (by rw [z1]; exact hN) h2 _ ?_
   intro C2 φ2 a2 k2 r2 hs2 z2 d2;cases o2 with
   | normal=>exact ⟨m,Nat.lt_succ_self m,C2,φ2,s2,rfl,k2,r1.trans r2,hs2,z2.trans z1,d2.trans d1,hit⟩
   | exit id=>
    simp only [a5,aa] at hit;obtain ⟨rfl,rfl⟩:=hit;exact hQ C2 φ2 a2 k2 (r1.trans r2) hs2 (z2.trans z1) (d2.trans d1)
   | ret=>
    simp only [a5,aa] at hit;obtain ⟨rfl,rfl⟩:=hit;exact hQ C2 φ2 a2 k2 (r1.trans r2) hs2 (z2.trans z1) (d2.trans d1)
end Pe

namespace Pe
open Go
variable {P:Program} {num:Nat→Nat}
def P5 (P:Program):Res→ResultVar→Bool
 | .tmp n,.tmp m=>n == m
 | .cell n s,.cell m t=>n == m&&lf P t s
 | _,_=>false
def xb (P:Program):List Res→List ResultVar→Bool
 | [],[]=>true
 | r::rs,v::vs=>P5 P r v&&xb P rs vs
 | _,_=>false
def Ce (tmps:Array Value):ResultVar→Sem Value
 | .tmp t=>pure (tmps.getD t undef)
 | .cell a t=>do loadVar t (←asAddr (tmps.getD a undef))
theorem Lt (fn:Func) (tmps:Array Value):Go.results fn tmps=(do
 let vs ←fn.results.mapM (Ce tmps)
 pure (if h:vs.size=1 then vs[0] else .tuple vs)):=rfl
theorem Rm {C:Cx} {φ:Loc} {s:St} {tmps:Array Value} (hs:SR C φ s tmps) {r:Res} {rv:ResultVar} (hok:P5 P r rv=true) {v:V} (hv:Mr s r=some v) :
 ∃u,(Ce tmps rv).run P C.w=.ok u C.w∧RX C φ s.h v u:=by
 cases r with
 | tmp n=>
  cases rv <;> simp only [P5,ak] at hok
  rename_i m
  have hnm:n=m:=by simpa using hok
  subst hnm;simp only [Mr] at hv;obtain ⟨u,hu,h⟩:=hs.env n v hv;exact ⟨u,by simp [Ce,hu],h⟩
 | cell n sh=>
  cases rv <;> simp only [P5,ak,ab] at hok
  rename_i m t
  have hnm:n=m:=by simpa using hok.1
  subst hnm;simp only [Mr] at hv
  split at hv
  ·rename_i i p hp
   obtain ⟨d,hd,hv⟩:=a4.1 hv;obtain ⟨B,hB,hg⟩:=a4.1 hd
   split at hv
   ·rename_i hsh
    obtain rfl:=ao hv;obtain rfl:=Sh.beq_eq _ _ hsh;obtain ⟨u,hu,hx⟩:=hs.env n _ hp;simp only [RX] at hx;obtain ⟨B',b,off,q,hB',hφ,hq,e⟩:=hx;obtain rfl:B=B':=ao (hB.symm.trans hB');obtain ⟨b',o',off',cs,hφ',ho',hx,hc⟩:=qw (hs.hr.blk i B hB) hg;obtain ⟨rfl,rfl⟩:b=b'∧off=o':=by simpa using hφ.symm.trans hφ'
    have e2:=hq.symm.trans ho';simp only [a5] at e2;subst e2;obtain ⟨u',hrun,hu'⟩:=Cq (P:=P) hok.2 hc hx;refine ⟨u',?_,by simpa only [RX] using hu'⟩
    simp [Instr.loadAt,Instr.sureAddr] at hrun;simp [Ce,hu,e,asAddr,hrun]
   ·cases hv
  ·cases hv
theorem Bl {C:Cx} {φ:Loc} {s:St} {tmps:Array Value} (hs:SR C φ s tmps):∀{rs:List Res} {rvs:List ResultVar},xb P rs rvs=true→∀{vs:List V},td s rs=some vs →
 ∃us,(rvs.mapM (Ce tmps)).run P C.w=.ok us C.w∧RXs C φ s.h vs us
 | [],[],_,vs,hv=>by
  simp only [td,a5] at hv; subst hv;exact ⟨[],by simp,by simp [RXs]⟩
 | r::rs,rv::rvs,hok,vs,hv=>by
  simp only [xb,ab] at hok;simp only [td] at hv;obtain ⟨v,h1,hv⟩:=a4.1 hv;obtain ⟨vs',h2,rfl⟩:=a8.1 hv;obtain ⟨u,g1,g2⟩:=Rm hs hok.1 h1;obtain ⟨us,g3,g4⟩:=Bl hs hok.2 h2;exact ⟨u::us,by simp [g1,g3],by simp only [RXs]; exact ⟨u,us,rfl,g2,g4⟩⟩
 | [],_::_,hok,_,_=>by simp [xb] at hok
 | _::_,[],hok,_,_=>by simp [xb] at hok
def Al (P:Program) (num:Nat→Nat) (fn:Fn) (g:Func):Bool:=
 g.name != "runtime.NumGoroutine" && decide (fn.nparams ≤ g.ntmps) && xb P fn.results g.results.toList &&
 (match g.body with
  | some c=>fo P num g.ntmps fn.body c
  | none=>false)
theorem xf {C:Cx} {φ:Loc} {h:Heap}:∀{vs:List V} {us:List Value},RXs C φ h vs us→us.length=vs.length
 | [],us,g=>by simp only [RXs] at g; subst g; rfl
 | v::vs,us,g=>by
  simp only [RXs] at g;obtain ⟨u,r,rfl,_,g2⟩:=g;simp [xf g2]
theorem O6 {C:Cx} {φ:Loc} {h:Heap}:∀{vs:List V} {us:List Value} {k:Nat} {v:V},RXs C φ h vs us→vs[k]? = some v→∃u,us[k]? = some u∧RX C φ h v u
 | [],us,k,v,_,hk=>by simp at hk
 | x::vs,us,k,v,g,hk=>by
  simp only [RXs] at g;obtain ⟨u,r,rfl,g1,g2⟩:=g;cases k with
  | zero=>simp at hk; subst hk; exact ⟨u,rfl,g1⟩
  | succ k=>simpa using O6 g2 (by simpa using hk)
theorem Cr:∀{vs:List V} {n k:Nat} {v:V},(params n vs).get k=some v→n≤k∧vs[k-n]? = some v
 | [],n,k,v,h=>by simp [params,Env.get] at h
 | x::vs,n,k,v,h=>by
  simp only [params,Env.get] at h
  by_cases hk:n=k
  ·subst hk
   simp only [if_true,a5] at h;subst h;simp
  ·rw [if_neg hk] at h
   obtain ⟨h1,h2⟩:=Cr h;refine ⟨by omega,?_⟩
   rw [show k-n=(k-(n+1))+1 by omega]
   simpa using h2
theorem Rz (fn : Fn) {f : Nat} {g : Func} (hg : P.funcs[num f]? = some g) (hname : g.name ≠ "runtime.NumGoroutine") (hnp : fn.nparams ≤ g.ntmps) (hres : xb P fn.results g.results.toList = true) {code : Code} (hcode : g.body = some code) {vs : List V} {bs : Heap} {ans : Ans} (o : Out) (s' : St)
 (hlen:vs.length=fn.nparams)
 (hrun:(match o with
  | .exit _=>none
  | _=>if s'.h.length=bs.length+fn.nblk then (td s' fn.results).bind fun rs=>
   let v:=i9 rs
   let own:=(oq v.refs).filter (bs.length≤·)
   (s'.h.pick own).map fun nb=>
    (v.ren (fun i=>if i<bs.length then i else bs.length+own.idxOf i),s'.h.take bs.length,nb)
   else none)=some ans)
 (hw:∀(C:Cx) (φ:Loc) (a:Act),C.num=num→SR C φ ⟨params 0 vs,bs++List.replicate fn.nblk .hole⟩ a.tmps→g.ntmps≤a.tmps.size→∀(Q:Exit→Act→World→Prop),Xe num bs.length Q o C φ (bs++List.replicate fn.nblk .hole) s' a→code.wp P Q a C.w)
 {C:Cx} {φ:Loc} {us:List Value} (hC:C.num=num) (hr:HR C φ bs) (hb:∀b,C.I b→b<C.w.heap.size) (hv:RXs C φ bs vs us) :
 ans.2.1.length=bs.length∧Nr P (num f) us C φ bs (ans.2.1++ans.2.2) ans.1:=by
 have hul:=xf hv
 -- what the function begins with
 have hh0:∀i:Nat,i<bs.length→(bs++List.replicate fn.nblk Blk.hole)[i]? = bs[i]?:=fun i hi=>av hi
 have hh1:∀(i:Nat) (B:Blk),bs.length≤i→(bs++List.replicate fn.nblk Blk.hole)[i]? = some B→B=.hole:=by
  intro i B hi hB;rw [aw hi,ma] at hB
  split at hB
  ·exact (ao hB).symm
  ·cases hB
 have hr0:HR C φ (bs++List.replicate fn.nblk .hole):=by
  refine ⟨fun i B hB=>?_,fun i j Bi Bj b oi oj hij hi hj hoi hoj hφi hφj=>?_⟩
  ·by_cases hi:i<bs.length
   ·rw [hh0 i hi] at hB; exact hr.blk i B hB
   ·obtain rfl:=hh1 i B (by omega) hB
    trivial
  ·by_cases hi':i<bs.length
   ·by_cases hj':j<bs.length
    ·rw [hh0 i hi'] at hi
     rw [hh0 j hj'] at hj;exact hr.inj i j Bi Bj b oi oj hij hi hj hoi hoj hφi hφj
    ·obtain rfl:=hh1 j Bj (by omega) hj
     simp [Blk.own] at hoj
   ·obtain rfl:=hh1 i Bi (by omega) hi
    simp [Blk.own] at hoi
 have hold:∀v u,RX C φ bs v u→RX C φ (bs++List.replicate fn.nblk .hole) v u:=by
  intro v u gx;refine RX.congr (.refl C) v u (fun i hi B hB=>⟨B,?_,.refl B⟩) (fun _ _=>rfl) (fun _ _ _ _ _=>.of_eq rfl) gx
  rw [hh0 i (al.1 hB).1]; exact hB
 have hsize:us.toArray.size=fn.nparams:=by simp [hul,hlen]
 have hs0:SR C φ ⟨params 0 vs,bs++List.replicate fn.nblk .hole⟩ (us.toArray++Array.replicate (g.ntmps-us.toArray.size) undef):=by
  refine ⟨hr0,hb,fun n v hn=>?_⟩
  obtain ⟨_,h2⟩:=Cr hn;obtain ⟨u,h3,h4⟩:=O6 hv h2;refine ⟨u,?_,hold v u h4⟩
  have hnl:n<us.toArray.size:=by
   have:=(al.1 h3).1
   simpa using this
  rw [Array.getElem?_append_left hnl]
  simpa using h3
 have hN:g.ntmps≤(us.toArray++Array.replicate (g.ntmps-us.toArray.size) undef).size:=by
  rw [Array.size_append,Array.size_replicate]; omega
 have hHB:Oc P (num f):=⟨g,hg,hname,by simp [hcode]⟩
 -- the i9
 have hlast:(∃id,o=.exit id)∨(s'.h.length=bs.length+fn.nblk∧∃rs nb,td s' fn.results=some rs∧s'.h.pick ((oq (i9 rs).refs).filter (bs.length≤·))=some nb ∧
  ans=((i9 rs).ren (fun i=>if i<bs.length then i else bs.length+((oq (i9 rs).refs).filter (bs.length≤·)).idxOf i),s'.h.take bs.length,nb)):=by
  cases o with
  | exit id=>exact .inl ⟨id,rfl⟩
  | normal | ret=>
   right;simp only at hrun
   split at hrun
   ·rename_i hl
    obtain ⟨rs,h1,hrun⟩:=a4.1 hrun;obtain ⟨nb,h2,h3⟩:=a8.1 hrun;exact ⟨hl,rs,nb,h1,h2,h3.symm⟩
   ·cases hrun
 rcases hlast with ⟨id,rfl⟩ | ⟨hl,rs,nb,h1,h2,rfl⟩
 ·simp at hrun
 generalize hown:(oq (i9 rs).refs).filter (bs.length≤·)=own at *
 have hownn:own.Nodup:=by rw [←hown]; exact (wt _).filter _
 have hownm:∀i,i∈own↔i∈(i9 rs).refs∧bs.length≤i:=by
  intro i;rw [←hown,List.mem_filter,uo];simp
 obtain ⟨pl,pg⟩:=Cn h2;have htl:(s'.h.take bs.length).length=bs.length:=by rw [b6]; omega
 refine ⟨htl,hHB,?_⟩;refine calls_of_wp hg hcode ?_;refine hw C φ _ hC hs0 hN _ ?_;intro C' φ' a' hC' rn hs' _ hdef
 have hfin:∃v,(results g a'.tmps).run P C'.w=.ok v C'.w∧RX C' φ' s'.h (i9 rs) v:=by
  obtain ⟨us',g1,g2⟩:=Bl hs' hres h1;have hl2:=xf g2;rw [Lt];refine ⟨if h:us'.toArray.size=1 then us'.toArray[0] else .tuple us'.toArray,?_,?_⟩
  ·simp only [Array.mapM_eq_mapM_toList,Sem.run_bind,Sem.run_map,g1]
   simp
  ·unfold i9
   split
   ·rename_i v
    cases us' with
    | nil=>simp at hl2
    | cons u us'=>
     cases us' with
     | nil=>
      simp only [RXs] at g2;obtain ⟨u0,r,e,g3,g4⟩:=g2;simp only [List.cons.injEq] at e;obtain ⟨rfl,rfl⟩:=e
      simpa using g3
     | cons _ _=>simp at hl2
   ·rename_i hne
    have h1':¬ us'.toArray.size=1:=by
     intro h;have:rs.length=1:=by rw [←hl2]; simpa using h
     match rs,this with
     | [v],_=>exact hne v rfl
    rw [dif_neg h1'];simp only [RX];exact ⟨us'.toArray,rfl,by simpa using g2⟩
 obtain ⟨v,hvr,hvx⟩:=hfin
 -- the blocks that are handed back
 let φ3:Loc:=fun i=>if i<bs.length then φ' i else φ' (own.getD (i-bs.length) 0)
 have src:∀i B,(s'.h.take bs.length++nb)[i]? = some B→∃j,s'.h[j]? = some B∧φ3 i=φ' j∧((i<bs.length∧j=i)∨(bs.length≤i∧own[i-bs.length]? = some j)):=by
  intro i B hB
  by_cases hi:i<bs.length
  ·rw [av (by omega),cm,if_pos hi] at hB
   exact ⟨i,hB,by simp [φ3,hi],.inl ⟨hi,rfl⟩⟩
  ·rw [aw (by omega),htl] at hB
   have hil:i-bs.length<own.length:=by rw [←pl]; exact (al.1 hB).1
   have ho:own[i-bs.length]? = some own[i-bs.length]:=ah hil;obtain ⟨B',g1,g2,_⟩:=pg _ _ ho;obtain rfl:B'=B:=ao (g2.symm.trans hB);refine ⟨_,g1,?_,.inr ⟨by omega,ho⟩⟩
   simp only [φ3,if_neg hi,getD_some ho]
 have srcinj:∀i i' j,((i<bs.length∧j=i)∨(bs.length≤i∧own[i-bs.length]? = some j))→((i'<bs.length∧j=i')∨(bs.length≤i'∧own[i'-bs.length]? = some j))→i=i':=by
  intro i i' j hi hi';have hge:∀k,own[k]? = some j→bs.length≤j:=fun k hk=>((hownm j).1 (dw hk)).2
  rcases hi with ⟨p1,p2⟩ | ⟨p1,p2⟩ <;> rcases hi' with ⟨q1,q2⟩ | ⟨q1,q2⟩
  ·omega
  ·have:=hge _ q2; omega
  ·have:=hge _ p2; omega
  ·have e1:=n9 hownn p2
   have e2:=n9 hownn q2;omega
 have hown0:∀b,OwnB φ (bs++List.replicate fn.nblk .hole) b→OwnB φ bs b:=by
  rintro b ⟨i,B,o',hB,ho,hφ⟩
  by_cases hi:i<bs.length
  ·exact ⟨i,B,o',by rw [←hh0 i hi]; exact hB,ho,hφ⟩
  ·obtain rfl:=hh1 i B (by omega) hB
   simp [Blk.own] at ho
 have hown1:∀b,OwnB φ bs b→OwnB φ (bs++List.replicate fn.nblk .hole) b:=by
  rintro b ⟨i,B,o',hB,ho,hφ⟩
  exact ⟨i,B,o',by rw [hh0 i (al.1 hB).1]; exact hB,ho,hφ⟩
 have post:∃u C2 φ2,Ending.returned v=.returned u∧C2.w=C'.w∧Step C C2 φ φ2 bs (s'.h.take bs.length++nb)∧Keeps C C2 φ φ2 bs (s'.h.take bs.length++nb) (fun _=>False) ∧
  RX C2 φ2 (s'.h.take bs.length++nb) ((i9 rs).ren (fun i=>if i<bs.length then i else bs.length+own.idxOf i)) u:=by
  refine ⟨v,C',φ3,rfl,rfl,⟨rn.st.le,fun b hbl hn=>rn.st.kept b hbl fun h=>hn (hown0 b h),fun b h=>?_,?_,rn.st.size,rn.st.os,rn.st.out,rn.st.tape,⟨?_,?_⟩,rn.st.bd⟩,?_,?_⟩
  ·rcases rn.st.fresh b h with h | h | h
   ·exact .inl h
   ·exact .inr (.inl h)
   ·exact .inr (.inr (hown0 b h))
  ·rintro b ⟨i,B,o',hB,ho,hφ⟩
   obtain ⟨j,g1,g2,_⟩:=src i B hB;exact (rn.st.own b ⟨j,B,o',g1,ho,g2.symm.trans hφ⟩).imp (hown0 b) id
  ·intro i B hB
   obtain ⟨j,g1,g2,_⟩:=src i B hB;rw [g2]; exact rn.st.hr.blk j B g1
  ·intro i i' Bi Bj b oi oj hij hi hj hoi hoj hφi hφj
   obtain ⟨j,g1,g2,g3⟩:=src i Bi hi;obtain ⟨j',g1',g2',g3'⟩:=src i' Bj hj;exact rn.st.hr.inj j j' Bi Bj b oi oj (fun e=>hij (srcinj i i' j g3 (e▸g3'))) g1 g1' hoi hoj (g2.symm.trans hφi) (g2'.symm.trans hφj)
  ·intro x u _ hx
   have hlt:∀i∈x.refs,i<bs.length:=fun i hi=>by
    obtain ⟨B,hB,_⟩:=RX.refs x u hx i hi;exact (al.1 hB).1
   have q:=rn.kp x u (fun i hi hge=>by have:=hlt i hi; omega) (hold x u hx)
   have:=RX.lift (C':=C') (φ':=φ3) (h':=s'.h.take bs.length++nb) (f:=id) (.refl C') x u (Moves.one fun i hi B hB _=>by
    have hi':=hlt i hi;refine ⟨⟨B,?_,.refl B⟩,by simp [φ3,hi'],fun _ _ _=>.of_eq rfl⟩
    simp only [id];rw [av (by omega),cm,if_pos hi']; exact hB) q
   rwa [V.ren_id (f:=id) x (fun _ _=>rfl)] at this
  ·refine RX.lift (.refl C') (i9 rs) v (Moves.one fun i hi B hB hn=>?_) hvx
   by_cases hi':i<bs.length
   ·rw [if_pos hi']
    refine ⟨⟨B,?_,.refl B⟩,by simp [φ3,hi'],fun _ _ _=>.of_eq rfl⟩
    rw [av (by omega),cm,if_pos hi']; exact hB
   ·rw [if_neg hi']
    have him:i∈own:=(hownm i).2 ⟨hi,by omega⟩
    have ho:=jm him;obtain ⟨B',g1,g2,_⟩:=pg _ _ ho;obtain rfl:B'=B:=ao (g1.symm.trans hB);refine ⟨⟨B',?_,.refl B'⟩,?_,fun _ _ _=>.of_eq rfl⟩
    ·rw [aw (by omega),htl,show bs.length+own.idxOf i-bs.length=own.idxOf i by omega]; exact g2
    ·have:¬ bs.length+own.idxOf i<bs.length:=by omega
     simp only [φ3,if_neg this,show bs.length+own.idxOf i-bs.length=own.idxOf i by omega,getD_some ho]
 cases o with
 | exit id=>simp at hrun
 | normal=>exact ⟨by rw [hdef],v,hvr,post⟩
 | ret=>exact ⟨by rw [hdef],v,hvr,post⟩
theorem Do {O:ac} (hO:ja P num O) (hm:P.follows .mixedOrders=true) {fn:Fn} {f:Nat} {g:Func} (hg:P.funcs[num f]? = some g) (hok:Al P num fn g=true) {k:Nat} {vs:List V} {bs:Heap} {ans:Ans}
 (hrun:run O k fn vs bs=some ans) {C:Cx} {φ:Loc} {us:List Value} (hC:C.num=num) (hr:HR C φ bs) (hb:∀b,C.I b→b<C.w.heap.size) (hv:RXs C φ bs vs us) :
 ans.2.1.length=bs.length∧Nr P (num f) us C φ bs (ans.2.1++ans.2.2) ans.1:=by
 unfold Al at hok;simp only [ab,bne_iff_ne,ne_eq,decide_eq_true_eq] at hok;obtain ⟨⟨⟨hname,hnp⟩,hres⟩,hbody⟩:=hok;cases hcode:g.body with
 | none=>rw [hcode] at hbody; cases hbody
 | some code=>
 rw [hcode] at hbody;simp only at hbody;unfold run at hrun
 split at hrun
 case isFalse=>cases hrun
 rename_i hlen
 obtain ⟨⟨o,s'⟩,hev,hrun⟩:=a4.1 hrun;exact Rz fn hg hname hnp hres hcode o s' hlen hrun (fun C φ a hC hs hN Q hQ=>pu (N:=g.ntmps) hO hm k fn.body code hbody C φ _ s' a o hC hs hN hev Q hQ) hC hr hb hv
theorem Ad {T:Nat→Option Fn} {A:ac} (hT:∀f fn,T f=some fn→∃g,P.funcs[num f]? = some g∧Al P num fn g=true) (hA:ja P num A) (hm:P.follows .mixedOrders=true):∀k,ja P num (ov T A k)
 | 0=>by intro f vs bs ans h; simp [ov] at h
 | k+1=>by
  intro f vs bs ans h C φ us hC hr hb hv;simp only [ov] at h
  split at h
  ·rename_i fn hfn
   obtain ⟨g,hg,hok⟩:=hT f fn hfn;exact Do (Ad hT hA hm k) hm hg hok h hC hr hb hv
  ·exact hA f vs bs ans h C φ us hC hr hb hv
end Pe

namespace Pe
open Go
abbrev Ds:=Nat×List V×Heap×Ans
def Gives (O:ac) (qs:List Ds):Prop:=∀q∈qs,O q.1 q.2.1 q.2.2.1=some q.2.2.2
theorem Gives.app {O:ac} {qs rs:List Ds}:Gives O (qs++rs)↔Gives O qs∧Gives O rs:=by
 unfold Gives;constructor
 ·exact fun h=>⟨fun q hq=>h q (by simp [hq]),fun q hq=>h q (by simp [hq])⟩
 ·rintro ⟨h1,h2⟩ q hq
  rcases au.1 hq with hq | hq
  ·exact h1 q hq
  ·exact h2 q hq
def Rests {α:Type} (O:ac) (g:ac→Option α) (r:α):Prop:=∃qs,Gives O qs∧∀O',Gives O' qs→g O'=some r
theorem Rests.const {α:Type} {O:ac} {x:Option α} {r:α} (h:x=some r):Rests O (fun _=>x) r:=⟨[],by simp [Gives],fun _ _=>h⟩
theorem Rests.bind {α β:Type} {O:ac} {g:ac→Option α} {k:α→ac→Option β} {r:α} {r':β} (h:Rests O g r) (h':Rests O (k r) r'):Rests O (fun O'=>(g O').bind fun x=>k x O') r':=by
 obtain ⟨q1,a1,b1⟩:=h;obtain ⟨q2,a2,b2⟩:=h';refine ⟨q1++q2,Gives.app.2 ⟨a1,a2⟩,fun O' hO'=>?_⟩
 obtain ⟨c1,c2⟩:=Gives.app.1 hO'
 dsimp only
 rw [b1 O' c1];exact b2 O' c2
theorem S6 {O:ac} {np:Nat} {e:Env} {h:Heap} {p:Op} {r:V×Heap} (he:am O np e h p=some r):Rests O (fun O'=>am O' np e h p) r:=by
 cases p with
 | call m news f xs=>
  simp only [am] at he;obtain ⟨fv,hf,he⟩:=a4.1 he;obtain ⟨g,hg,he⟩:=a4.1 he;obtain ⟨vs,hv,he⟩:=a4.1 he
  have pure:∀m,f9 O m h g.1 (g.2.1++vs++g.2.2)=some r→∃q:Ds,O q.1 q.2.1 q.2.2.1=some q.2.2.2∧∀O':ac,O' q.1 q.2.1 q.2.2.1=some q.2.2.2→f9 O' m h g.1 (g.2.1++vs++g.2.2)=some r:=by
   intro m he;unfold f9 at he;obtain ⟨ds,hds,he⟩:=a4.1 he;obtain ⟨ans,hans,he⟩:=a4.1 he;refine ⟨(g.1,ds.map .d,[],ans),hans,fun O' hO'=>?_⟩
   unfold f9;rw [hds,a9];simp only at hO';rw [hO',a9];exact he
  have heap:jh O np news h g.1 (g.2.1++vs++g.2.2)=some r→∃q:Ds,O q.1 q.2.1 q.2.2.1=some q.2.2.2∧∀O':ac,O' q.1 q.2.1 q.2.2.1=some q.2.2.2→jh O' np news h g.1 (g.2.1++vs++g.2.2)=some r:=by
   intro he;unfold jh at he;simp only at he;obtain ⟨bs,hbs,he⟩:=a4.1 he;obtain ⟨ans,hans,he⟩:=a4.1 he;refine ⟨(g.1,_,bs,ans),hans,fun O' hO'=>?_⟩
   unfold jh;simp only;rw [hbs,a9];simp only at hO';rw [hO',a9];exact he
  have fin:∀(c:ac→Option (V×Heap)),(∃q:Ds,O q.1 q.2.1 q.2.2.1=some q.2.2.2∧∀O':ac,O' q.1 q.2.1 q.2.2.1=some q.2.2.2→c O'=some r)→(∀O',am O' np e h (.call m news f xs)=c O')→Rests O (fun O'=>am O' np e h (.call m news f xs)) r:=by
   rintro c ⟨q,h1,h2⟩ hc
   refine ⟨[q],fun q' hq'=>?_,fun O' hO'=>?_⟩
   ·simp only [bb] at hq'
    subst hq'; exact h1
   ·dsimp only; rw [hc]; exact h2 O' (hO' q (by simp))
  cases m with
  | heap=>
   simp only at he;exact fin _ (heap he) fun O'=>by simp only [am,hf,hg,hv,a9]
  | flat=>
   simp only at he;exact fin _ (pure .flat he) fun O'=>by simp only [am,hf,hg,hv,a9]
  | data=>
   simp only at he;exact fin _ (pure .data he) fun O'=>by simp only [am,hf,hg,hv,a9]
  | plain=>
   simp only at he;exact fin _ (pure .plain he) fun O'=>by simp only [am,hf,hg,hv,a9]
 | cut ar s x lo hi mx=>exact ⟨[],by simp [Gives],fun O' _=>by cases ar <;> exact he⟩
 | idxA ar s x j=>exact ⟨[],by simp [Gives],fun O' _=>by cases ar <;> exact he⟩
 | idx ar s x j=>exact ⟨[],by simp [Gives],fun O' _=>by cases ar <;> exact he⟩
 | len str x=>exact ⟨[],by simp [Gives],fun O' _=>by cases str <;> exact he⟩
 | _=>exact ⟨[],by simp [Gives],fun O' _=>he⟩
theorem Qa {O:ac} {np:Nat} {s s':St} {i:Ins} (he:mu O np s i=some s'):Rests O (fun O'=>mu O' np s i) s':=by
 unfold mu jb at he ⊢
 split at he
 ·rename_i hside
  simp only [hside,if_true]
  split at he
  ·rename_i hon
   obtain ⟨r,hr,e⟩:=a8.1 he;obtain ⟨qs,h1,h2⟩:=S6 hr;refine ⟨qs,h1,fun O' hO'=>?_⟩
   have q:=h2 O' hO'
   dsimp only at q ⊢
   rw [q,bo,e]
  ·exact Rests.const he
  ·cases he
 ·cases he
theorem Be {O:ac} {np:Nat}:∀{is:List Ins} {s s':St},du O np is s=some s'→Rests O (fun O'=>du O' np is s) s'
 | [],s,s',he=>Rests.const he
 | i::is,s,s',he=>by
  simp only [du] at he ⊢;obtain ⟨s1,h1,h2⟩:=a4.1 he;exact (Qa h1).bind (k:=fun x O'=>du O' np is x) (Be h2)
theorem C8 {O:ac} {g:ac→St→Option (Out×St)} (hg:∀s r,g O s=some r→Rests O (fun O'=>g O' s) r):∀{n:Nat} {s:St} {r:Out×St},sj (g O) n s=some r→Rests O (fun O'=>sj (g O') n s) r
 | 0,s,r,he=>by simp [sj] at he
 | n+1,s,r,he=>by
  simp only [sj] at he ⊢;obtain ⟨⟨o,s1⟩,h1,h2⟩:=a4.1 he;refine (hg s _ h1).bind (k:=fun x O'=>match x.1 with | .normal=>sj (g O') n x.2 | o=>some (o,x.2)) ?_
  cases o with
  | normal=>exact C8 hg h2
  | exit id=>exact Rests.const h2
  | ret=>exact Rests.const h2
theorem Mn {O:ac} {np n:Nat}:∀{c:Cd} {s:St} {r:Out×St},ch O np n c s=some r→Rests O (fun O'=>ch O' np n c s) r:=by
 intro c
 induction c with
 | skip=>intro s r he; exact Rests.const (by simpa only [ch] using he)
 | exit id=>intro s r he; exact Rests.const (by simpa only [ch] using he)
 | ret=>intro s r he; exact Rests.const (by simpa only [ch] using he)
 | region is ks=>
  intro s r he;simp only [ch] at he ⊢;obtain ⟨s1,h1,e⟩:=a8.1 he;obtain ⟨qs,g1,g2⟩:=Be h1;refine ⟨qs,g1,fun O' hO'=>?_⟩
  have q:=g2 O' hO'
  dsimp only at q ⊢
  rw [q,bo,e]
 | seq a b iha ihb=>
  intro s r he;simp only [ch] at he ⊢;obtain ⟨⟨o,s1⟩,h1,h2⟩:=a4.1 he;refine (iha h1).bind (k:=fun x O'=>match x.1 with | .normal=>ch O' np n b x.2 | o=>some (o,x.2)) ?_
  cases o with
  | normal=>exact ihb h2
  | exit id=>exact Rests.const h2
  | ret=>exact Rests.const h2
 | cond q a b iha ihb=>
  intro s r he;simp only [ch] at he ⊢
  split at he
  ·rename_i t ht
   cases t with
   | true=>
    obtain ⟨qs,g1,g2⟩:=iha (s:=s) (r:=r) (by simpa using he)
    refine ⟨qs,g1,fun O' hO'=>?_⟩
    have q:=g2 O' hO'
    dsimp only at q ⊢
    simp only [if_true];exact q
   | false=>
    obtain ⟨qs,g1,g2⟩:=ihb (s:=s) (r:=r) (by simpa using he)
    refine ⟨qs,g1,fun O' hO'=>?_⟩
    have q:=g2 O' hO'
    dsimp only at q ⊢
    simp only [ak,if_false];exact q
  ·cases he
 | block id c ihc=>
  intro s r he;simp only [ch] at he ⊢;obtain ⟨r1,h1,e⟩:=a8.1 he;obtain ⟨qs,g1,g2⟩:=ihc h1;refine ⟨qs,g1,fun O' hO'=>?_⟩
  have q:=g2 O' hO'
  dsimp only at q ⊢
  rw [q,bo,e]
 | loop c ihc=>
  intro s r he;simp only [ch] at he ⊢;exact C8 (g:=fun O'=>ch O' np n c) (fun s r h=>ihc h) he
theorem vb {O:ac} {n:Nat} {fn:Fn} {vs:List V} {bs:Heap} {ans:Ans} (he:run O n fn vs bs=some ans):Rests O (fun O'=>run O' n fn vs bs) ans:=by
 unfold run at he ⊢
 split at he
 ·rename_i hl
  simp only [hl,if_true];obtain ⟨r,h1,h2⟩:=a4.1 he;exact (Mn h1).bind (k:=fun r _=>match r.1 with
  | .exit _=>none
  | _=>if r.2.h.length=bs.length+fn.nblk then (td r.2 fn.results).bind fun rs=>
   let v:=i9 rs
   let own:=(oq v.refs).filter (bs.length≤·)
   (r.2.h.pick own).map fun nb=>
    (v.ren (fun i=>if i<bs.length then i else bs.length+own.idxOf i),r.2.h.take bs.length,nb)
   else none) (Rests.const h2)
 ·cases he
theorem v8 {g g':St→Option (Out×St)} (hg:∀s r,g s=some r→g' s=some r):∀{n n':Nat} {s:St} {r:Out×St},n≤n'→sj g n s=some r→sj g' n' s=some r
 | 0,n',s,r,_,he=>by simp [sj] at he
 | n+1,0,s,r,hl,he=>by omega
 | n+1,n'+1,s,r,hl,he=>by
  simp only [sj] at he ⊢;obtain ⟨⟨o,s1⟩,h1,h2⟩:=a4.1 he;rw [hg s _ h1,a9];cases o with
  | normal=>exact v8 hg (by omega) h2
  | exit id=>exact h2
  | ret=>exact h2
theorem kf {O:ac} {np n n':Nat} (hn:n≤n'):∀{c:Cd} {s:St} {r:Out×St},ch O np n c s=some r→ch O np n' c s=some r:=by
 intro c
 induction c with
 | skip=>intro s r he; simpa only [ch] using he
 | exit id=>intro s r he; simpa only [ch] using he
 | ret=>intro s r he; simpa only [ch] using he
 | region is ks=>intro s r he; simpa only [ch] using he
 | seq a b iha ihb=>
  intro s r he;simp only [ch] at he ⊢;obtain ⟨⟨o,s1⟩,h1,h2⟩:=a4.1 he;rw [iha h1,a9];cases o with
  | normal=>exact ihb h2
  | exit id=>exact h2
  | ret=>exact h2
 | cond q a b iha ihb=>
  intro s r he;simp only [ch] at he ⊢
  split at he
  ·rename_i t ht
   cases t with
   | true=>simpa using iha (s:=s) (r:=r) (by simpa using he)
   | false=>simpa using ihb (s:=s) (r:=r) (by simpa using he)
  ·cases he
 | block id c ihc=>
  intro s r he;simp only [ch] at he ⊢;obtain ⟨r1,h1,e⟩:=a8.1 he;rw [ihc h1,bo,e]
 | loop c ihc=>
  intro s r he;simp only [ch] at he ⊢;exact v8 (fun s r h=>ihc h) hn he
theorem Hv {O:ac} {n n':Nat} (hn:n≤n') {fn:Fn} {vs:List V} {bs:Heap} {ans:Ans} (he:run O n fn vs bs=some ans):run O n' fn vs bs=some ans:=by
 unfold run at he ⊢
 split at he
 ·rename_i hl
  simp only [hl,if_true];obtain ⟨r,h1,h2⟩:=a4.1 he;rw [kf hn h1,a9];exact h2
 ·cases he
section
variable {T:Nat→Option Fn} {A:ac}
theorem D5:∀{k:Nat} {f:Nat} {vs:List V} {bs:Heap} {ans:Ans},ov T A k f vs bs=some ans→ov T A (k+1) f vs bs=some ans
 | 0,f,vs,bs,ans,h=>by simp [ov] at h
 | k+1,f,vs,bs,ans,h=>by
  rw [ov] at h ⊢
  dsimp only at h ⊢
  split at h
  ·rename_i fn hfn
   obtain ⟨qs,h1,h2⟩:=vb h;exact Hv (Nat.le_succ k) (h2 _ fun q hq=>D5 (h1 q hq))
  ·exact h
theorem qt {k k':Nat} (hk:k≤k') {f:Nat} {vs:List V} {bs:Heap} {ans:Ans} (h:ov T A k f vs bs=some ans):ov T A k' f vs bs=some ans:=by
 induction hk with
 | refl=>exact h
 | step _ ih=>exact D5 ih
noncomputable def den (T:Nat→Option Fn) (A:ac):ac:=fun f vs bs=>by
 classical
 exact if h:∃ans,∃k,ov T A k f vs bs=some ans then some (Classical.choose h) else none
theorem Bb {f:Nat} {vs:List V} {bs:Heap} {ans:Ans}:den T A f vs bs=some ans↔∃k,ov T A k f vs bs=some ans:=by
 unfold den;constructor
 ·intro h
  split at h
  ·rename_i hx
   obtain rfl:=ao h;exact c6 hx
  ·cases h
 ·rintro ⟨k,hk⟩
  have hx:∃ans,∃k,ov T A k f vs bs=some ans:=⟨ans,k,hk⟩;rw [dif_pos hx];obtain ⟨k',hk'⟩:=c6 hx;have h1:=qt (lr k k') hk;have h2:=qt (io k k') hk';rw [h1] at h2;exact h2.symm
theorem J6 {qs:List Ds} (h:Gives (den T A) qs):∃k,Gives (ov T A k) qs:=by
 induction qs with
 | nil=>exact ⟨0,by simp [Gives]⟩
 | cons q qs ih=>
  obtain ⟨k,hk⟩:=ih fun q' hq'=>h q' (by simp [hq'])
  obtain ⟨k',hk'⟩:=Bb.1 (h q (by simp))
  refine ⟨max k k',fun q' hq'=>?_⟩
  rcases cr.1 hq' with rfl | hq'
  ·exact qt (io k k') hk'
  ·exact qt (lr k k') (hk q' hq')
theorem Gj {f:Nat} {fn:Fn} (hT:T f=some fn) {n:Nat} {vs:List V} {bs:Heap} {ans:Ans} (h:run (den T A) n fn vs bs=some ans):den T A f vs bs=some ans:=by
 obtain ⟨qs,h1,h2⟩:=vb h;obtain ⟨k,hk⟩:=J6 h1;refine Bb.2 ⟨max k n+1,?_⟩;simp only [ov,hT];exact Hv (io k n) (h2 _ fun q hq=>qt (lr k n) (hk q hq))
theorem Sp {f:Nat} (hT:T f=none) {vs:List V} {bs:Heap} {ans:Ans} (h:A f vs bs=some ans):den T A f vs bs=some ans:=
 Bb.2 ⟨1,by simp only [ov,hT]; exact h⟩
theorem Q0 {P:Program} {num:Nat→Nat} (hT:∀f fn,T f=some fn→∃g,P.funcs[num f]? = some g∧Al P num fn g=true) (hA:ja P num A) (hm:P.follows .mixedOrders=true):ja P num (den T A):=by
 intro f vs bs ans h;obtain ⟨k,hk⟩:=Bb.1 h;exact Ad hT hA hm k f vs bs ans hk
end
noncomputable def dn (O:ac) (np:Nat) (c:Cd) (s:St):Option (Out×St):=by
 classical
 exact if h:∃r,∃n,ch O np n c s=some r then some (Classical.choose h) else none
theorem ig {O:ac} {np:Nat} {c:Cd} {s:St} {r:Out×St}:dn O np c s=some r↔∃n,ch O np n c s=some r:=by
 unfold dn;constructor
 ·intro h
  split at h
  ·rename_i hx
   obtain rfl:=ao h;exact c6 hx
  ·cases h
 ·rintro ⟨k,hk⟩
  have hx:∃r,∃n,ch O np n c s=some r:=⟨r,k,hk⟩;rw [dif_pos hx];obtain ⟨k',hk'⟩:=c6 hx;have h1:=kf (lr k k') hk;have h2:=kf (io k k') hk';rw [h1] at h2;exact h2.symm
section
variable {O:ac} {np:Nat} {s:St}
theorem Cw {α:Type} {x y:Option α} (h:∀r,x=some r↔y=some r):x=y:=by
 cases x with
 | none=>
  cases y with
  | none=>rfl
  | some b=>exact absurd ((h b).2 rfl) (by simp)
 | some a=>exact ((h a).1 rfl).symm
theorem Wv:dn O np .skip s=some (.normal,s):=ig.2 ⟨0,rfl⟩
theorem a06:dn O np .ret s=some (.ret,s):=ig.2 ⟨0,rfl⟩
theorem W8 (id:Nat):dn O np (.exit id) s=some (.exit id,s):=ig.2 ⟨0,rfl⟩
theorem Pz (is:List Ins) (ks:List Nat):dn O np (.region is ks) s=(du O np is s).map fun s'=>(.normal,⟨s'.e.keep ks,og (s'.e.keep ks) np 0 s'.h⟩):=by
 refine Cw fun r=>?_
 rw [ig];simp only [ch];exact ⟨fun ⟨_,h⟩=>h,fun h=>⟨0,h⟩⟩
def andThen (k:St→Option (Out×St)) (r:Out×St):Option (Out×St):=
 match r.1 with
 | .normal=>k r.2
 | o=>some (o,r.2)
theorem Ys (a b:Cd):dn O np (.seq a b) s=(dn O np a s).bind (andThen (dn O np b)):=by
 refine Cw fun r=>?_
 rw [ig];simp only [ch];constructor
 ·rintro ⟨n,h⟩
  obtain ⟨⟨o,s1⟩,h1,h2⟩:=a4.1 h;rw [ig.2 ⟨n,h1⟩,a9];cases o with
  | normal=>exact ig.2 ⟨n,h2⟩
  | exit id=>exact h2
  | ret=>exact h2
 ·intro h
  obtain ⟨⟨o,s1⟩,h1,h2⟩:=a4.1 h;obtain ⟨n,h1⟩:=ig.1 h1;cases o with
  | normal=>
   obtain ⟨m,h2⟩:=ig.1 h2;refine ⟨max n m,?_⟩;rw [kf (lr n m) h1,a9];exact kf (io n m) h2
  | exit id=>exact ⟨n,by rw [h1,a9]; exact h2⟩
  | ret=>exact ⟨n,by rw [h1,a9]; exact h2⟩
theorem af {q:Arg} (a b:Cd) {t:Bool} (h:s.e.arg q=some (.d (.bool t))):dn O np (.cond q a b) s=if t then dn O np a s else dn O np b s:=by
 refine Cw fun r=>?_
 rw [ig];simp only [ch,h];cases t <;> simp [ig]
def O7 (id:Nat) (r:Out×St):Out×St:=
 match r.1 with
 | .exit i=>if i=id then (.normal,r.2) else r
 | _=>r
theorem V3 (id:Nat) (c:Cd):dn O np (.block id c) s=(dn O np c s).map (O7 id):=by
 refine Cw fun r=>?_
 rw [ig];simp only [ch];constructor
 ·rintro ⟨n,h⟩
  obtain ⟨r1,h1,e⟩:=a8.1 h;rw [ig.2 ⟨n,h1⟩,bo];exact congrArg some e
 ·intro h
  obtain ⟨r1,h1,e⟩:=a8.1 h;obtain ⟨n,h1⟩:=ig.1 h1;exact ⟨n,by rw [h1,bo]; exact congrArg some e⟩
theorem Gn (c:Cd):dn O np (.loop c) s=(dn O np c s).bind (andThen (dn O np (.loop c))):=by
 refine Cw fun r=>?_
 rw [ig];simp only [ch];constructor
 ·rintro ⟨n,h⟩
  cases n with
  | zero=>simp [sj] at h
  | succ n=>
   simp only [sj] at h;obtain ⟨⟨o,s1⟩,h1,h2⟩:=a4.1 h;rw [ig.2 ⟨n+1,h1⟩,a9];cases o with
   | normal=>
    refine ig.2 ⟨n+1,?_⟩;simp only [ch];exact v8 (fun _ _ g=>g) (Nat.le_succ n) h2
   | exit id=>exact h2
   | ret=>exact h2
 ·intro h
  obtain ⟨⟨o,s1⟩,h1,h2⟩:=a4.1 h;obtain ⟨n,h1⟩:=ig.1 h1;cases o with
  | normal=>
   obtain ⟨m,h2⟩:=ig.1 h2;simp only [ch] at h2;refine ⟨max n m+1,?_⟩;simp only [sj];rw [kf (show n≤max n m+1 by omega) h1,a9]
   exact v8 (fun _ _ g=>kf (show m≤max n m+1 by omega) g) (io n m) h2
  | exit id=>exact ⟨n+1,by simp only [sj]; rw [kf (Nat.le_succ n) h1,a9]; exact h2⟩
  | ret=>exact ⟨n+1,by simp only [sj]; rw [kf (Nat.le_succ n) h1,a9]; exact h2⟩
end
def fin (fn:Fn) (np:Nat) (r:Out×St):Option Ans:=
 match r.1 with
 | .exit _=>none
 | _=>if r.2.h.length=np+fn.nblk then (td r.2 fn.results).bind fun rs=>
  let v:=i9 rs
  let own:=(oq v.refs).filter (np≤·)
  (r.2.h.pick own).map fun nb=>
   (v.ren (fun i=>if i<np then i else np+own.idxOf i),r.2.h.take np,nb)
  else none
theorem ri {T:Nat→Option Fn} {A:ac} {f:Nat} {fn:Fn} (hT:T f=some fn) {vs:List V} {bs:Heap} {ans:Ans} (hl:vs.length=fn.nparams)
 (h:(dn (den T A) bs.length fn.body ⟨params 0 vs,bs++List.replicate fn.nblk .hole⟩).bind (fin fn bs.length)=some ans):den T A f vs bs=some ans:=by
 obtain ⟨r,h1,h2⟩:=a4.1 h;obtain ⟨n,h1⟩:=ig.1 h1;refine Gj hT (n:=n) ?_;unfold run;rw [if_pos hl,h1,a9];exact h2
end Pe

namespace Pe
open Go
def a4w (np:Nat) (ks:List Nat) (s:St):Out×St:=(.normal,⟨s.e.keep ks,og (s.e.keep ks) np 0 s.h⟩)
@[simp] theorem a54 (np:Nat) (ks:List Nat) (e:Env) (h:Heap):a4w np ks ⟨e,h⟩=(.normal,⟨e.keep ks,og (e.keep ks) np 0 h⟩):=rfl
@[simp] theorem a6u {O:ac} {np:Nat} {s:St} (is:List Ins) (ks:List Nat):dn O np (.region is ks) s=(du O np is s).map (a4w np ks):=Pz is ks
def a47 (e:Env) (i:Ins) (r:V×Heap):St:=⟨(e.kill (i.op.kill e r.1)).putO i.dst r.1,r.2⟩
@[simp] theorem a65 (e:Env) (i:Ins) (v:V) (h:Heap):a47 e i (v,h)=⟨(e.kill (i.op.kill e v)).putO i.dst v,h⟩:=rfl
def Y2 (O:ac) (np:Nat) (s:St) (i:Ins):Option Bool→Option St
 | some true=>(am O np s.e s.h i.op).map (a47 s.e i)
 | some false=>some ⟨s.e.putO i.dst (.tup []),s.h⟩
 | none=>none
@[simp] theorem a04 (O:ac) (np:Nat) (s:St) (i:Ins):jb O np s i=Y2 O np s i (i.on s.e):=rfl
section
variable {O:ac} {np:Nat} {e:Env} {h:Heap}
def kNt (x:D):Option D:=if x.isTup then none else some x
def kEl (p:List Nat) (b:Blk):Option (Sh×List D):=b.elems p
def Aq (p:List Nat) (b:Blk):Option D:=b.get p
def slD (off len:Nat):Option (Sh×List D)→Option D
 | some (s,cs)=>if off+len≤cs.length then some (.sl s ((cs.drop off).take len)) else none
 | none=>none
@[simp] theorem a76 (x:D):kNt x=if x.isTup then none else some x:=rfl
@[simp] theorem a6t (p:List Nat) (b:Blk):kEl p b=b.elems p:=rfl
@[simp] theorem a5s (p:List Nat) (b:Blk):Aq p b=b.get p:=rfl
@[simp] theorem a3z (off len:Nat) (s:Sh) (cs:List D):slD off len (some (s,cs))=if off+len≤cs.length then some (.sl s ((cs.drop off).take len)) else none:=rfl
@[simp] theorem a6c (v:V):tq h v=(toD h v).bind kNt:=rfl
@[simp] theorem a7u (x:D):toD h (.d x)=some x:=by simp [toD]
@[simp] theorem a6o (i:Nat) (p:List Nat) (off len:Nat) (cap:Option Nat):toD h (.sl i p off len cap)=slD off len ((h[i]?).bind (kEl p)):=by
 have:(kEl p)=(Blk.elems · p):=rfl
 rw [this];simp only [toD];cases (h[i]?).bind (Blk.elems · p) <;> rfl
@[simp] theorem a60 (i:Nat) (p:List Nat):toD h (.ptr i p)=((h[i]?).bind (Aq p)).map .ip:=by simp only [toD]; rfl
def kFn (h:Heap) (f:Nat) (caps:List V) (a:List D):Option D:=(kl h caps).map (.fn f a)
@[simp] theorem a6i (f:Nat) (caps:List V) (a:List D):kFn h f caps a=(kl h caps).map (.fn f a):=rfl
@[simp] theorem a6z (f:Nat) (first caps:List V):toD h (.fn f first caps)=(kl h first).bind (kFn h f caps):=by simp only [toD]; rfl
@[simp] theorem a62 (vs:List V):toD h (.tup vs)=(kl h vs).map .tup:=by simp only [toD]
def kDs (h:Heap) (vs:List V) (x:D):Option (List D):=if x.isTup then none else (kl h vs).map (List.cons x)
@[simp] theorem Yf (vs:List V) (x:D):kDs h vs x=if x.isTup then none else (kl h vs).map (List.cons x):=rfl
@[simp] theorem a3k:kl h []=some []:=by simp [kl]
@[simp] theorem Rp (v:V) (vs:List V):kl h (v::vs)=(toD h v).bind (kDs h vs):=by simp only [kl]; rfl
def Y9 (e:Env) (as:List Arg) (v:V):Option (List V):=(e.args as).map (List.cons v)
@[simp] theorem a3c (as:List Arg) (v:V):Y9 e as v=(e.args as).map (List.cons v):=rfl
@[simp] theorem a2b:e.args []=some []:=rfl
@[simp] theorem a16 (a:Arg) (as:List Arg):e.args (a::as)=(e.arg a).bind (Y9 e as):=rfl
def kMv (h:Heap) (v:V):V×Heap:=(v,h)
@[simp] theorem a7c (v:V):kMv h v=(v,h):=rfl
@[simp] theorem a7q (x:Arg):am O np e h (.mv x)=(e.arg x).map (kMv h):=rfl
def a08 (h:Heap):V→Option (V×Heap)
 | .d (.ip y)=>some (.d (.ip y),h)
 | .ptr i p=>some (.ptr i p,h)
 | _=>none
@[simp] theorem a7g (y:D):a08 h (.d (.ip y))=some (.d (.ip y),h):=rfl
@[simp] theorem a7h (i:Nat) (p:List Nat):a08 h (.ptr i p)=some (.ptr i p,h):=rfl
@[simp] theorem a7o (x:Arg):am O np e h (.chk x)=(e.arg x).bind (a08 h):=by
 simp only [am];cases e.arg x with
 | none=>rfl
 | some v=>cases v <;> try rfl
           rename_i d; cases d <;> rfl
def Y0 (e:Env) (h:Heap) (a b:Arg):V→Option (V×Heap)
 | .d (.bool t)=>(e.arg (if t then a else b)).map (kMv h)
 | _=>none
@[simp] theorem a53 (a b:Arg) (t:Bool):Y0 e h a b (.d (.bool t))=(e.arg (if t then a else b)).map (kMv h):=rfl
@[simp] theorem a4y (c a b:Arg):am O np e h (.pick c a b)=(e.arg c).bind (Y0 e h a b):=by
 simp only [am];cases e.arg c with
 | none=>rfl
 | some v=>cases v <;> try rfl
           rename_i d; cases d <;> rfl
def U2 (i:Nat) (d:D) (h:Heap):Option (V×Heap):=(ee h i (.box false d)).map (Prod.mk (.ptr i []))
@[simp] theorem a4o (i:Nat) (d:D):U2 i d h=(ee h i (.box false d)).map (Prod.mk (.ptr i [])):=rfl
def Tn (np:Nat) (h:Heap) (fz:Bool) (i:Nat) (rs:List Nat) (d:D):Option (V×Heap):=(freezeIf fz h rs).bind (U2 (np+i) d)
@[simp] theorem a3p (fz:Bool) (i:Nat) (rs:List Nat) (d:D):Tn np h fz i rs d=(freezeIf fz h rs).bind (U2 (np+i) d):=rfl
def a2w (np:Nat) (h:Heap) (fz:Bool) (i:Nat) (v:V):Option (V×Heap):=(tq h v).bind (Tn np h fz i v.refs)
@[simp] theorem a4z (fz:Bool) (i:Nat) (v:V):a2w np h fz i v=(tq h v).bind (Tn np h fz i v.refs):=rfl
@[simp] theorem a6x (fz:Bool) (i:Nat) (x:Arg):am O np e h (.box fz i x)=(e.arg x).bind (a2w np h fz i):=rfl
def D7 (h:Heap) (s:Sh) (x:D):Option (V×Heap):=if Sh.beq x.sh s then some (.d x,h) else none
@[simp] theorem a14 (s:Sh) (x:D):D7 h s x=if Sh.beq x.sh s then some (.d x,h) else none:=rfl
def Sj (h:Heap) (s:Sh):V→Option (V×Heap)
 | .d (.ip x)=>D7 h s x
 | .ptr i p=>((h[i]?).bind (Aq p)).bind (D7 h s)
 | _=>none
@[simp] theorem a5h (s:Sh) (x:D):Sj h s (.d (.ip x))=D7 h s x:=rfl
@[simp] theorem a5l (s:Sh) (i:Nat) (p:List Nat):Sj h s (.ptr i p)=((h[i]?).bind (Aq p)).bind (D7 h s):=rfl
@[simp] theorem a5e (s:Sh) (x:Arg):am O np e h (.load s x)=(e.arg x).bind (Sj h s):=by
 simp only [am];cases e.arg x with
 | none=>rfl
 | some v=>cases v <;> try rfl
           rename_i d; cases d <;> rfl
def X6 (h:Heap) (o:BinOp):V→V→Option (V×Heap)
 | .d a,.d b=>(rk o a b).map fun r=>(.d r,h)
 | _,_=>none
def kD (h:Heap) (r:D):V×Heap:=(.d r,h)
@[simp] theorem a7v (r:D):kD h r=(.d r,h):=rfl
@[simp] theorem a72 (o:BinOp) (a b:D):X6 h o (.d a) (.d b)=(rk o a b).map (kD h):=rfl
def O9 (e:Env) (h:Heap) (o:BinOp) (y:Arg) (v:V):Option (V×Heap):=(e.arg y).bind (X6 h o v)
@[simp] theorem a2s (o:BinOp) (y:Arg) (v:V):O9 e h o y v=(e.arg y).bind (X6 h o v):=rfl
@[simp] theorem a6p (o:BinOp) (x y:Arg):am O np e h (.bin o x y)=(e.arg x).bind (O9 e h o y):=by
 simp only [am];cases e.arg x with
 | none=>rfl
 | some v=>
  cases hy:e.arg y with
  | none=>cases v <;> simp [O9,hy]
  | some w=>cases v <;> cases w <;> simp [O9,hy,X6]
theorem two {α:Type} {x y:Option V} {f:V→V→Option α} {g:Option α} (h1:∀v w,x=some v→y=some w→g=f v w) (h2:x=none∨y=none→g=none):g=x.bind fun v=>y.bind (f v):=by
 cases hx:x with
 | none=>exact h2 (.inl hx)
 | some v=>
  cases hy:y with
  | none=>exact h2 (.inr hy)
  | some w=>exact h1 v w hx hy
def kUn (h:Heap) (o:UnOp):V→Option (V×Heap)
 | .d a=>(unD o a).map (kD h)
 | _=>none
@[simp] theorem a7x (o:UnOp) (a:D):kUn h o (.d a)=(unD o a).map (kD h):=rfl
@[simp] theorem a7r (o:UnOp) (x:Arg):am O np e h (.un o x)=(e.arg x).bind (kUn h o):=by
 simp only [am];cases e.arg x with
 | none=>rfl
 | some v=>cases v <;> rfl
def Y5 (h:Heap) (k:IntKind):V→Option (V×Heap)
 | .d (.int _ n)=>some (.d (.int k (k.wrap n)),h)
 | _=>none
@[simp] theorem a64 (k q:IntKind) (n:Int):Y5 h k (.d (.int q n))=some (.d (.int k (k.wrap n)),h):=rfl
@[simp] theorem a5z (k:IntKind) (x:Arg):am O np e h (.conv k x)=(e.arg x).bind (Y5 h k):=by
 simp only [am];cases e.arg x with
 | none=>rfl
 | some v=>cases v <;> try rfl
           rename_i d; cases d <;> rfl
def a3o (h:Heap) (ss:List Sh) (j:Nat):V→Option (V×Heap)
 | .d (.st ts cs)=>if Sh.beqs ts ss then (cs[j]?).map (kD h) else none
 | _=>none
@[simp] theorem a7k (ss ts:List Sh) (j:Nat) (cs:List D):a3o h ss j (.d (.st ts cs))=if Sh.beqs ts ss then (cs[j]?).map (kD h) else none:=rfl
@[simp] theorem a75 (ss:List Sh) (x:Arg) (j:Nat):am O np e h (.fld ss x j)=(e.arg x).bind (a3o h ss j):=by
 simp only [am];cases e.arg x with
 | none=>rfl
 | some v=>cases v <;> try rfl
           rename_i d; cases d <;> rfl
def kIp (h:Heap) (c:D):V×Heap:=(.d (.ip c),h)
@[simp] theorem a6l (c:D):kIp h c=(.d (.ip c),h):=rfl
def Nc (h:Heap) (ss:List Sh) (i:Nat) (p:List Nat) (y:D):Option (V×Heap):=if Sh.beq y.sh (.st ss) then some (.ptr i p,h) else none
@[simp] theorem a1j (ss:List Sh) (i:Nat) (p:List Nat) (y:D):Nc h ss i p y=if Sh.beq y.sh (.st ss) then some (.ptr i p,h) else none:=rfl
def S9 (h:Heap) (ss:List Sh) (j:Nat):V→Option (V×Heap)
 | .ptr i p=>((h[i]?).bind (Aq p)).bind (Nc h ss i (p++[j]))
 | .d (.ip (.st ts cs))=>if Sh.beqs ts ss then (cs[j]?).map (kIp h) else none
 | _=>none
@[simp] theorem a5u (ss:List Sh) (j i:Nat) (p:List Nat):S9 h ss j (.ptr i p)=((h[i]?).bind (Aq p)).bind (Nc h ss i (p++[j])):=rfl
@[simp] theorem a55 (ss ts:List Sh) (j:Nat) (cs:List D):S9 h ss j (.d (.ip (.st ts cs)))=if Sh.beqs ts ss then (cs[j]?).map (kIp h) else none:=rfl
@[simp] theorem a6d (ss:List Sh) (x:Arg) (j:Nat):am O np e h (.fldA ss x j)=(e.arg x).bind (S9 h ss j):=by
 simp only [am];cases e.arg x with
 | none=>rfl
 | some v=>cases v <;> try rfl
           rename_i d; cases d <;> try rfl
           rename_i d; cases d <;> rfl
def Yq (h:Heap) (j:Nat):V→Option (V×Heap)
 | .d (.tup vs)=>(vs[j]?).map (kD h)
 | .tup vs=>(vs[j]?).map (kMv h)
 | _=>none
@[simp] theorem a7f (j:Nat) (vs:List D):Yq h j (.d (.tup vs))=(vs[j]?).map (kD h):=rfl
@[simp] theorem a6j (j:Nat) (vs:List V):Yq h j (.tup vs)=(vs[j]?).map (kMv h):=rfl
@[simp] theorem a6v (x:Arg) (j:Nat):am O np e h (.ext x j)=(e.arg x).bind (Yq h j):=by
 simp only [am];cases e.arg x with
 | none=>rfl
 | some v=>cases v <;> try rfl
           rename_i d; cases d <;> rfl
def W3 (h:Heap):Bool→V→Option (V×Heap)
 | false,.d (.sl _ cs)=>some (.d (.int .i64 cs.length),h)
 | false,.sl _ _ _ n _=>some (.d (.int .i64 n),h)
 | true,.d (.str b)=>some (.d (.int .i64 b.size),h)
 | _,_=>none
@[simp] theorem a6w (s:Sh) (cs:List D):W3 h false (.d (.sl s cs))=some (.d (.int .i64 cs.length),h):=rfl
@[simp] theorem a6q (i:Nat) (p:List Nat) (off n:Nat) (cap:Option Nat):W3 h false (.sl i p off n cap)=some (.d (.int .i64 n),h):=rfl
@[simp] theorem a6s (b:ByteArray):W3 h true (.d (.str b))=some (.d (.int .i64 b.size),h):=rfl
@[simp] theorem a6y (str:Bool) (x:Arg):am O np e h (.len str x)=(e.arg x).bind (W3 h str):=by
 cases str <;> simp only [am]
 ·cases e.arg x with
  | none=>rfl
  | some v=>cases v <;> try rfl
            rename_i d; cases d <;> rfl
 ·cases e.arg x with
  | none=>rfl
  | some v=>cases v <;> try rfl
            rename_i d; cases d <;> rfl
def xz (O:ac) (np:Nat) (h:Heap) (m:Mode) (news:List Nat) (g:Nat×List V×List V) (vs:List V):Option (V×Heap):=
 match m with
 | .heap=>jh O np news h g.1 (g.2.1++vs++g.2.2)
 | _=>f9 O m h g.1 (g.2.1++vs++g.2.2)
def Gg (O:ac) (np:Nat) (e:Env) (h:Heap) (m:Mode) (news:List Nat) (as:List Arg) (g:Nat×List V×List V):Option (V×Heap):=(e.args as).bind (xz O np h m news g)
@[simp] theorem a1t (m:Mode) (news:List Nat) (as:List Arg) (g:Nat×List V×List V):Gg O np e h m news as g=(e.args as).bind (xz O np h m news g):=rfl
def Lz (O:ac) (np:Nat) (e:Env) (h:Heap) (m:Mode) (news:List Nat) (as:List Arg) (fv:V):Option (V×Heap):=(callee fv).bind (Gg O np e h m news as)
@[simp] theorem a1n (m:Mode) (news:List Nat) (as:List Arg) (fv:V):Lz O np e h m news as fv=(callee fv).bind (Gg O np e h m news as):=rfl
@[simp] theorem a6a (m:Mode) (news:List Nat) (f:Arg) (as:List Arg):am O np e h (.call m news f as)=(e.arg f).bind (Lz O np e h m news as):=by
 simp only [am];cases e.arg f with
 | none=>rfl
 | some fv=>
  simp only [a9,Lz];cases callee fv with
  | none=>rfl
  | some g=>
   simp only [a9,Gg];cases e.args as with
   | none=>rfl
   | some vs=>cases m <;> rfl
def Qy (m:Mode) (h:Heap) (rs:List Nat) (x:D):Option (V×Heap):=
 match m with
 | .flat=>if x.flat then some (.d x,h) else none
 | .plain=>if rs.isEmpty then some (.d x,h) else none
 | _=>some (.d x,freeze h rs)
@[simp] theorem yw (rs:List Nat) (x:D):Qy .flat h rs x=if x.flat then some (.d x,h) else none:=rfl
@[simp] theorem a0n (rs:List Nat) (x:D):Qy .plain h rs x=if rs.isEmpty then some (.d x,h) else none:=rfl
@[simp] theorem a23 (rs:List Nat) (x:D):Qy .data h rs x=some (.d x,freeze h rs):=rfl
def a0v (m:Mode) (h:Heap) (rs:List Nat):Ans→Option (V×Heap)
 | (v,_,nb)=>(toD nb v).bind (Qy m h rs)
@[simp] theorem a5o (m:Mode) (rs:List Nat) (v:V) (bs nb:Heap):a0v m h rs (v,bs,nb)=(toD nb v).bind (Qy m h rs):=rfl
def M9 (O:ac) (m:Mode) (h:Heap) (f:Nat) (rs:List Nat) (ds:List D):Option (V×Heap):=(O f (ds.map .d) []).bind (a0v m h rs)
def a0u:Ans→Option D
 | (v,_,nb)=>toD nb v
@[simp] theorem a5t (v:V) (bs nb:Heap):a0u (v,bs,nb)=toD nb v:=rfl
def ask (O:ac) (f:Nat) (ds:List D):Option D:=(O f (ds.map .d) []).bind a0u
@[simp] theorem D6 (m:Mode) (f:Nat) (rs:List Nat) (ds:List D):M9 O m h f rs ds=(ask O f ds).bind (Qy m h rs):=by
 unfold M9 ask;cases O f (ds.map .d) [] with
 | none=>rfl
 | some r=>obtain ⟨v,bs,nb⟩:=r; rfl
theorem ti (m:Mode) (f:Nat) (vs:List V):f9 O m h f vs=(kl h vs).bind (M9 O m h f (V.refss vs)):=by
 unfold f9;cases kl h vs with
 | none=>rfl
 | some ds=>
  simp only [a9,M9];cases O f (ds.map .d) [] with
  | none=>rfl
  | some r=>
   obtain ⟨v,bs,nb⟩:=r;simp only [a9,a0v];cases toD nb v with
   | none=>rfl
   | some x=>cases m <;> rfl
@[simp] theorem wx (news:List Nat) (f:Nat) (a c vs:List V):xz O np h .flat news (f,a,c) vs=(kl h (a++vs++c)).bind (M9 O .flat h f (V.refss (a++vs++c))):=by
 show f9 O .flat h f (a++vs++c)=_;exact ti _ _ _
@[simp] theorem Xu (news:List Nat) (f:Nat) (a c vs:List V):xz O np h .plain news (f,a,c) vs=(kl h (a++vs++c)).bind (M9 O .plain h f (V.refss (a++vs++c))):=by
 show f9 O .plain h f (a++vs++c)=_;exact ti _ _ _
@[simp] theorem a09 (news:List Nat) (f:Nat) (a c vs:List V):xz O np h .data news (f,a,c) vs=(kl h (a++vs++c)).bind (M9 O .data h f (V.refss (a++vs++c))):=by
 show f9 O .data h f (a++vs++c)=_;exact ti _ _ _
@[simp] theorem Yw (news:List Nat) (f:Nat) (a c vs:List V):xz O np h .heap news (f,a,c) vs=jh O np news h f (a++vs++c):=rfl
def a07 (h:Heap) (i:Nat) (b:Blk):V×Heap:=(.tup [],h.set i b)
@[simp] theorem a5b (i:Nat) (b:Blk):a07 h i b=(.tup [],h.set i b):=rfl
def a0k (h:Heap) (i:Nat) (p:List Nat) (d:D) (b:Blk):Option (V×Heap):=(b.set p d).map (a07 h i)
@[simp] theorem a5m (i:Nat) (p:List Nat) (d:D) (b:Blk):a0k h i p d b=(b.set p d).map (a07 h i):=rfl
def H7 (s:Sh) (d:D) (h:Heap):V→Option (V×Heap)
 | .ptr i p=>if Sh.beq d.sh s then (h[i]?).bind (a0k h i p d) else none
 | _=>none
@[simp] theorem a22 (s:Sh) (d:D) (i:Nat) (p:List Nat):H7 s d h (.ptr i p)=if Sh.beq d.sh s then (h[i]?).bind (a0k h i p d) else none:=rfl
def Ar (e:Env) (s:Sh) (p:Arg) (d:D) (h:Heap):Option (V×Heap):=(e.arg p).bind (H7 s d h)
@[simp] theorem a11 (s:Sh) (p:Arg) (d:D):Ar e s p d h=(e.arg p).bind (H7 s d h):=rfl
def B6 (e:Env) (h:Heap) (fz:Bool) (s:Sh) (p:Arg) (rs:List Nat) (d:D):Option (V×Heap):=(freezeIf fz h rs).bind (Ar e s p d)
@[simp] theorem Ye (fz:Bool) (s:Sh) (p:Arg) (rs:List Nat) (d:D):B6 e h fz s p rs d=(freezeIf fz h rs).bind (Ar e s p d):=rfl
def Mp (e:Env) (h:Heap) (fz:Bool) (s:Sh) (p:Arg) (v:V):Option (V×Heap):=(tq h v).bind (B6 e h fz s p v.refs)
@[simp] theorem a1x (fz:Bool) (s:Sh) (p:Arg) (v:V):Mp e h fz s p v=(tq h v).bind (B6 e h fz s p v.refs):=rfl
@[simp] theorem a2q (fz:Bool) (s:Sh) (p x:Arg):am O np e h (.store fz s p x)=(e.arg x).bind (Mp e h fz s p):=by
 simp only [am];cases e.arg x with
 | none=>rfl
 | some v=>
  simp only [a9,Mp];cases tq h v with
  | none=>rfl
  | some d=>
   simp only [a9,B6];cases freezeIf fz h v.refs with
   | none=>rfl
   | some h'=>
    simp only [a9,Ar];cases e.arg p with
    | none=>rfl
    | some w=>cases w <;> rfl
def Ln (h:Heap) (s:Sh) (n:Nat) (i:Nat) (_p:List Nat) (k:Nat) (pp:List Nat) (q:Sh×List D):Option (V×Heap):=if Sh.beq q.1 s∧k<n then some (.ptr i pp,h) else none
@[simp] theorem a1r (s:Sh) (n i:Nat) (p:List Nat) (k:Nat) (pp:List Nat) (t:Sh) (cs:List D):Ln h s n i p k pp (t,cs)=if Sh.beq t s∧k<n then some (.ptr i pp,h) else none:=rfl
def Pj (h:Heap) (s:Sh):V→Nat→Option (V×Heap)
 | .sl i p off n _,k=>((h[i]?).bind (kEl p)).bind (Ln h s n i p k (p++[off+k]))
 | .d (.sl t cs),k=>if Sh.beq t s then (cs[k]?).map (kIp h) else none
 | _,_=>none
@[simp] theorem a5k (s:Sh) (i:Nat) (p:List Nat) (off n:Nat) (cap:Option Nat) (k:Nat):Pj h s (.sl i p off n cap) k=((h[i]?).bind (kEl p)).bind (Ln h s n i p k (p++[off+k])):=rfl
@[simp] theorem a5q (s t:Sh) (cs:List D) (k:Nat):Pj h s (.d (.sl t cs)) k=if Sh.beq t s then (cs[k]?).map (kIp h) else none:=rfl
def Ld (e:Env) (h:Heap) (s:Sh) (j:Arg) (v:V):Option (V×Heap):=((e.arg j).bind V.nat?).bind (Pj h s v)
@[simp] theorem a1q (s:Sh) (j:Arg) (v:V):Ld e h s j v=((e.arg j).bind V.nat?).bind (Pj h s v):=rfl
@[simp] theorem a57 (s:Sh) (x j:Arg):am O np e h (.idxA none s x j)=(e.arg x).bind (Ld e h s j):=by
 simp only [am];cases e.arg x with
 | none=>rfl
 | some v=>
  simp only [a9,Ld];cases (e.arg j).bind V.nat? with
  | none=>cases v <;> try rfl
          rename_i d; cases d <;> rfl
  | some k=>cases v <;> try rfl
            rename_i d; cases d <;> rfl
@[simp] theorem Xd (s:St):du O np [] s=some s:=rfl
@[simp] theorem Vs (i:Ins) (is:List Ins) (s:St):du O np (i::is) s=(mu O np s i).bind (du O np is):=rfl
@[simp] theorem a26 (i:Nat) (s:Sh):am O np e h (.nilOwn i s)=(ee h (np+i) (.sl false s [])).map (Prod.mk (.sl (np+i) [] 0 0 (some 0))):=rfl
@[simp] theorem a5i:am O np e h .fail=none:=rfl
def Mz (h:Heap) (f:Nat) (us vs:List V):V×Heap:=(.fn f us vs,h)
@[simp] theorem a1z (f:Nat) (us vs:List V):Mz h f us vs=(.fn f us vs,h):=rfl
def Yc (e:Env) (h:Heap) (f:Nat) (cs:List Arg) (us:List V):Option (V×Heap):=(e.args cs).map (Mz h f us)
@[simp] theorem a2v (f:Nat) (cs:List Arg) (us:List V):Yc e h f cs us=(e.args cs).map (Mz h f us):=rfl
@[simp] theorem a5d (f:Nat) (as cs:List Arg):am O np e h (.mkFn f as cs)=(e.args as).bind (Yc e h f cs):=rfl
def Th (h:Heap):V→V→Option (V×Heap)
 | .d (.int k a),.d (.int k' b)=>if k=k' then some (.d (.int k (if a<b then b else a)),h) else none
 | _,_=>none
@[simp] theorem a6e (k k':IntKind) (a b:Int):Th h (.d (.int k a)) (.d (.int k' b))=if k=k' then some (.d (.int k (if a<b then b else a)),h) else none:=rfl
def a0s (e:Env) (h:Heap) (y:Arg) (v:V):Option (V×Heap):=(e.arg y).bind (Th h v)
@[simp] theorem a5v (y:Arg) (v:V):a0s e h y v=(e.arg y).bind (Th h v):=rfl
@[simp] theorem a5a (x y:Arg):am O np e h (.maxI x y)=(e.arg x).bind (a0s e h y):=by
 simp only [am];cases e.arg x with
 | none=>rfl
 | some v=>
  simp only [a9,a0s];cases e.arg y with
  | none=>cases v <;> try rfl
          rename_i d; cases d <;> rfl
  | some w=>cases v <;> try rfl
            rename_i d; cases d <;> try rfl
            cases w <;> try rfl
            rename_i d; cases d <;> rfl
def Uq (h:Heap):V→V→Option (V×Heap)
 | .d (.int k a),.d (.int k' b)=>if k=k' then some (.d (.int k (if b<a then b else a)),h) else none
 | _,_=>none
@[simp] theorem a5y (k k':IntKind) (a b:Int):Uq h (.d (.int k a)) (.d (.int k' b))=if k=k' then some (.d (.int k (if b<a then b else a)),h) else none:=rfl
def a0l (e:Env) (h:Heap) (y:Arg) (v:V):Option (V×Heap):=(e.arg y).bind (Uq h v)
@[simp] theorem a6b (y:Arg) (v:V):a0l e h y v=(e.arg y).bind (Uq h v):=rfl
@[simp] theorem a63 (x y:Arg):am O np e h (.minI x y)=(e.arg x).bind (a0l e h y):=by
 simp only [am];cases e.arg x with
 | none=>rfl
 | some v=>
  simp only [a9,a0l];cases e.arg y with
  | none=>cases v <;> try rfl
          rename_i d; cases d <;> rfl
  | some w=>cases v <;> try rfl
            rename_i d; cases d <;> try rfl
            cases w <;> try rfl
            rename_i d; cases d <;> rfl
def Sy (h:Heap) (neg:Bool):V→Option (V×Heap)
 | .d (.sl _ (_::_))=>some (.d (.bool neg),h)
 | .sl _ _ _ (_+1) _=>some (.d (.bool neg),h)
 | _=>none
@[simp] theorem a51 (neg:Bool) (s:Sh) (c:D) (cs:List D):Sy h neg (.d (.sl s (c::cs)))=some (.d (.bool neg),h):=rfl
@[simp] theorem a5n (neg:Bool) (i:Nat) (p:List Nat) (off n:Nat) (cap:Option Nat):Sy h neg (.sl i p off (n+1) cap)=some (.d (.bool neg),h):=rfl
def Mt (np:Nat) (h:Heap) (i:Nat) (s:Sh) (z:D) (bytes n m:Nat):Option (V×Heap):=
 if n≤m∧m*bytes≤1099511627776 then (ee h (np+i) (.sl false s (List.replicate n z))).map (Prod.mk (.sl (np+i) [] 0 n (if n=m then some n else none))) else none
@[simp] theorem a1p (i:Nat) (s:Sh) (z:D) (bytes n m:Nat):Mt np h i s z bytes n m =
 if n≤m∧m*bytes≤1099511627776 then (ee h (np+i) (.sl false s (List.replicate n z))).map (Prod.mk (.sl (np+i) [] 0 n (if n=m then some n else none))) else none:=rfl
def V7 (np:Nat) (e:Env) (h:Heap) (i:Nat) (s:Sh) (z:D) (bytes:Nat) (c:Arg) (n:Nat):Option (V×Heap):=((e.arg c).bind V.nat?).bind (Mt np h i s z bytes n)
@[simp] theorem a39 (i:Nat) (s:Sh) (z:D) (bytes:Nat) (c:Arg) (n:Nat):V7 np e h i s z bytes c n=((e.arg c).bind V.nat?).bind (Mt np h i s z bytes n):=rfl
@[simp] theorem a4x (i:Nat) (s:Sh) (z:D) (bytes:Nat) (l c:Arg):am O np e h (.mkSl i s z bytes l c)=((e.arg l).bind V.nat?).bind (V7 np e h i s z bytes c):=by
 simp only [am];cases (e.arg l).bind V.nat? with
 | none=>rfl
 | some n=>
  simp only [a9,V7];cases (e.arg c).bind V.nat? with
  | none=>rfl
  | some m=>rfl
@[simp] theorem a6f (neg:Bool) (x:Arg):am O np e h (.nilq neg x)=(e.arg x).bind (Sy h neg):=by
 simp only [am];cases e.arg x with
 | none=>rfl
 | some v=>
  cases v with
  | d d=>cases d <;> try rfl
         rename_i s cs; cases cs <;> rfl
  | sl i p off n cap=>cases n <;> rfl
  | _=>rfl
def Vb (h:Heap):D→Option (V×Heap)
 | .sl .leaf cs=>(q9 cs).map fun bs=>(.d (.str ⟨bs.toArray⟩),h)
 | _=>none
@[simp] theorem a61 (cs:List D):Vb h (.sl .leaf cs)=(q9 cs).map fun bs=>(.d (.str ⟨bs.toArray⟩),h):=rfl
def a3x (h:Heap) (v:V):Option (V×Heap):=(toD h v).bind (Vb h)
@[simp] theorem a6h (v:V):a3x h v=(toD h v).bind (Vb h):=rfl
@[simp] theorem a2i (x:Arg):am O np e h (.toStr x)=(e.arg x).bind (a3x h):=rfl
def G4 (h:Heap) (s:Sh) (z:D) (j off n:Nat):Blk→Option (V×Heap)
 | .sl false t' cs=>if Sh.beq t' s∧off+n≤cs.length then some (.tup [],h.set j (.sl false t' (cs.take off++List.replicate n z++cs.drop (off+n)))) else none
 | _=>none
@[simp] theorem a1c (s:Sh) (z:D) (j off n:Nat) (t':Sh) (cs:List D):G4 h s z j off n (.sl false t' cs)=if Sh.beq t' s∧off+n≤cs.length then some (.tup [],h.set j (.sl false t' (cs.take off++List.replicate n z++cs.drop (off+n)))) else none:=rfl
def M3 (h:Heap) (s:Sh) (z:D):V→Option (V×Heap)
 | .sl j [] off n _=>(h[j]?).bind (G4 h s z j off n)
 | _=>none
@[simp] theorem a31 (s:Sh) (z:D) (j off n:Nat) (cap:Option Nat):M3 h s z (.sl j [] off n cap)=(h[j]?).bind (G4 h s z j off n):=rfl
@[simp] theorem a4g (s:Sh) (z:D) (x:Arg):am O np e h (.clear s z x)=(e.arg x).bind (M3 h s z):=by
 simp only [am];cases e.arg x with
 | none=>rfl
 | some v=>
  cases v <;> try rfl
  rename_i j p off n cap
  cases p <;> try rfl
  simp only [a9,M3];cases h[j]? with
  | none=>rfl
  | some b=>
   cases b <;> try rfl
   rename_i fr t cs
   cases fr <;> rfl
@[simp] theorem a49 (i:Nat):am O np e h (.mkMap i)=(ee h (np+i) (.mp false [])).map (Prod.mk (.mp (np+i))):=rfl
def L5 (h:Heap) (k:ByteArray):Blk→Option (V×Heap)
 | .mp _ es=>some (.d (.int .i64 ((jp k es).getD 0)),h)
 | _=>none
@[simp] theorem a3s (k:ByteArray) (fr:Bool) (es:List (ByteArray×Int)):L5 h k (.mp fr es)=some (.d (.int .i64 ((jp k es).getD 0)),h):=rfl
def Ox (h:Heap):V→V→Option (V×Heap)
 | .mp j,.d (.str k)=>(h[j]?).bind (L5 h k)
 | _,_=>none
@[simp] theorem a5g (j:Nat) (k:ByteArray):Ox h (.mp j) (.d (.str k))=(h[j]?).bind (L5 h k):=rfl
def Nh (e:Env) (h:Heap) (k:Arg) (v:V):Option (V×Heap):=(e.arg k).bind (Ox h v)
@[simp] theorem a1d (k:Arg) (v:V):Nh e h k v=(e.arg k).bind (Ox h v):=rfl
@[simp] theorem a1m (x k:Arg):am O np e h (.mapGet x k)=(e.arg x).bind (Nh e h k):=by
 simp only [am];cases e.arg x with
 | none=>rfl
 | some v=>
  simp only [a9,Nh];cases e.arg k with
  | none=>cases v <;> rfl
  | some w=>
   cases v <;> try rfl
   cases w <;> try rfl
   rename_i j d
   cases d <;> try rfl
   simp only [a9,Ox];cases h[j]? with
   | none=>rfl
   | some b=>cases b <;> rfl
def L6 (h:Heap) (j:Nat) (k:ByteArray) (n:Int):Blk→Option (V×Heap)
 | .mp false es=>some (.tup [],h.set j (.mp false (iw k n es)))
 | _=>none
@[simp] theorem a4l (j:Nat) (k:ByteArray) (n:Int) (es:List (ByteArray×Int)):L6 h j k n (.mp false es)=some (.tup [],h.set j (.mp false (iw k n es))):=rfl
def Oi (h:Heap):V→V→V→Option (V×Heap)
 | .mp j,.d (.str k),.d (.int .i64 n)=>(h[j]?).bind (L6 h j k n)
 | _,_,_=>none
@[simp] theorem a5w (j:Nat) (k:ByteArray) (n:Int):Oi h (.mp j) (.d (.str k)) (.d (.int .i64 n))=(h[j]?).bind (L6 h j k n):=rfl
def Gm (e:Env) (h:Heap) (y:Arg) (v w:V):Option (V×Heap):=(e.arg y).bind (Oi h v w)
@[simp] theorem a18 (y:Arg) (v w:V):Gm e h y v w=(e.arg y).bind (Oi h v w):=rfl
def N0 (e:Env) (h:Heap) (k y:Arg) (v:V):Option (V×Heap):=(e.arg k).bind (Gm e h y v)
@[simp] theorem a13 (k y:Arg) (v:V):N0 e h k y v=(e.arg k).bind (Gm e h y v):=rfl
@[simp] theorem a1i (x k y:Arg):am O np e h (.mapSet x k y)=(e.arg x).bind (N0 e h k y):=by
 simp only [am];cases e.arg x with
 | none=>rfl
 | some v=>
  simp only [a9,N0];cases e.arg k with
  | none=>cases v <;> rfl
  | some w=>
   simp only [a9,Gm];cases e.arg y with
   | none=>
    cases v <;> try rfl
    cases w <;> try rfl
    rename_i j d; cases d <;> rfl
   | some u=>
    cases v <;> try rfl
    cases w <;> try rfl
    rename_i j d
    cases d <;> try rfl
    cases u <;> try rfl
    rename_i d
    cases d <;> try rfl
    rename_i kk n
    cases kk <;> try rfl
    simp only [a9,Oi];cases h[j]? with
    | none=>rfl
    | some b=>
     cases b <;> try rfl
     rename_i fr es
     cases fr <;> rfl
def Sg (np:Nat) (h:Heap) (s:Sh) (i bytes:Nat) (t:Sh) (ys:List D) (j off n:Nat) (cap:Option Nat):Blk→Option (V×Heap)
 | .sl fr t' cs=>if Sh.beq t s∧Sh.beq t' s∧off+n≤cs.length∧(n+ys.length)*bytes≤1099511627776 then
  (if fr=false∧np≤j then some (.sl j [] 0 (n+ys.length) none,h.set j (.sl false s ((cs.drop off).take n++ys)))
  else if cap=some n∧ys≠[] then (ee h (np+i) (.sl false s ((cs.drop off).take n++ys))).map (Prod.mk (.sl (np+i) [] 0 (n+ys.length) none))
  else none) else none
 | _=>none
@[simp] theorem a4j (s:Sh) (i bytes:Nat) (t:Sh) (ys:List D) (j off n:Nat) (cap:Option Nat) (fr:Bool) (t':Sh) (cs:List D):Sg np h s i bytes t ys j off n cap (.sl fr t' cs) =
 if Sh.beq t s∧Sh.beq t' s∧off+n≤cs.length∧(n+ys.length)*bytes≤1099511627776 then
  (if fr=false∧np≤j then some (.sl j [] 0 (n+ys.length) none,h.set j (.sl false s ((cs.drop off).take n++ys)))
  else if cap=some n∧ys≠[] then (ee h (np+i) (.sl false s ((cs.drop off).take n++ys))).map (Prod.mk (.sl (np+i) [] 0 (n+ys.length) none))
  else none) else none:=rfl
def Ot (np:Nat) (h:Heap) (s:Sh) (i bytes:Nat):D→V→Option (V×Heap)
 | .sl t ys,.sl j [] off n cap=>(h[j]?).bind (Sg np h s i bytes t ys j off n cap)
 | .sl t (y::ys),.d (.nils t')=>if Sh.beq t s∧Sh.beq t' s∧(ys.length+1)*bytes≤1099511627776 then
  (ee h (np+i) (.sl false s (y::ys))).map (Prod.mk (.sl (np+i) [] 0 (ys.length+1) none)) else none
 | _,_=>none
@[simp] theorem Wf (s:Sh) (i bytes:Nat) (t:Sh) (ys:List D) (j off n:Nat) (cap:Option Nat):Ot np h s i bytes (.sl t ys) (.sl j [] off n cap)=(h[j]?).bind (Sg np h s i bytes t ys j off n cap):=by
 cases ys <;> rfl
@[simp] theorem a6g (s:Sh) (i bytes:Nat) (t t':Sh) (y:D) (ys:List D):Ot np h s i bytes (.sl t (y::ys)) (.d (.nils t'))=if Sh.beq t s∧Sh.beq t' s∧(ys.length+1)*bytes≤1099511627776 then
 (ee h (np+i) (.sl false s (y::ys))).map (Prod.mk (.sl (np+i) [] 0 (ys.length+1) none)) else none:=rfl
def O2 (np:Nat) (e:Env) (h:Heap) (s:Sh) (i bytes:Nat) (x:Arg) (d:D):Option (V×Heap):=(e.arg x).bind (Ot np h s i bytes d)
@[simp] theorem a40 (s:Sh) (i bytes:Nat) (x:Arg) (d:D):O2 np e h s i bytes x d=(e.arg x).bind (Ot np h s i bytes d):=rfl
def a0t (np:Nat) (e:Env) (h:Heap) (s:Sh) (i bytes:Nat) (x:Arg) (w:V):Option (V×Heap):=(toD h w).bind (O2 np e h s i bytes x)
@[simp] theorem a5j (s:Sh) (i bytes:Nat) (x:Arg) (w:V):a0t np e h s i bytes x w=(toD h w).bind (O2 np e h s i bytes x):=rfl
@[simp] theorem a20 (s:Sh) (i bytes:Nat) (x y:Arg):am O np e h (.append s i bytes x y)=(e.arg y).bind (a0t np e h s i bytes x):=by
 simp only [am];cases e.arg y with
 | none=>rfl
 | some w=>
  simp only [a9,a0t];cases toD h w with
  | none=>rfl
  | some d=>
   simp only [a9,O2];cases e.arg x with
   | none=>cases d <;> try rfl
   | some v=>
    cases d <;> try (cases v <;> rfl)
    rename_i t ys
    cases v with
    | sl j p off n cap=>
     cases p with
     | nil=>
      simp only [a9,Wf];cases h[j]? with
      | none=>rfl
      | some b=>cases b <;> rfl
     | cons _ _=>cases ys <;> rfl
    | d d=>cases ys <;> cases d <;> rfl
    | _=>cases ys <;> rfl
def Oa (h:Heap):Option Nat→Sh→V→Nat→Option (V×Heap)
 | some n,s,.d (.arr n' t cs),k=>if n'=n∧Sh.beq t s then (cs[k]?).map (kD h) else none
 | none,_,.d (.str b),k=>(b[k]?).map fun c=>(.d (.int .u8 c.toNat),h)
 | _,_,_,_=>none
@[simp] theorem a56 (n n':Nat) (s t:Sh) (cs:List D) (k:Nat):Oa h (some n) s (.d (.arr n' t cs)) k=if n'=n∧Sh.beq t s then (cs[k]?).map (kD h) else none:=rfl
@[simp] theorem a5r (s:Sh) (b:ByteArray) (k:Nat):Oa h none s (.d (.str b)) k=(b[k]?).map fun c=>(.d (.int .u8 c.toNat),h):=rfl
def Wg (e:Env) (h:Heap) (ar:Option Nat) (s:Sh) (j:Arg) (v:V):Option (V×Heap):=((e.arg j).bind V.nat?).bind (Oa h ar s v)
@[simp] theorem a5x (ar:Option Nat) (s:Sh) (j:Arg) (v:V):Wg e h ar s j v=((e.arg j).bind V.nat?).bind (Oa h ar s v):=rfl
@[simp] theorem a7d (ar:Option Nat) (s:Sh) (x j:Arg):am O np e h (.idx ar s x j)=(e.arg x).bind (Wg e h ar s j):=by
 cases ar <;> simp only [am]
 ·cases e.arg x with
  | none=>rfl
  | some v=>
   simp only [a9,Wg];cases (e.arg j).bind V.nat? with
   | none=>cases v <;> try rfl
           rename_i d; cases d <;> rfl
   | some k=>cases v <;> try rfl
             rename_i d; cases d <;> rfl
 ·cases e.arg x with
  | none=>rfl
  | some v=>
   simp only [a9,Wg];cases (e.arg j).bind V.nat? with
   | none=>cases v <;> try rfl
           rename_i d; cases d <;> rfl
   | some k=>cases v <;> try rfl
             rename_i d; cases d <;> rfl
def Nq (h:Heap) (n:Nat) (s:Sh) (i:Nat) (p:List Nat) (k:Nat):D→Option (V×Heap)
 | .arr n' t _=>if n'=n∧Sh.beq t s∧k<n then some (.ptr i (p++[k]),h) else none
 | _=>none
@[simp] theorem a2c (n n':Nat) (s t:Sh) (i:Nat) (p:List Nat) (k:Nat) (cs:List D):Nq h n s i p k (.arr n' t cs)=if n'=n∧Sh.beq t s∧k<n then some (.ptr i (p++[k]),h) else none:=rfl
def O0 (h:Heap) (n:Nat) (s:Sh):V→Nat→Option (V×Heap)
 | .ptr i p,k=>((h[i]?).bind (Aq p)).bind (Nq h n s i p k)
 | .d (.ip (.arr n' t cs)),k=>if n'=n∧Sh.beq t s then (cs[k]?).map (kIp h) else none
 | _,_=>none
@[simp] theorem Xo (n:Nat) (s:Sh) (i:Nat) (p:List Nat) (k:Nat):O0 h n s (.ptr i p) k=((h[i]?).bind (Aq p)).bind (Nq h n s i p k):=rfl
@[simp] theorem a59 (n n':Nat) (s t:Sh) (cs:List D) (k:Nat):O0 h n s (.d (.ip (.arr n' t cs))) k=if n'=n∧Sh.beq t s then (cs[k]?).map (kIp h) else none:=rfl
def Np (e:Env) (h:Heap) (n:Nat) (s:Sh) (j:Arg) (v:V):Option (V×Heap):=((e.arg j).bind V.nat?).bind (O0 h n s v)
@[simp] theorem a1y (n:Nat) (s:Sh) (j:Arg) (v:V):Np e h n s j v=((e.arg j).bind V.nat?).bind (O0 h n s v):=rfl
@[simp] theorem a58 (n:Nat) (s:Sh) (x j:Arg):am O np e h (.idxA (some n) s x j)=(e.arg x).bind (Np e h n s j):=by
 simp only [am];cases e.arg x with
 | none=>rfl
 | some v=>
  simp only [a9,Np];cases (e.arg j).bind V.nat? with
  | none=>cases v <;> try rfl
          rename_i d; cases d <;> try rfl
          rename_i d; cases d <;> rfl
  | some k=>
   cases v with
   | ptr i p=>
    simp only [Xo,a9];show ((h[i]?).bind (Aq p)).bind _=_
    congr 1
   | d d=>cases d <;> try rfl
          rename_i d; cases d <;> rfl
   | _=>rfl
def a0g (h:Heap) (neg:Bool) (q:Q):V→V→Option (V×Heap)
 | .d a,.d b=>(D.beq q a b).map fun r=>(.d (.bool (if neg then !r else r)),h)
 | _,_=>none
@[simp] theorem a6r (neg:Bool) (q:Q) (a b:D):a0g h neg q (.d a) (.d b)=(D.beq q a b).map fun r=>(.d (.bool (if neg then !r else r)),h):=rfl
def Un (e:Env) (h:Heap) (neg:Bool) (q:Q) (y:Arg) (v:V):Option (V×Heap):=(e.arg y).bind (a0g h neg q v)
@[simp] theorem a3t (neg:Bool) (q:Q) (y:Arg) (v:V):Un e h neg q y v=(e.arg y).bind (a0g h neg q v):=rfl
@[simp] theorem a79 (neg:Bool) (q:Q) (x y:Arg):am O np e h (.eqv neg q x y)=(e.arg x).bind (Un e h neg q y):=by
 simp only [am];cases e.arg x with
 | none=>rfl
 | some v=>
  simp only [a9,Un];cases e.arg y with
  | none=>cases v <;> rfl
  | some w=>cases v <;> cases w <;> rfl
def Lr (h:Heap) (s t:Sh) (cs:List D) (m b a:Nat):Option (V×Heap):=if Sh.beq t s∧a≤b∧b≤m∧m≤cs.length then some (.d (.sl t ((cs.drop a).take (b-a))),h) else none
@[simp] theorem a27 (s t:Sh) (cs:List D) (m b a:Nat):Lr h s t cs m b a=if Sh.beq t s∧a≤b∧b≤m∧m≤cs.length then some (.d (.sl t ((cs.drop a).take (b-a))),h) else none:=rfl
def M1 (e:Env) (h:Heap) (s t:Sh) (cs:List D) (lo:Option Arg) (m b:Nat):Option (V×Heap):=(cg e lo 0).bind (Lr h s t cs m b)
@[simp] theorem a24 (s t:Sh) (cs:List D) (lo:Option Arg) (m b:Nat):M1 e h s t cs lo m b=(cg e lo 0).bind (Lr h s t cs m b):=rfl
def Ms (e:Env) (h:Heap) (s t:Sh) (cs:List D) (lo hi:Option Arg) (m:Nat):Option (V×Heap):=(cg e hi cs.length).bind (M1 e h s t cs lo m)
@[simp] theorem a1v (s t:Sh) (cs:List D) (lo hi:Option Arg) (m:Nat):Ms e h s t cs lo hi m=(cg e hi cs.length).bind (M1 e h s t cs lo m):=rfl
def Mi (h:Heap) (s t:Sh) (i:Nat) (p:List Nat) (off n:Nat) (cap:Option Nat) (ismx:Bool) (m b a:Nat):Option (V×Heap):=if Sh.beq t s∧a≤b∧b≤m∧m≤n then some (.sl i p (off+a) (b-a) (if ismx then some (m-a) else cap.map (· - a)),h) else none
@[simp] theorem a1b (s t:Sh) (i:Nat) (p:List Nat) (off n:Nat) (cap:Option Nat) (ismx:Bool) (m b a:Nat):Mi h s t i p off n cap ismx m b a=if Sh.beq t s∧a≤b∧b≤m∧m≤n then some (.sl i p (off+a) (b-a) (if ismx then some (m-a) else cap.map (· - a)),h) else none:=rfl
def Ni (e:Env) (h:Heap) (s t:Sh) (i:Nat) (p:List Nat) (off n:Nat) (cap:Option Nat) (ismx:Bool) (lo:Option Arg) (m b:Nat):Option (V×Heap):=(cg e lo 0).bind (Mi h s t i p off n cap ismx m b)
@[simp] theorem a17 (s t:Sh) (i:Nat) (p:List Nat) (off n:Nat) (cap:Option Nat) (ismx:Bool) (lo:Option Arg) (m b:Nat):Ni e h s t i p off n cap ismx lo m b=(cg e lo 0).bind (Mi h s t i p off n cap ismx m b):=rfl
def Mg (e:Env) (h:Heap) (s t:Sh) (i:Nat) (p:List Nat) (off n:Nat) (cap:Option Nat) (ismx:Bool) (lo hi:Option Arg) (m:Nat):Option (V×Heap):=(cg e hi n).bind (Ni e h s t i p off n cap ismx lo m)
@[simp] theorem a1e (s t:Sh) (i:Nat) (p:List Nat) (off n:Nat) (cap:Option Nat) (ismx:Bool) (lo hi:Option Arg) (m:Nat):Mg e h s t i p off n cap ismx lo hi m=(cg e hi n).bind (Ni e h s t i p off n cap ismx lo m):=rfl
def Me (e:Env) (h:Heap) (s:Sh) (i:Nat) (p:List Nat) (off n:Nat) (cap:Option Nat) (mx lo hi:Option Arg):Sh×List D→Option (V×Heap)
 | (t,_)=>(cg e mx n).bind (Mg e h s t i p off n cap mx.isSome lo hi)
@[simp] theorem a1o (s:Sh) (i:Nat) (p:List Nat) (off n:Nat) (cap:Option Nat) (mx lo hi:Option Arg) (t:Sh) (cs:List D):Me e h s i p off n cap mx lo hi (t,cs)=(cg e mx n).bind (Mg e h s t i p off n cap mx.isSome lo hi):=rfl
def Yu (e:Env) (h:Heap) (s:Sh) (lo hi mx:Option Arg):V→Option (V×Heap)
 | .d (.sl t cs)=>(cg e mx cs.length).bind (Ms e h s t cs lo hi)
 | .sl i p off n cap=>((h[i]?).bind (kEl p)).bind (Me e h s i p off n cap mx lo hi)
 | _=>none
@[simp] theorem a78 (s t:Sh) (cs:List D) (lo hi mx:Option Arg):Yu e h s lo hi mx (.d (.sl t cs))=(cg e mx cs.length).bind (Ms e h s t cs lo hi):=rfl
@[simp] theorem a0y (s:Sh) (i:Nat) (p:List Nat) (off n:Nat) (cap:Option Nat) (lo hi mx:Option Arg):Yu e h s lo hi mx (.sl i p off n cap)=((h[i]?).bind (kEl p)).bind (Me e h s i p off n cap mx lo hi):=rfl
@[simp] theorem a6n (s:Sh) (x:Arg) (lo hi mx:Option Arg):am O np e h (.cut none s x lo hi mx)=(e.arg x).bind (Yu e h s lo hi mx):=by
 simp only [am];cases e.arg x with
 | none=>rfl
 | some v=>
  cases v with
  | d d=>cases d <;> rfl
  | sl i p off n cap=>
   simp only [a9,a0y];show ((h[i]?).bind (kEl p)).bind _=_
   congr 1
   funext q
   obtain ⟨t,cs⟩:=q;cases mx <;> rfl
  | _=>rfl
def Gu (h:Heap) (n:Nat) (i:Nat) (p:List Nat) (m b a:Nat):Option (V×Heap):=if a≤b∧b≤m∧m≤n then some (.sl i p a (b-a) (some (m-a)),h) else none
@[simp] theorem a1a (n i:Nat) (p:List Nat) (m b a:Nat):Gu h n i p m b a=if a≤b∧b≤m∧m≤n then some (.sl i p a (b-a) (some (m-a)),h) else none:=rfl
def Gp (e:Env) (h:Heap) (n:Nat) (i:Nat) (p:List Nat) (lo:Option Arg) (m b:Nat):Option (V×Heap):=(cg e lo 0).bind (Gu h n i p m b)
@[simp] theorem a1g (n i:Nat) (p:List Nat) (lo:Option Arg) (m b:Nat):Gp e h n i p lo m b=(cg e lo 0).bind (Gu h n i p m b):=rfl
def Hf (e:Env) (h:Heap) (n:Nat) (i:Nat) (p:List Nat) (lo hi:Option Arg) (m:Nat):Option (V×Heap):=(cg e hi n).bind (Gp e h n i p lo m)
@[simp] theorem a1s (n i:Nat) (p:List Nat) (lo hi:Option Arg) (m:Nat):Hf e h n i p lo hi m=(cg e hi n).bind (Gp e h n i p lo m):=rfl
def Hi (e:Env) (h:Heap) (n:Nat) (s:Sh) (i:Nat) (p:List Nat) (lo hi mx:Option Arg):D→Option (V×Heap)
 | .arr n' t _=>if n'=n∧Sh.beq t s then (cg e mx n).bind (Hf e h n i p lo hi) else none
 | _=>none
@[simp] theorem a2y (n n':Nat) (s t:Sh) (cs:List D) (i:Nat) (p:List Nat) (lo hi mx:Option Arg):Hi e h n s i p lo hi mx (.arr n' t cs)=if n'=n∧Sh.beq t s then (cg e mx n).bind (Hf e h n i p lo hi) else none:=rfl
def Y3 (e:Env) (h:Heap) (n:Nat) (s:Sh) (lo hi mx:Option Arg):V→Option (V×Heap)
 | .ptr i p=>((h[i]?).bind (Aq p)).bind (Hi e h n s i p lo hi mx)
 | .d (.ip (.arr n' t cs))=>(cg e mx n).bind fun m=>(cg e hi n).bind fun b=>(cg e lo 0).bind fun a=>
  if n'=n∧Sh.beq t s∧a≤b∧b≤m∧m≤n then some (.d (.sl t ((cs.drop a).take (b-a))),h) else none
 | _=>none
@[simp] theorem Xk (n:Nat) (s:Sh) (lo hi mx:Option Arg) (i:Nat) (p:List Nat):Y3 e h n s lo hi mx (.ptr i p)=((h[i]?).bind (Aq p)).bind (Hi e h n s i p lo hi mx):=rfl
@[simp] theorem a67 (n:Nat) (s:Sh) (x:Arg) (lo hi mx:Option Arg):am O np e h (.cut (some n) s x lo hi mx)=(e.arg x).bind (Y3 e h n s lo hi mx):=by
 simp only [am];cases e.arg x with
 | none=>rfl
 | some v=>
 cases v with
 | d d=>cases d <;> try rfl
        rename_i d; cases d <;> rfl
 | ptr i p=>
 simp only [a9,Xk];show ((h[i]?).bind (Aq p)).bind _=_
 congr 1
 funext y
 cases y <;> try rfl
 rename_i n' t cs
 simp only [Hi]
 by_cases hc:n'=n∧Sh.beq t s=true
 ·rw [if_pos hc]
  cases cg e mx n with
  | none=>rfl
  | some m=>
   simp only [a9,Hf];cases cg e hi n with
   | none=>rfl
   | some b=>
    simp only [a9,Gp];cases cg e lo 0 with
    | none=>rfl
    | some a=>simp only [a9,Gu,hc,true_and]
 ·rw [if_neg hc]
  cases cg e mx n with
  | none=>rfl
  | some m=>
   simp only [a9];cases cg e hi n with
   | none=>rfl
   | some b=>
    simp only [a9];cases cg e lo 0 with
    | none=>rfl
    | some a=>
     simp only [a9];rw [if_neg]
     rintro ⟨h1,h2,_⟩
     exact hc ⟨h1,h2⟩
 | _=>rfl
def Yh (h:Heap) (n:Nat) (s:Sh) (cs:List D):V×Heap:=(.d (.arr n s cs),h)
@[simp] theorem a50 (n:Nat) (s:Sh) (cs:List D):Yh h n s cs=(.d (.arr n s cs),h):=rfl
def kSt (h:Heap) (ss:List Sh) (cs:List D):V×Heap:=(.d (.st ss cs),h)
@[simp] theorem a7l (ss:List Sh) (cs:List D):kSt h ss cs=(.d (.st ss cs),h):=rfl
def B8 (xs:List (Nat×D)):D→Heap→Option (V×Heap)
 | .arr n s cs,h=>(m7 cs xs).map (Yh h n s)
 | .st ss cs,h=>(m7 cs xs).map (kSt h ss)
 | _,_=>none
@[simp] theorem a1k (xs:List (Nat×D)) (n:Nat) (s:Sh) (cs:List D):B8 xs (.arr n s cs) h=(m7 cs xs).map (Yh h n s):=rfl
@[simp] theorem a1h (xs:List (Nat×D)) (ss:List Sh) (cs:List D):B8 xs (.st ss cs) h=(m7 cs xs).map (kSt h ss):=rfl
def Ly (h:Heap) (fz:Bool) (z:D) (rs:List Nat) (xs:List (Nat×D)):Option (V×Heap):=(freezeIf fz h rs).bind (B8 xs z)
@[simp] theorem a1w (fz:Bool) (z:D) (rs:List Nat) (xs:List (Nat×D)):Ly h fz z rs xs=(freezeIf fz h rs).bind (B8 xs z):=rfl
@[simp] theorem a41 (fz:Bool) (z:D) (ps:List (Nat×Arg)):am O np e h (.build fz z ps)=(fl e h ps).bind (Ly h fz z (cq e ps)):=by
 simp only [am];cases fl e h ps with
 | none=>rfl
 | some xs=>
  simp only [a9,Ly];cases freezeIf fz h (cq e ps) with
  | none=>rfl
  | some h'=>cases z <;> rfl
def Up (id n:Nat) (s:Sh) (cs:List D) (h:Heap):Option (V×Heap):=(ee h id (.sl false s cs)).map (Prod.mk (.sl id [] 0 n (some n)))
@[simp] theorem a4h (id n:Nat) (s:Sh) (cs:List D):Up id n s cs h=(ee h id (.sl false s cs)).map (Prod.mk (.sl id [] 0 n (some n))):=rfl
def Ti (h:Heap) (fz:Bool) (id n:Nat) (s:Sh) (rs:List Nat) (cs:List D):Option (V×Heap):=(freezeIf fz h rs).bind (Up id n s cs)
@[simp] theorem a3d (fz:Bool) (id n:Nat) (s:Sh) (rs:List Nat) (cs:List D):Ti h fz id n s rs cs=(freezeIf fz h rs).bind (Up id n s cs):=rfl
def Xt (h:Heap) (fz:Bool) (id n:Nat) (s:Sh) (z:D) (rs:List Nat) (xs:List (Nat×D)):Option (V×Heap):=(m7 (List.replicate n z) xs).bind (Ti h fz id n s rs)
@[simp] theorem a2r (fz:Bool) (id n:Nat) (s:Sh) (z:D) (rs:List Nat) (xs:List (Nat×D)):Xt h fz id n s z rs xs=(m7 (List.replicate n z) xs).bind (Ti h fz id n s rs):=rfl
@[simp] theorem Yj (fz:Bool) (i:Nat) (s:Sh) (z:D) (n:Nat) (ps:List (Nat×Arg)):am O np e h (.buildSl fz i s z n ps)=(fl e h ps).bind (Xt h fz (np+i) n s z (cq e ps)):=rfl
end
@[simp] theorem a1f (k:IntKind) (n:Int):(D.int k n).isTup=false:=rfl
@[simp] theorem a7j (k:IntKind) (n:Int):(D.int k n).sh=.leaf:=rfl
@[simp] theorem Yg (b:Bool):(D.bool b).isTup=false:=rfl
@[simp] theorem a52 (b:Bool):(D.bool b).sh=.leaf:=rfl
@[simp] theorem a21 (s:ByteArray):(D.str s).isTup=false:=rfl
@[simp] theorem a7m (s:ByteArray):(D.str s).sh=.leaf:=rfl
@[simp] theorem a1l (n:Nat) (s:Sh) (cs:List D):(D.arr n s cs).isTup=false:=rfl
@[simp] theorem a6m (n:Nat) (s:Sh) (cs:List D):(D.arr n s cs).sh=.arr n s:=rfl
@[simp] theorem a4k (ss:List Sh) (cs:List D):(D.st ss cs).isTup=false:=rfl
@[simp] theorem a7y (ss:List Sh) (cs:List D):(D.st ss cs).sh=.st ss:=rfl
@[simp] theorem a2o (s:Sh) (cs:List D):(D.sl s cs).isTup=false:=rfl
@[simp] theorem a7t (s:Sh) (cs:List D):(D.sl s cs).sh=.leaf:=rfl
@[simp] theorem a15 (cs:List D):(D.tup cs).isTup=true:=rfl
@[simp] theorem a7i (cs:List D):(D.tup cs).sh=.leaf:=rfl
@[simp] theorem a29 (d:D):(D.ip d).isTup=false:=rfl
@[simp] theorem a7s (d:D):(D.ip d).sh=.leaf:=rfl
@[simp] theorem a0z  : D.nilp.isTup=false:=rfl
@[simp] theorem a69  : D.nilp.sh=.leaf:=rfl
@[simp] theorem Yv (s:Sh):(D.nils s).isTup=false:=rfl
@[simp] theorem a5p (s:Sh):(D.nils s).sh=.leaf:=rfl
@[simp] theorem a4p (f:Nat) (a b:List D):(D.fn f a b).isTup=false:=rfl
@[simp] theorem a7w (f:Nat) (a b:List D):(D.fn f a b).sh=.leaf:=rfl
@[simp] theorem a0x  : D.nilf.isTup=false:=rfl
@[simp] theorem a68  : D.nilf.sh=.leaf:=rfl
@[simp] theorem Y7 (n:Nat) (d:D):(D.iface n d).isTup=false:=rfl
@[simp] theorem a2g (n:Nat) (d:D):(D.iface n d).sh=.leaf:=rfl
@[simp] theorem a03  : D.nili.isTup=false:=rfl
@[simp] theorem a5f  : D.nili.sh=.leaf:=rfl
def a2p (k:IntKind) (x y:Int):Int:=k.wrap (BitVec.ofInt k.bits x &&& BitVec.ofInt k.bits y).toNat
def orI (k:IntKind) (x y:Int):Int:=k.wrap (BitVec.ofInt k.bits x ||| BitVec.ofInt k.bits y).toNat
def a71 (k:IntKind) (x y:Int):Int:=k.wrap (BitVec.ofInt k.bits x ^^^ BitVec.ofInt k.bits y).toNat
section
variable (k:IntKind) (x y:Int)
@[simp] theorem a2f:si .add k x y=some (.int k (k.wrap (x+y))):=rfl
@[simp] theorem a3l:si .sub k x y=some (.int k (k.wrap (x-y))):=rfl
@[simp] theorem a3v:si .mul k x y=some (.int k (k.wrap (x*y))):=rfl
@[simp] theorem a2e:si .quo k x y=if y=0 then none else some (.int k (k.wrap (x.tdiv y))):=rfl
@[simp] theorem a4c:si .rem k x y=if y=0 then none else some (.int k (x.tmod y)):=rfl
@[simp] theorem a37:si .and k x y=some (.int k (a2p k x y)):=rfl
@[simp] theorem a5c:si .or k x y=some (.int k (orI k x y)):=rfl
@[simp] theorem a48:si .xor k x y=some (.int k (a71 k x y)):=rfl
@[simp] theorem a4u:si .eql k x y=some (.bool (decide (x=y))):=rfl
@[simp] theorem a2a:si .neq k x y=some (.bool (!decide (x=y))):=rfl
@[simp] theorem a3b:si .lss k x y=some (.bool (decide (x<y))):=rfl
@[simp] theorem a3g:si .leq k x y=some (.bool (decide (x≤y))):=rfl
@[simp] theorem a4s:si .gtr k x y=some (.bool (decide (y<x))):=rfl
@[simp] theorem a4q:si .geq k x y=some (.bool (decide (y≤x))):=rfl
end
def pt (o:BinOp) (k k':IntKind) (a b:Int):Option D:=if k=k' then si o k a b else none
@[simp] theorem a3e (o:BinOp) (k:IntKind) (a b:Int):pt o k k a b=si o k a b:=if_pos rfl
section
variable (k k':IntKind) (a b:Int)
@[simp] theorem a4v:rk .shl (.int k a) (.int k' b)=x9 .shl k a b:=rfl
@[simp] theorem a2j:rk .shr (.int k a) (.int k' b)=x9 .shr k a b:=rfl
@[simp] theorem a45:rk .add (.int k a) (.int k' b)=pt .add k k' a b:=rfl
@[simp] theorem a4m:rk .sub (.int k a) (.int k' b)=pt .sub k k' a b:=rfl
@[simp] theorem a3q:rk .mul (.int k a) (.int k' b)=pt .mul k k' a b:=rfl
@[simp] theorem a2u:rk .quo (.int k a) (.int k' b)=pt .quo k k' a b:=rfl
@[simp] theorem a3f:rk .rem (.int k a) (.int k' b)=pt .rem k k' a b:=rfl
@[simp] theorem a4n:rk .and (.int k a) (.int k' b)=pt .and k k' a b:=rfl
@[simp] theorem a66:rk .or (.int k a) (.int k' b)=pt .or k k' a b:=rfl
@[simp] theorem a3i:rk .xor (.int k a) (.int k' b)=pt .xor k k' a b:=rfl
@[simp] theorem a3h:rk .eql (.int k a) (.int k' b)=pt .eql k k' a b:=rfl
@[simp] theorem a43:rk .neq (.int k a) (.int k' b)=pt .neq k k' a b:=rfl
@[simp] theorem a2x:rk .lss (.int k a) (.int k' b)=pt .lss k k' a b:=rfl
@[simp] theorem a44:rk .leq (.int k a) (.int k' b)=pt .leq k k' a b:=rfl
@[simp] theorem a4i:rk .gtr (.int k a) (.int k' b)=pt .gtr k k' a b:=rfl
@[simp] theorem a2l:rk .geq (.int k a) (.int k' b)=pt .geq k k' a b:=rfl
end
@[simp] theorem a4r (o:BinOp) (a b:ByteArray):rk o (.str a) (.str b)=(match o with | .shl | .shr=>none | o=>Vy o a b):=by cases o <;> rfl
attribute [simp] jh
attribute [simp] Env.clear Wv a06 W8 Ys V3 andThen O7 fin mu Y2 Ins.side Ins.on Env.arg Env.get Env.keep Env.kill Op.kill Env.putO Env.refsOf Op.temps Arg.temps ue rh pr
 V.refs V.refss Sh.beq Sh.beqs Blk.get Blk.set Blk.elems D.get D.set D.arrOf freezeIf freeze Blk.freeze ee m7 fl cq cg V.nat? unD callee oq Heap.pick Heap.put putNews Blk.isHole V.ren V.rens td Mr i9 params D.flat D.flats og Env.refd Env.free
theorem bj {T:Nat→Option Fn} {A:ac} {f:Nat} {fn:Fn} (hT:T f=some fn) {ds:List D} {d:D} (hl:ds.length=fn.nparams)
 (h:((dn (den T A) 0 fn.body ⟨params 0 (ds.map .d),List.replicate fn.nblk .hole⟩).bind (fin fn 0)).bind a0u=some d):ask (den T A) f ds=some d:=by
 obtain ⟨r,h1,h2⟩:=a4.1 h;unfold ask;rw [ri hT (vs:=ds.map .d) (bs:=[]) (by rw [eo]; exact hl) h1]
 exact h2
theorem bh {O:ac} {np:Nat} {c:Cd} {s s1:St} {r:Option (Out×St)} (h:dn O np c s=some (.normal,s1)) (h2:dn O np (.loop c) s1=r):dn O np (.loop c) s=r:=by
 rw [Gn,h]; exact h2
theorem bi {O:ac} {np:Nat} {c:Cd} {s s1:St} {id:Nat} (h:dn O np c s=some (.exit id,s1)):dn O np (.loop c) s=some (.exit id,s1):=by
 rw [Gn,h]; rfl
theorem p7 {O:ac} {np:Nat} {c:Cd} {s s1:St} (h:dn O np c s=some (.ret,s1)):dn O np (.loop c) s=some (.ret,s1):=by
 rw [Gn,h]; rfl
def ae (k:IntKind) (l:List Int):List D:=l.map (.int k)
@[simp] theorem Xw (k:IntKind) (l:List Int):(ae k l).length=l.length:=by simp [ae]
@[simp] theorem a3j (k:IntKind) (l:List Int) (i:Nat):(ae k l)[i]? = (l[i]?).map (.int k):=by simp [ae]
@[simp] theorem Wk (k:IntKind) (l:List Int) (i:Nat) (h:i<(ae k l).length):(ae k l)[i]=.int k (l[i]'(by simpa using h)):=by simp [ae]
@[simp] theorem a1u (k:IntKind) (l:List Int) (n:Nat):(ae k l).take n=ae k (l.take n):=by simp [ae]
@[simp] theorem a19 (k:IntKind) (l:List Int) (n:Nat):(ae k l).drop n=ae k (l.drop n):=by simp [ae]
@[simp] theorem a4b (k:IntKind) (l:List Int) (n:Nat) (x:Int):(ae k l).set n (.int k x)=ae k (l.set n x):=by simp [ae,t9]
@[simp] theorem u9 (k:IntKind) (l m:List Int):ae k l++ae k m=ae k (l++m):=by simp [ae]
@[simp] theorem Tl (k:IntKind) (n:Nat) (x:Int):List.replicate n (D.int k x)=ae k (List.replicate n x):=by simp [ae]
@[simp] theorem M6 (k:IntKind):∀l:List Int,D.flats (ae k l)=true
 | []=>rfl
 | x::l=>by show (D.flat (.int k x)&&D.flats (ae k l))=true; rw [M6 k l]; rfl
theorem ec (k:IntKind):ae k []=[]:=rfl
@[simp] theorem a4t (n:Nat):List.replicate (n+1) Blk.hole=.hole::List.replicate n .hole:=rfl
@[simp] theorem a25:List.replicate 0 Blk.hole=[]:=rfl
theorem w64 {x:Int} (h:-9223372036854775808≤x∧x≤9223372036854775807):IntKind.i64.wrap x=x:=IntWalk.i64_in x h
theorem w8 {x:Int} (h:0≤x∧x<256):IntKind.u8.wrap x=x:=by
 simp only [IntKind.wrap,IntKind.bits,IntKind.signed];simp;omega
end Pe

namespace Pe
open Go Go.ChangeShapes
inductive Ty where
 | int (k:IntKind)
 | bool
 | str
 | arr (n:Nat) (T:Ty)
 | st (Ts:List Ty)
 | sl (T:Ty)
mutual
def Ty.sh:Ty→Sh
 | .arr n T=>.arr n T.sh
 | .st Ts=>.st (Ty.shs Ts)
 | .int _ | .bool | .str | .sl _=>.leaf
def Ty.shs:List Ty→List Sh
 | []=>[]
 | T::Ts=>T.sh::Ty.shs Ts
end
mutual
def ry (P:Program):TypeId→Ty→Bool
 | t,.int k=>(match P.underlying t with | some (.int k')=>k' == k | _=>false)&&P.cellsOf t == 1
 | t,.bool=>(match P.underlying t with | some .bool=>true | _=>false)&&P.cellsOf t == 1
 | t,.str=>(match P.underlying t with | some .string=>true | _=>false)&&P.cellsOf t == 1
 | t,.arr n T=>(match P.underlying t with | some (.array m e)=>m == n&&ry P e T | _=>false)&&P.cellsOf t == n*T.sh.size
 | t,.st Ts=>(match P.underlying t with | some (.struct fs)=>wa P fs.toList 0 Ts | _=>false)&&P.cellsOf t == Sh.sizes (Ty.shs Ts)
 | t,.sl T=>(match P.underlying t with | some (.slice e)=>ry P e T&&decide (0<T.sh.size) | _=>false)&&P.cellsOf t == 1
def wa (P:Program):List Field→Nat→List Ty→Bool
 | [],_,[]=>true
 | f::fs,o,T::Ts=>f.offset == o&&ry P f.type T&&wa P fs (o+T.sh.size) Ts
 | _,_,_=>false
end
mutual
def Ty.has:Ty→D→Prop
 | .int k,.int k' n=>k'=k∧(Lit.int k n).wf=true
 | .bool,.bool _=>True
 | .str,.str s=>s.size≤maxLen
 | .arr n T,.arr m s xs=>m=n∧s=T.sh∧xs.length=n∧∀x∈xs,T.has x
 | .st Ts,.st ss xs=>ss=Ty.shs Ts∧Ty.hasAll Ts xs
 | .sl T,.sl s xs=>s=T.sh∧xs.length≤9223372036854775807∧∀x∈xs,T.has x
 | _,_=>False
def Ty.hasAll:List Ty→List D→Prop
 | [],[]=>True
 | T::Ts,x::xs=>T.has x∧Ty.hasAll Ts xs
 | _,_=>False
end
theorem rq {P:Program} {t:TypeId} {T:Ty} (h:ry P t T=true):P.cellsOf t=T.sh.size:=by
 cases T <;> simp only [ry,ab,beq_iff_eq] at h <;> simp only [Ty.sh,Sh.size] <;> exact h.2
mutual
theorem Nf:∀(T:Ty) (d:D),T.has d→d.sh=T.sh
 | .int _,d,h | .bool,d,h | .str,d,h=>by cases d <;> simp [Ty.has] at h <;> rfl
 | .arr n T,d,h=>by
  cases d <;> simp only [Ty.has] at h
  obtain ⟨rfl,rfl,-⟩:=h;rfl
 | .st Ts,d,h=>by
  cases d <;> simp only [Ty.has] at h
  obtain ⟨rfl,-⟩:=h;rfl
 | .sl T,d,h=>by cases d <;> simp only [Ty.has] at h; rfl
end
section
variable {H:Type} {enc:TypeId×Value→H} {P:Program} {C:Cx} {base:Nat} {sp:Nat→Bool} {held:Bool}
theorem wm {s:Sh} {Q:D→Prop} (hs:∀d,Q d→d.sh=s):∀(n:Nat) (cs:List Value),cs.length=n*s.size→(∀i,i<n→∃d,Q d∧RD C d ((cs.drop (i*s.size)).take s.size)) →
 ∃ds:List D,ds.length=n∧(∀d∈ds,Q d)∧RDs C s ds cs
 | 0,cs,hl,_=>⟨[],rfl,by simp,by simp only [RDs]; exact dx.1 (by simpa using hl)⟩
 | n+1,cs,hl,h=>by
  obtain ⟨d,hq,hd⟩:=h 0 (by omega)
  obtain ⟨ds,h1,h2,h3⟩:=wm hs n (cs.drop s.size) (by rw [di,hl,ct]; omega) (fun i hi=>by
   obtain ⟨d,hq,hd⟩:=h (i+1) (by omega)
   refine ⟨d,hq,?_⟩;rw [ef,show s.size+i*s.size=(i+1)*s.size by rw [ct]; omega]
   exact hd)
  refine ⟨d::ds,by simp [h1],by simpa using ⟨hq,h2⟩,?_⟩
  simp only [RDs];rw [kq,gf] at hd;exact ⟨cs.take s.size,cs.drop s.size,(gj _ _).symm,hs d hq,hd,h3⟩
theorem Qb {w:World} {a:Addr} {v:Value} (h:w.cell? a=some v):a.spot=none∧∃c el fz,w.heap[a.block]? = some (.cells c el fz)∧c[a.off]? = some v:=by
 unfold World.cell? at h
 split at h
 ·rename_i c el fz hc
  split at h
  ·cases h
  ·rename_i hs
   exact ⟨by simpa using hs,c,el,fz,hc,h⟩
 ·cases h
theorem Vc {w:World} {a:Addr} {n:Nat} {cs:List Value} (hn:0<n) (h:w.cells? base a n=some cs):a.spot=none∧cs.length=n∧CellsAt w a.block a.off cs:=by
 obtain ⟨h1,h2,h3⟩:=World.cells?_some h;have h0:=h3 0 hn;rw [ah (by omega),Addr.add,if_pos rfl] at h0
 obtain ⟨hsp,c,el,fz,hc,_⟩:=Qb h0;refine ⟨hsp,h2,c,el,fz,hc,fun j u hu=>?_⟩
 have hj:j<n:=by
  have:=(al.1 hu).1;omega
 have h4:=h3 j hj;rw [hu] at h4;unfold World.cell? at h4
 have hb:(a.add j).block=a.block∧(a.add j).off=a.off+j∧(a.add j).spot=none:=by
  unfold Addr.add
  split
  ·rename_i h; subst h; exact ⟨rfl,rfl,hsp⟩
  ·exact ⟨rfl,rfl,rfl⟩
 rw [hb.1,hc,hb.2.1,hb.2.2] at h4
 simpa using h4
theorem xw {s:Sh} {Q:D→Prop} (hs:∀d,Q d→d.sh=s) (hk:0<s.size) {b:Nat}:∀(n o:Nat),0<n→(∀i,i<n→∃d cs,Q d∧RD C d cs∧cs.length=s.size∧CellsAt C.w b (o+i*s.size) cs) →
 ∃(ds:List D) (us:List Value),ds.length=n∧(∀d∈ds,Q d)∧RDs C s ds us∧us.length=n*s.size∧CellsAt C.w b o us
 | 0,o,h0,h=>absurd h0 (by omega)
 | n+1,o,_,h=>by
  obtain ⟨d,cs,hq,hd,hl,hc⟩:=h 0 (by omega)
  rw [kq,cn] at hc;rcases dp n with hn | hn
  ·subst hn
   exact ⟨[d],cs,rfl,by simpa using hq,by simp only [RDs]; exact ⟨cs,[],by simp,hs d hq,hd,rfl⟩,by omega,hc⟩
  ·obtain ⟨ds,us,h1,h2,h3,h4,h5⟩:=xw hs hk n (o+s.size) hn (fun i hi=>by
    obtain ⟨d,cs,hq,hd,hl,hc⟩:=h (i+1) (by omega)
    refine ⟨d,cs,hq,hd,hl,?_⟩;rw [show o+s.size+i*s.size=o+(i+1)*s.size by rw [ct]; omega]
    exact hc)
   refine ⟨d::ds,cs++us,by simp [h1],by simpa using ⟨hq,h2⟩,by simp only [RDs]; exact ⟨cs,us,rfl,hs d hq,hd,h3⟩,by rw [bk,hl,h4,ct]; omega,?_⟩
   obtain ⟨a,el,fz,ha,hc⟩:=hc;obtain ⟨a',el',fz',ha',hc'⟩:=h5;obtain ⟨rfl,rfl,rfl⟩:a=a'∧el=el'∧fz=fz':=by rw [ha] at ha'; simpa using ha'
   refine ⟨a,el,fz,ha,fun j u hu=>?_⟩
   by_cases hj:j<cs.length
   ·rw [av hj] at hu; exact hc j u hu
   ·rw [aw (by omega)] at hu
    have:=hc' _ u hu
    rwa [show o+s.size+(j-cs.length)=o+j by omega] at this
mutual
theorem t7 (hI:∀b,b<C.w.heap.size→C.I b):∀(T:Ty) (t:TypeId) (fuel:Nat) (cs:List Value) (x:DataW H×List MemPlace),ry P t T=true→DataW.trod enc P C.w base sp held fuel t cs=some x→∃d,T.has d∧RD C d cs
 | .int k,t,fuel,cs,x,hf,h=>by
  simp only [ry,ab] at hf
  replace hf:=hf.1
  split at hf <;> simp at hf
  rename_i k' hu
  subst hf;obtain ⟨n,rfl,-,hw⟩:=DataW.trod_int hu h;exact ⟨.int k' n,⟨rfl,hw⟩,rfl⟩
 | .bool,t,fuel,cs,x,hf,h=>by
  simp only [ry,ab] at hf
  replace hf:=hf.1
  split at hf <;> simp at hf
  rename_i hu
  obtain ⟨b,rfl,-⟩:=DataW.trod_bool hu h;exact ⟨.bool b,trivial,rfl⟩
 | .str,t,fuel,cs,x,hf,h=>by
  simp only [ry,ab] at hf
  replace hf:=hf.1
  split at hf <;> simp at hf
  rename_i hu
  obtain ⟨s,rfl,-,hw⟩:=DataW.trod_string hu h;exact ⟨.str s,hw,rfl⟩
 | .arr n T,t,fuel,cs,x,hf,h=>by
  have hsz:=rq hf;simp only [ry,ab] at hf
  replace hf:=hf.1
  split at hf <;> simp at hf
  rename_i m e hu
  obtain ⟨rfl,hfe⟩:=hf;have hse:=rq hfe;obtain ⟨xs,k,-,-,hl,hxl,hx⟩:=DataW.trod_array hu h
  obtain ⟨ds,h1,h2,h3⟩:=wm (C:=C) (s:=T.sh) (Q:=T.has) (Nf T) m cs (by rw [hl,hsz]; rfl) (fun i hi=>by
   have h4:=hx i hi;rw [ah (by omega),hse] at h4
   exact t7 hI T e k _ _ hfe h4)
  exact ⟨.arr m T.sh ds,⟨rfl,rfl,h1,h2⟩,by simp only [RD]; exact ⟨h1,h3⟩⟩
 | .st Ts,t,fuel,cs,x,hf,h=>by
  have hsz:=rq hf;simp only [ry,ab] at hf
  replace hf:=hf.1
  split at hf
  case h_2=>cases hf
  rename_i fs hu
  obtain ⟨xs,k,-,-,hl,hxl,hx⟩:=DataW.trod_struct hu h
  obtain ⟨ds,h1,h2⟩:=wn hI Ts fs.toList 0 k cs hf (by rw [hl,hsz]; simp [Ty.sh,Sh.size]) (fun f hfm=>by
   obtain ⟨i,hi,rfl⟩:=i5 hfm;have h4:=hx i fs.toList[i] (by rw [←gp]; exact ah hi)
   rw [ah (by rw [hxl,←ow]; exact hi)] at h4
   exact ⟨_,h4⟩)
  exact ⟨.st (Ty.shs Ts) ds,⟨rfl,h1⟩,by simp only [RD]; exact h2⟩
 | .sl T,t,fuel,cs,x,hf,h=>by
  simp only [ry,ab] at hf
  replace hf:=hf.1
  split at hf <;> simp at hf
  rename_i e hu
  obtain ⟨hfe,hk⟩:=hf;have hse:=rq hfe;rcases DataW.trod_slice hu h with ⟨rfl,-⟩ | ⟨a,len,cap,elems,rest,n,-,rfl,-,hb,hle,hcap,hel,hx,-⟩
  ·exact ⟨.sl T.sh [],⟨rfl,by simp,by simp⟩,by simp only [RD]; exact ⟨none,0,rfl,ap _,.inl trivial⟩⟩
  ·rcases dp len with h0 | h0
   ·subst h0
    exact ⟨.sl T.sh [],⟨rfl,by simp,by simp⟩,by simp only [RD]; exact ⟨_,cap,rfl,hle,.inl trivial⟩⟩
   ·have hcell:∀i,i<len→∃d cs,T.has d∧RD C d cs∧cs.length=T.sh.size∧(a.add (i*T.sh.size)).spot=none∧CellsAt C.w a.block (a.off+i*T.sh.size) cs:=fun i hi=>by
     have h4:=hx i hi;rw [ah (by omega),hse] at h4
     obtain ⟨cs,hc,hy⟩:=a4.1 h4;obtain ⟨h5,h6,h7⟩:=Vc hk hc;obtain ⟨d,hd1,hd2⟩:=t7 hI T e n _ _ hfe hy
     have hbl:(a.add (i*T.sh.size)).block=a.block∧(a.add (i*T.sh.size)).off=a.off+i*T.sh.size:=by
      unfold Addr.add
      split
      ·rename_i h; rw [h]; exact ⟨rfl,rfl⟩
      ·exact ⟨rfl,rfl⟩
     rw [hbl.1,hbl.2] at h7;exact ⟨d,cs,hd1,hd2,h6,h5,h7⟩
    obtain ⟨ds,us,h1,h2,h3,h4,h5⟩:=xw (C:=C) (s:=T.sh) (Q:=T.has) (Nf T) hk len a.off h0 (fun i hi=>by
     obtain ⟨d,cs,g1,g2,g3,-,g4⟩:=hcell i hi;exact ⟨d,cs,g1,g2,g3,g4⟩)
    have hsp:a.spot=none:=by
     obtain ⟨_,_,_,_,_,g,_⟩:=hcell 0 h0;rw [kq,Addr.add,if_pos rfl] at g;exact g
    have hlt:a.block<C.w.heap.size:=by
     obtain ⟨c,el,fz,hc,-⟩:=h5;exact (c7.1 hc).1
    refine ⟨.sl T.sh ds,⟨rfl,by rw [h1]; unfold maxLen at hcap; omega,h2⟩,?_⟩
    simp only [RD];refine ⟨some a,cap,by rw [h1],by omega,.inr ⟨a.block,a.off,us,?_,hI _ hlt,h3,h5⟩⟩
    cases a;simp only at hsp;rw [hsp]
theorem wn (hI:∀b,b<C.w.heap.size→C.I b):∀(Ts:List Ty) (fs:List Field) (o fuel:Nat) (cs:List Value),wa P fs o Ts=true→cs.length=o+Sh.sizes (Ty.shs Ts) →
 (∀f∈fs,∃x,DataW.trod enc P C.w base sp held fuel f.type ((cs.drop f.offset).take (P.cellsOf f.type))=some x)→∃ds,Ty.hasAll Ts ds∧RDst C (Ty.shs Ts) ds (cs.drop o)
 | [],[],o,fuel,cs,_,hl,_=>⟨[],trivial,by simp only [Ty.shs,RDst]; rw [List.drop_eq_nil_iff]; simp [Ty.shs,Sh.sizes] at hl; omega⟩
 | [],_::_,o,fuel,cs,hf,_,_=>by simp [wa] at hf
 | _::_,[],o,fuel,cs,hf,_,_=>by simp [wa] at hf
 | T::Ts,f::fs,o,fuel,cs,hf,hl,h=>by
  simp only [wa,ab,beq_iff_eq] at hf;obtain ⟨⟨ho,hft⟩,hfs⟩:=hf;have hse:=rq hft;simp only [Ty.shs,Sh.sizes] at hl;obtain ⟨x,hx⟩:=h f (by simp)
  obtain ⟨d,hd1,hd2⟩:=t7 hI T f.type fuel _ x hft hx;obtain ⟨ds,h1,h2⟩:=wn hI Ts fs (o+T.sh.size) fuel cs hfs (by omega) (fun g hg=>h g (List.mem_cons_of_mem _ hg))
  refine ⟨d::ds,⟨hd1,h1⟩,?_⟩;simp only [Ty.shs,RDst];rw [hse,ho] at hd2;refine ⟨_,_,?_,Nf T d hd1,hd2,h2⟩;rw [←ef,gj]
end
theorem Xc {W:World} {r:Reach} {T:Ty} {t:TypeId} {v:Value} {d:D} (hf:ry P t T=true) (hd:T.has d) (h:Value.okWide P W r base t v):isAgg v=d.isAgg:=by
 unfold Value.okWide at h;cases T with
 | int k=>
  simp only [ry,ab] at hf
  replace hf:=hf.1
  split at hf <;> simp at hf
  rename_i k' hu
  rw [hu] at h;cases d <;> simp only [Ty.has] at hd
  cases v <;> first | rfl | (simp [Cell.okWide,Cell.ok,hu] at h; done)
 | bool=>
  simp only [ry,ab] at hf
  replace hf:=hf.1
  split at hf <;> simp at hf
  rename_i hu
  rw [hu] at h;cases d <;> simp only [Ty.has] at hd
  cases v <;> first | rfl | (simp [Cell.okWide,Cell.ok,hu] at h; done)
 | str=>
  simp only [ry,ab] at hf
  replace hf:=hf.1
  split at hf <;> simp at hf
  rename_i hu
  rw [hu] at h;cases d <;> simp only [Ty.has] at hd
  cases v <;> first | rfl | (simp [Cell.okWide,Cell.ok,hu] at h; done)
 | sl T=>
  simp only [ry,ab] at hf
  replace hf:=hf.1
  split at hf <;> simp at hf
  rename_i e hu
  rw [hu] at h;cases d <;> simp only [Ty.has] at hd
  cases v <;> first | rfl | (simp [Cell.okWide,Cell.ok,hu] at h; done)
 | arr n T=>
  simp only [ry,ab] at hf
  replace hf:=hf.1
  split at hf
  case h_2=>cases hf
  rename_i hu
  rw [hu] at h;obtain ⟨cs,rfl,-⟩:=h;cases d <;> simp only [Ty.has] at hd
  rfl
 | st Ts=>
  simp only [ry,ab] at hf
  replace hf:=hf.1
  split at hf
  case h_2=>cases hf
  rename_i hu
  rw [hu] at h;obtain ⟨cs,rfl,-⟩:=h;cases d <;> simp only [Ty.has] at hd
  rfl
def ul (P:Program):List TypeId→List Ty→Bool
 | [],[]=>true
 | t::ts,T::Ts=>ry P t T&&P.readableRec t&&decide (t<P.types.size)&&ul P ts Ts
 | _,_=>false
theorem Ee (hI:∀b,b<C.w.heap.size→C.I b) {r:Reach} {b0:Nat}:∀(ts:List TypeId) (Ts:List Ty) (vs:List Value) (ds:List (DataW H)) (ps:List MemPlace),ul P ts Ts=true→DataW.TrodAll enc P C.w base sp held ts vs ds ps →
 (∀(j:Nat) t v,ts[j]? = some t→vs[j]? = some v→Value.okWide P C.w r b0 t v)→∃xs,Ty.hasAll Ts xs∧RVs C xs vs
 | [],[],vs,ds,ps,_,h,_=>by
  obtain ⟨rfl,-,-⟩:=trodAll_nil h;exact ⟨[],trivial,by simp only [RVs]⟩
 | [],_::_,vs,ds,ps,hf,_,_=>by simp [ul] at hf
 | _::_,[],vs,ds,ps,hf,_,_=>by simp [ul] at hf
 | t::ts,T::Ts,vs,ds,ps,hf,h,hv=>by
  simp only [ul,ab] at hf;obtain ⟨⟨⟨hf1,-⟩,-⟩,hf2⟩:=hf;obtain ⟨v,vs',d,ds',p,q,rfl,rfl,rfl,⟨fuel,hd⟩,hr⟩:=trodAll_cons h;obtain ⟨x,hx1,hx2⟩:=t7 hI T t fuel _ _ hf1 hd;obtain ⟨xs,h1,h2⟩:=Ee hI ts Ts vs' ds' q hf2 hr (fun j t' v' hj hv'=>hv (j+1) t' v' (by simpa using hj) (by simpa using hv'))
  refine ⟨x::xs,⟨hx1,h1⟩,?_⟩;simp only [RVs];exact ⟨v,vs',rfl,Xc hf1 hx1 (hv 0 t v rfl rfl),hx2,h2⟩
theorem Et {W W':World} (hl:laidOutB P=true) (hb:RowKit.Below W.heap.size W W'):∀(ts:List TypeId) (Ts:List Ty) (vs:List Value) (ds:List (DataW H)) (ps:List MemPlace),ul P ts Ts=true→DataW.TrodAll enc P W 0 (fun _=>true) true ts vs ds ps →
 (∀x∈ps,x.block<W.heap.size)→DataW.TrodAll enc P W' 0 (fun b=>decide (b<W.heap.size)) true ts vs ds ps
 | [],[],vs,ds,ps,_,h,_=>by
  obtain ⟨rfl,rfl,rfl⟩:=trodAll_nil h;rfl
 | [],_::_,vs,ds,ps,hf,_,_=>by simp [ul] at hf
 | _::_,[],vs,ds,ps,hf,_,_=>by simp [ul] at hf
 | t::ts,T::Ts,vs,ds,ps,hf,h,hp=>by
  simp only [ul,ab,decide_eq_true_eq] at hf;obtain ⟨⟨⟨-,hf1⟩,hf3⟩,hf2⟩:=hf;obtain ⟨v,vs',d,ds',p,q,rfl,rfl,rfl,hd,hr⟩:=trodAll_cons h;exact ⟨p,q,RowKit.Below.trod hl hf1 hf3 hd hb (fun x hx=>hp x (bp _ hx)),Et hl hb ts Ts vs' ds' q hf2 hr (fun x hx=>hp x (List.mem_append_right _ hx)),rfl⟩
def ym (P:Program) (f:Func):Bool:=match f.resultTypes.toList with
 | [t]=>match P.underlying t with
  | some .bool=>true
  | _=>false
 | _=>false
theorem Dl {f:Func} (h:ym P f=true):∃tb,f.resultTypes = #[tb]∧P.underlying tb=some .bool:=by
 unfold ym at h
 split at h
 ·rename_i t ht
  split at h
  ·rename_i hu
   exact ⟨t,by rw [←Array.toList_inj,ht],hu⟩
  ·cases h
 ·cases h
theorem Q7 {f:Func} {s:ChangeSpec} {apart fresh:Bool} {W W':World} {args:Array Value} {ds gs:List (DataW H)} {before:List MemPlace} {Ts:List Ty}
 (hW:DataW.Whole enc P f.params.toList s.vars apart W args.toList ds gs before) (hvars:s.vars=[]) (hs:s.fn H (ds++gs) = { results:=[.lit (.bool true)],args:=ds })
 (hr:ym P f=true) (hl:laidOutB P=true) (hf:ul P f.params.toList Ts=true) (hb:RowKit.Below W.heap.size W W') :
 s.post enc P f apart fresh false false W args (.bool true) W':=by
 have hW0:=hW;obtain ⟨p,q,hA,hV,rfl,hz,hn⟩:=hW;have hlt:=DataW.TrodAll.lt hA;obtain ⟨tb,hr,htb⟩:=Dl hr;rw [hvars] at hV;obtain ⟨rfl,rfl⟩:=trodVars_none hV;refine ⟨ds,[],_,[],p,[],hW0,?_,?_,?_,hb.frame _,fun h=>by cases h⟩
 ·rw [hs,hr]
  exact ⟨[],[],⟨1,by simp [DataW.trod,Value.cells,htb]⟩,rfl,rfl⟩
 ·rw [hs]
  exact Et hl hb _ _ _ _ _ hf hA hlt
 ·rw [hs,hvars]
  rfl
end
theorem Lb {P:Program} {num:Nat→Nat} {O:ac} (hO:ja P num O) {F:Nat} {xs:List D} (h:ask O F xs=some (.bool true)) {W:World} {vs:List Value} (hv:RVs ⟨W,fun b=>b<W.heap.size,num⟩ xs vs) :
 Calls P (num F) vs.toArray W fun e W'=>e=.returned (.bool true)∧RowKit.Below W.heap.size W W':=by
 unfold ask at h;obtain ⟨⟨v,bs,nb⟩,h1,h2⟩:=a4.1 h;obtain ⟨hl,-,hcall⟩:=hO F (xs.map .d) [] _ h1 ⟨W,fun b=>b<W.heap.size,num⟩ (fun _=>none) vs rfl ⟨by simp,by simp⟩ (fun b hb=>hb) (px hv)
 refine Calls.mono hcall ?_
 rintro e w' ⟨u,C2,φ2,rfl,rfl,st,-,hu⟩
 have hno:∀b,¬ OwnB (fun _=>none) [] b:=by rintro b ⟨i,B,o,hB,_⟩; simp at hB
 have hbs:bs=[]:=dx.1 hl;subst hbs;have hx:RV _ (.bool true) u:=pb st.hr v _ u h2 hu;refine ⟨?_,st.os,st.tape,st.out,st.size,fun k hk=>st.kept k hk (hno k)⟩
 simp only [RV,RD,D.isAgg] at hx;obtain ⟨h3,h4⟩:=hx;cases u <;> simp [Value.cells,isAgg] at h3 h4
 rw [h4]
end Pe

/-
 The numbers of the functions.
-/
namespace Pe
abbrev Lw (d s:Nat):Ins:=⟨some d,.mv (.t s),none,[]⟩
abbrev Ll (d:Nat) (o:Op):Ins:=⟨some d,o,none,[]⟩
abbrev Ls (o:Op):Ins:=⟨none,o,none,[]⟩
abbrev Lx (d s g:Nat) (b:Bool):Ins:=⟨some d,.mv (.t s),some (g,b),[]⟩
abbrev Lg (d:Nat) (o:Op) (g:Nat) (b:Bool):Ins:=⟨some d,o,some (g,b),[]⟩
abbrev Sx6:Sh:=.arr 64 .leaf
abbrev Sx8:Sh:=.arr 8 Sx6
abbrev Sx4:List Sh:=[.leaf,Sx6,Sx6,Sx6]
abbrev Acx (n:Int):Arg:=.c (.int .i64 n)
abbrev Ofx (f:Nat) (l:List Arg):Op:=.call .flat [] (.f f) l
abbrev Opx (f:Nat) (l:List Arg):Op:=.call .plain [] (.f f) l
abbrev Ipx (d s:Nat):Ins:=Ll d (.load Sx6 (.t s))
abbrev Ilx (d s:Nat):Ins:=Ll d (.load .leaf (.t s))
abbrev Isx (d s:Nat):Ins:=Ll d (.load Sx8 (.t s))
abbrev Iex (d s k:Nat):Ins:=Ll d (.ext (.t s) k)
abbrev F1s:Nat:=27
abbrev F1w:Nat:=57
abbrev F1t:Nat:=71
abbrev F1v:Nat:=72
abbrev F1u:Nat:=73
abbrev F2n:Nat:=138
abbrev F6:Nat:=139
abbrev F1m:Nat:=315
abbrev F1h:Nat:=318
abbrev F15:Nat:=319
abbrev F2s:Nat:=331
abbrev F30:Nat:=333
abbrev F1o:Nat:=336
abbrev F1c:Nat:=337
abbrev F1e:Nat:=341
abbrev F1d:Nat:=342
abbrev F10:Nat:=344
abbrev F1b:Nat:=347
abbrev F33:Nat:=349
abbrev F2w:Nat:=351
abbrev F12:Nat:=357
abbrev Fx:Nat:=359
abbrev F19:Nat:=360
abbrev F17:Nat:=363
abbrev F1k:Nat:=364
abbrev F32:Nat:=386
abbrev F2y:Nat:=395
abbrev F3a:Nat:=401
abbrev F3b:Nat:=402
abbrev Ft:Nat:=403
abbrev Fk:Nat:=404
abbrev Fl:Nat:=405
abbrev F2r:Nat:=408
abbrev Fh:Nat:=413
abbrev F2p:Nat:=416
abbrev F31:Nat:=417
abbrev F2v:Nat:=418
abbrev F1i:Nat:=419
abbrev F1a:Nat:=420
abbrev F1p:Nat:=421
abbrev F39:Nat:=424
abbrev Fm:Nat:=425
abbrev F14:Nat:=453
abbrev F2u:Nat:=454
abbrev F2z:Nat:=455
abbrev F35:Nat:=457
abbrev F16:Nat:=458
abbrev F1f:Nat:=469
abbrev F2t:Nat:=501
abbrev Fs:Nat:=508
abbrev F1r:Nat:=521
abbrev Fb:Nat:=530
abbrev F1g:Nat:=531
abbrev F2x:Nat:=532
abbrev Fy:Nat:=534
abbrev F34:Nat:=556
abbrev F11:Nat:=557
abbrev F1n:Nat:=558
abbrev F13:Nat:=566
abbrev F1l:Nat:=567
abbrev F1j:Nat:=568
abbrev F27:Nat:=569
abbrev F18:Nat:=570
abbrev Fj:Nat:=571
abbrev F2o:Nat:=578
abbrev F38:Nat:=579
abbrev F37:Nat:=580
abbrev F9:Nat:=581
abbrev Ff:Nat:=582
abbrev Fu:Nat:=583
abbrev Fa:Nat:=584
abbrev Fv:Nat:=585
abbrev Fq:Nat:=586
abbrev Fw:Nat:=587
abbrev Fr:Nat:=588
abbrev F23:Nat:=590
abbrev Fi:Nat:=591
abbrev F2q:Nat:=595
abbrev F36:Nat:=596
abbrev Fo:Nat:=600
abbrev Fc:Nat:=619
abbrev Fz:Nat:=620
abbrev F2j:Nat:=644
abbrev F1x:Nat:=645
abbrev F0:Nat:=646
abbrev F3:Nat:=647
abbrev F8:Nat:=649
abbrev F22:Nat:=650
abbrev Fg:Nat:=651
abbrev F1q:Nat:=652
abbrev F26:Nat:=653
abbrev F21:Nat:=658
abbrev Fe:Nat:=659
abbrev F2b:Nat:=694
abbrev F2a:Nat:=695
abbrev F28:Nat:=696
abbrev F29:Nat:=697
abbrev F2k:Nat:=698
abbrev F2g:Nat:=699
abbrev F2i:Nat:=700
abbrev F2h:Nat:=701
abbrev F1y:Nat:=702
abbrev F1z:Nat:=703
abbrev F4:Nat:=704
abbrev F5:Nat:=705
abbrev F25:Nat:=714
abbrev F24:Nat:=717
abbrev F2l:Nat:=762
abbrev F2e:Nat:=763
abbrev F2m:Nat:=764
abbrev F2c:Nat:=765
abbrev F2d:Nat:=766
abbrev F2f:Nat:=798
abbrev F7:Nat:=1139
abbrev F20:Nat:=1597
def z64:List D:=List.replicate 64 (.int .u8 0)
def z8:List D:=List.replicate 8 (.arr 64 .leaf z64)
end Pe
