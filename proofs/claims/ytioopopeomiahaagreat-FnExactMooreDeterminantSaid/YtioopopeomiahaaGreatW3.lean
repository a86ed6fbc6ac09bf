/-
  A part of the proof: an evaluator for a small form of the code, its soundness, and contracts of functions over it.
-/
import Derived.IntWalk
import Derived.Carry
import Derived.OpenShut
import GoSem.Core.View
import Derived.Test.YtioopopeomiahaaGreatW1
import Derived.Test.YtioopopeomiahaaGreatW2

namespace Pe
open Go
def a78 (np:Nat) (ks:List Nat) (s:St):Out×St:=(.normal,⟨s.e.keep ks,pb (s.e.keep ks) np 0 s.h⟩)
@[simp] theorem a95 (np:Nat) (ks:List Nat) (e:Env) (h:Heap):a78 np ks ⟨e,h⟩=(.normal,⟨e.keep ks,pb (e.keep ks) np 0 h⟩):=rfl
@[simp] theorem abp {O:ah} {np:Nat} {s:St} (is:List Ins) (ks:List Nat):dn O np (.region is ks) s=(ew O np is s).map (a78 np ks):=U0 is ks
def a6w (e:Env) (i:Ins) (r:V×Heap):St:=⟨(e.kill (i.op.kill e r.1)).putO i.dst r.1,r.2⟩
@[simp] theorem a91 (e:Env) (i:Ins) (v:V) (h:Heap):a6w e i (v,h)=⟨(e.kill (i.op.kill e v)).putO i.dst v,h⟩:=rfl
def a28 (O:ah) (np:Nat) (s:St) (i:Ins):Option Bool→Option St
 | some true=>(ap O np s.e s.h i.op).map (a6w s.e i)
 | some false=>some ⟨s.e.putO i.dst (.tup []),s.h⟩
 | none=>none
@[simp] theorem a2m (O:ah) (np:Nat) (s:St) (i:Ins):ji O np s i=a28 O np s i (i.on s.e):=rfl
section
variable {O:ah} {np:Nat} {e:Env} {h:Heap}
def kNt (x:D):Option D:=if x.isTup then none else some x
def kEl (p:List Nat) (b:Blk):Option (Sh×List D):=b.elems p
def Bo (p:List Nat) (b:Blk):Option D:=b.get p
def slD (off len:Nat):Option (Sh×List D)→Option D
 | some (s,cs)=>if off+len≤cs.length then some (.sl s ((cs.drop off).take len)) else none
 | none=>none
@[simp] theorem ab1 (x:D):kNt x=if x.isTup then none else some x:=rfl
@[simp] theorem aaz (p:List Nat) (b:Blk):kEl p b=b.elems p:=rfl
@[simp] theorem aa8 (p:List Nat) (b:Blk):Bo p b=b.get p:=rfl
@[simp] theorem a8q (off len:Nat) (s:Sh) (cs:List D):slD off len (some (s,cs))=if off+len≤cs.length then some (.sl s ((cs.drop off).take len)) else none:=rfl
@[simp] theorem a90 (v:V):ve h v=(toD h v).bind kNt:=rfl
@[simp] theorem ac0 (x:D):toD h (.d x)=some x:=by simp [toD]
def a41 (p:List Nat) (b:Blk):Option (Sh×List D):=b.dels p
@[simp] theorem a9a (p:List Nat) (b:Blk):a41 p b=b.dels p:=rfl
@[simp] theorem a9j (fr:Bool) (s:Sh) (cs:List D) (p:List Nat):(Blk.sl fr s cs).dels p=(Blk.sl fr s cs).elems p:=rfl
@[simp] theorem a7q (fr:Bool) (d:D) (p:List Nat):(Blk.box fr d).dels p=(Blk.box fr d).elems p:=rfl
@[simp] theorem a6g (fr:Bool) (s:Sh) (idx:List Nat) (rows:List (List D)):(Blk.tb fr s idx rows).dels [0]=(zu s rows idx).map (Prod.mk .leaf):=rfl
@[simp] theorem a8m (fr:Bool) (s:Sh) (idx:List Nat) (rows:List (List D)) (r:Nat):(Blk.tb fr s idx rows).dels [r+1]=(rows[r]?).map (Prod.mk s):=rfl
@[simp] theorem aaw (i:Nat) (p:List Nat) (off len:Nat) (cap:Option Nat):toD h (.sl i p off len cap)=slD off len ((h[i]?).bind (a41 p)):=by
 have:(a41 p)=(Blk.dels · p):=rfl
 rw [this];simp only [toD];cases (h[i]?).bind (Blk.dels · p) <;> rfl
@[simp] theorem ac3 (x:D):toE h (.d x)=some x:=rfl
@[simp] theorem abh (i:Nat) (p:List Nat) (off len:Nat) (cap:Option Nat):toE h (.sl i p off len cap)=slD off len ((h[i]?).bind (kEl p)):=by
 have:(kEl p)=(Blk.elems · p):=rfl
 rw [this];simp only [toE];cases (h[i]?).bind (Blk.elems · p) <;> rfl
@[simp] theorem a8u (i:Nat) (p:List Nat):toD h (.ptr i p)=((h[i]?).bind (Bo p)).map .ip:=by simp only [toD]; rfl
def kFn (h:Heap) (f:Nat) (caps:List V) (a:List D):Option D:=(ku h caps).map (.fn f a)
@[simp] theorem aas (f:Nat) (caps:List V) (a:List D):kFn h f caps a=(ku h caps).map (.fn f a):=rfl
@[simp] theorem aam (f:Nat) (first caps:List V):toD h (.fn f first caps)=(ku h first).bind (kFn h f caps):=by simp only [toD]; rfl
@[simp] theorem a9h (vs:List V):toD h (.tup vs)=(ku h vs).map .tup:=by simp only [toD]
def kDs (h:Heap) (vs:List V) (x:D):Option (List D):=if x.isTup then none else (ku h vs).map (List.cons x)
@[simp] theorem a48 (vs:List V) (x:D):kDs h vs x=if x.isTup then none else (ku h vs).map (List.cons x):=rfl
@[simp] theorem a72:ku h []=some []:=by simp [ku]
@[simp] theorem Sd (v:V) (vs:List V):ku h (v::vs)=(toD h v).bind (kDs h vs):=by simp only [ku]; rfl
def a1v (e:Env) (as:List Arg) (v:V):Option (List V):=(e.args as).map (List.cons v)
@[simp] theorem a79 (as:List Arg) (v:V):a1v e as v=(e.args as).map (List.cons v):=rfl
@[simp] theorem a5y:e.args []=some []:=rfl
@[simp] theorem a5k (a:Arg) (as:List Arg):e.args (a::as)=(e.arg a).bind (a1v e as):=rfl
def kMv (h:Heap) (v:V):V×Heap:=(v,h)
@[simp] theorem abu (v:V):kMv h v=(v,h):=rfl
@[simp] theorem ac9 (x:Arg):ap O np e h (.mv x)=(e.arg x).map (kMv h):=rfl
def a2j (h:Heap):V→Option (V×Heap)
 | .d (.ip y)=>some (.d (.ip y),h)
 | .ptr i p=>some (.ptr i p,h)
 | _=>none
@[simp] theorem abq (y:D):a2j h (.d (.ip y))=some (.d (.ip y),h):=rfl
@[simp] theorem aao (i:Nat) (p:List Nat):a2j h (.ptr i p)=some (.ptr i p,h):=rfl
@[simp] theorem abk (x:Arg):ap O np e h (.chk x)=(e.arg x).bind (a2j h):=by
 simp only [ap];cases e.arg x with
 | none=>rfl
 | some v=>cases v <;> try rfl
           rename_i d; cases d <;> rfl
def a24 (e:Env) (h:Heap) (a b:Arg):V→Option (V×Heap)
 | .d (.bool t)=>(e.arg (if t then a else b)).map (kMv h)
 | _=>none
@[simp] theorem aad (a b:Arg) (t:Bool):a24 e h a b (.d (.bool t))=(e.arg (if t then a else b)).map (kMv h):=rfl
@[simp] theorem aaf (c a b:Arg):ap O np e h (.pick c a b)=(e.arg c).bind (a24 e h a b):=by
 simp only [ap];cases e.arg c with
 | none=>rfl
 | some v=>cases v <;> try rfl
           rename_i d; cases d <;> rfl
def X5 (i:Nat) (d:D) (h:Heap):Option (V×Heap):=(ek h i (.box false d)).map (Prod.mk (.ptr i []))
@[simp] theorem a8l (i:Nat) (d:D):X5 i d h=(ek h i (.box false d)).map (Prod.mk (.ptr i [])):=rfl
def Wq (np:Nat) (h:Heap) (fz:Bool) (i:Nat) (rs:List Nat) (d:D):Option (V×Heap):=(freezeIf fz h rs).bind (X5 (np+i) d)
@[simp] theorem a88 (fz:Bool) (i:Nat) (rs:List Nat) (d:D):Wq np h fz i rs d=(freezeIf fz h rs).bind (X5 (np+i) d):=rfl
def a7l (np:Nat) (h:Heap) (fz:Bool) (i:Nat) (v:V):Option (V×Heap):=(ve h v).bind (Wq np h fz i v.refs)
@[simp] theorem aae (fz:Bool) (i:Nat) (v:V):a7l np h fz i v=(ve h v).bind (Wq np h fz i v.refs):=rfl
@[simp] theorem abo (fz:Bool) (i:Nat) (x:Arg):ap O np e h (.box fz i x)=(e.arg x).bind (a7l np h fz i):=rfl
def Ed (h:Heap) (s:Sh) (x:D):Option (V×Heap):=if Sh.beq x.sh s then some (.d x,h) else none
@[simp] theorem a57 (s:Sh) (x:D):Ed h s x=if Sh.beq x.sh s then some (.d x,h) else none:=rfl
def Xu (h:Heap) (s:Sh):V→Option (V×Heap)
 | .d (.ip x)=>Ed h s x
 | .ptr i p=>((h[i]?).bind (Bo p)).bind (Ed h s)
 | _=>none
@[simp] theorem aal (s:Sh) (x:D):Xu h s (.d (.ip x))=Ed h s x:=rfl
@[simp] theorem a9x (s:Sh) (i:Nat) (p:List Nat):Xu h s (.ptr i p)=((h[i]?).bind (Bo p)).bind (Ed h s):=rfl
@[simp] theorem aag (s:Sh) (x:Arg):ap O np e h (.load s x)=(e.arg x).bind (Xu h s):=by
 simp only [ap];cases e.arg x with
 | none=>rfl
 | some v=>cases v <;> try rfl
           rename_i d; cases d <;> rfl
def Yl (h:Heap) (o:BinOp):V→V→Option (V×Heap)
 | .d a,.d b=>(sb o a b).map fun r=>(.d r,h)
 | _,_=>none
def kD (h:Heap) (r:D):V×Heap:=(.d r,h)
@[simp] theorem ac5 (r:D):kD h r=(.d r,h):=rfl
@[simp] theorem abv (o:BinOp) (a b:D):Yl h o (.d a) (.d b)=(sb o a b).map (kD h):=rfl
def Qu (e:Env) (h:Heap) (o:BinOp) (y:Arg) (v:V):Option (V×Heap):=(e.arg y).bind (Yl h o v)
@[simp] theorem a7u (o:BinOp) (y:Arg) (v:V):Qu e h o y v=(e.arg y).bind (Yl h o v):=rfl
@[simp] theorem abj (o:BinOp) (x y:Arg):ap O np e h (.bin o x y)=(e.arg x).bind (Qu e h o y):=by
 simp only [ap];cases e.arg x with
 | none=>rfl
 | some v=>
  cases hy:e.arg y with
  | none=>cases v <;> simp [Qu,hy]
  | some w=>cases v <;> cases w <;> simp [Qu,hy,Yl]
theorem two {α:Type} {x y:Option V} {f:V→V→Option α} {g:Option α} (h1:∀v w,x=some v→y=some w→g=f v w) (h2:x=none∨y=none→g=none):g=x.bind fun v=>y.bind (f v):=by
 cases hx:x with
 | none=>exact h2 (.inl hx)
 | some v=>
  cases hy:y with
  | none=>exact h2 (.inr hy)
  | some w=>exact h1 v w hx hy
def kUn (h:Heap) (o:UnOp):V→Option (V×Heap)
 | .d a=>(unD o a).map (kD h)
 | _=>none
@[simp] theorem ac8 (o:UnOp) (a:D):kUn h o (.d a)=(unD o a).map (kD h):=rfl
@[simp] theorem ac6 (o:UnOp) (x:Arg):ap O np e h (.un o x)=(e.arg x).bind (kUn h o):=by
 simp only [ap];cases e.arg x with
 | none=>rfl
 | some v=>cases v <;> rfl
def a1r (h:Heap) (k:IntKind):V→Option (V×Heap)
 | .d (.int _ n)=>some (.d (.int k (k.wrap n)),h)
 | _=>none
@[simp] theorem a9w (k q:IntKind) (n:Int):a1r h k (.d (.int q n))=some (.d (.int k (k.wrap n)),h):=rfl
@[simp] theorem a8y (k:IntKind) (x:Arg):ap O np e h (.conv k x)=(e.arg x).bind (a1r h k):=by
 simp only [ap];cases e.arg x with
 | none=>rfl
 | some v=>cases v <;> try rfl
           rename_i d; cases d <;> rfl
def a6r (h:Heap) (ss:List Sh) (j:Nat):V→Option (V×Heap)
 | .d (.st ts cs)=>if Sh.beqs ts ss then (cs[j]?).map (kD h) else none
 | _=>none
@[simp] theorem aar (ss ts:List Sh) (j:Nat) (cs:List D):a6r h ss j (.d (.st ts cs))=if Sh.beqs ts ss then (cs[j]?).map (kD h) else none:=rfl
@[simp] theorem aan (ss:List Sh) (x:Arg) (j:Nat):ap O np e h (.fld ss x j)=(e.arg x).bind (a6r h ss j):=by
 simp only [ap];cases e.arg x with
 | none=>rfl
 | some v=>cases v <;> try rfl
           rename_i d; cases d <;> rfl
def kIp (h:Heap) (c:D):V×Heap:=(.d (.ip c),h)
@[simp] theorem abs (c:D):kIp h c=(.d (.ip c),h):=rfl
def N7 (h:Heap) (ss:List Sh) (i:Nat) (p:List Nat) (y:D):Option (V×Heap):=if Sh.beq y.sh (.st ss) then some (.ptr i p,h) else none
@[simp] theorem a5a (ss:List Sh) (i:Nat) (p:List Nat) (y:D):N7 h ss i p y=if Sh.beq y.sh (.st ss) then some (.ptr i p,h) else none:=rfl
def Ya (h:Heap) (ss:List Sh) (j:Nat):V→Option (V×Heap)
 | .ptr i p=>((h[i]?).bind (Bo p)).bind (N7 h ss i (p++[j]))
 | .d (.ip (.st ts cs))=>if Sh.beqs ts ss then (cs[j]?).map (kIp h) else none
 | _=>none
@[simp] theorem a9v (ss:List Sh) (j i:Nat) (p:List Nat):Ya h ss j (.ptr i p)=((h[i]?).bind (Bo p)).bind (N7 h ss i (p++[j])):=rfl
@[simp] theorem a9r (ss ts:List Sh) (j:Nat) (cs:List D):Ya h ss j (.d (.ip (.st ts cs)))=if Sh.beqs ts ss then (cs[j]?).map (kIp h) else none:=rfl
@[simp] theorem aa4 (ss:List Sh) (x:Arg) (j:Nat):ap O np e h (.fldA ss x j)=(e.arg x).bind (Ya h ss j):=by
 simp only [ap];cases e.arg x with
 | none=>rfl
 | some v=>cases v <;> try rfl
           rename_i d; cases d <;> try rfl
           rename_i d; cases d <;> rfl
def a37 (h:Heap) (j:Nat):V→Option (V×Heap)
 | .d (.tup vs)=>(vs[j]?).map (kD h)
 | .tup vs=>(vs[j]?).map (kMv h)
 | _=>none
@[simp] theorem abb (j:Nat) (vs:List D):a37 h j (.d (.tup vs))=(vs[j]?).map (kD h):=rfl
@[simp] theorem abr (j:Nat) (vs:List V):a37 h j (.tup vs)=(vs[j]?).map (kMv h):=rfl
@[simp] theorem ab0 (x:Arg) (j:Nat):ap O np e h (.ext x j)=(e.arg x).bind (a37 h j):=by
 simp only [ap];cases e.arg x with
 | none=>rfl
 | some v=>cases v <;> try rfl
           rename_i d; cases d <;> rfl
def a1f (h:Heap):Bool→V→Option (V×Heap)
 | false,.d (.sl _ cs)=>some (.d (.int .i64 cs.length),h)
 | false,.sl _ _ _ n _=>some (.d (.int .i64 n),h)
 | true,.d (.str b)=>some (.d (.int .i64 b.size),h)
 | _,_=>none
@[simp] theorem aav (s:Sh) (cs:List D):a1f h false (.d (.sl s cs))=some (.d (.int .i64 cs.length),h):=rfl
@[simp] theorem ab7 (i:Nat) (p:List Nat) (off n:Nat) (cap:Option Nat):a1f h false (.sl i p off n cap)=some (.d (.int .i64 n),h):=rfl
@[simp] theorem abf (b:ByteArray):a1f h true (.d (.str b))=some (.d (.int .i64 b.size),h):=rfl
@[simp] theorem ab4 (str:Bool) (x:Arg):ap O np e h (.len str x)=(e.arg x).bind (a1f h str):=by
 cases str <;> simp only [ap]
 ·cases e.arg x with
  | none=>rfl
  | some v=>cases v <;> try rfl
            rename_i d; cases d <;> rfl
 ·cases e.arg x with
  | none=>rfl
  | some v=>cases v <;> try rfl
            rename_i d; cases d <;> rfl
def za (O:ah) (np:Nat) (h:Heap) (m:Mode) (news:List Nat) (g:Nat×List V×List V) (vs:List V):Option (V×Heap):=
 match m with
 | .heap=>jq O np news h g.1 (g.2.1++vs++g.2.2)
 | _=>fl O m h g.1 (g.2.1++vs++g.2.2)
def H9 (O:ah) (np:Nat) (e:Env) (h:Heap) (m:Mode) (news:List Nat) (as:List Arg) (g:Nat×List V×List V):Option (V×Heap):=(e.args as).bind (za O np h m news g)
@[simp] theorem a4u (m:Mode) (news:List Nat) (as:List Arg) (g:Nat×List V×List V):H9 O np e h m news as g=(e.args as).bind (za O np h m news g):=rfl
def Oz (O:ah) (np:Nat) (e:Env) (h:Heap) (m:Mode) (news:List Nat) (as:List Arg) (fv:V):Option (V×Heap):=(callee fv).bind (H9 O np e h m news as)
@[simp] theorem a5c (m:Mode) (news:List Nat) (as:List Arg) (fv:V):Oz O np e h m news as fv=(callee fv).bind (H9 O np e h m news as):=rfl
@[simp] theorem aak (m:Mode) (news:List Nat) (f:Arg) (as:List Arg):ap O np e h (.call m news f as)=(e.arg f).bind (Oz O np e h m news as):=by
 simp only [ap];cases e.arg f with
 | none=>rfl
 | some fv=>
  simp only [aa,Oz];cases callee fv with
  | none=>rfl
  | some g=>
   simp only [aa,H9];cases e.args as with
   | none=>rfl
   | some vs=>cases m <;> rfl
def T2 (m:Mode) (h:Heap) (rs:List Nat) (x:D):Option (V×Heap):=
 match m with
 | .flat=>if x.flat then some (.d x,h) else none
 | .plain=>if rs.isEmpty then some (.d x,h) else none
 | _=>some (.d x,freeze h rs)
@[simp] theorem A3 (rs:List Nat) (x:D):T2 .flat h rs x=if x.flat then some (.d x,h) else none:=rfl
@[simp] theorem a2k (rs:List Nat) (x:D):T2 .plain h rs x=if rs.isEmpty then some (.d x,h) else none:=rfl
@[simp] theorem a5h (rs:List Nat) (x:D):T2 .data h rs x=some (.d x,freeze h rs):=rfl
def a3v (m:Mode) (h:Heap) (rs:List Nat):Ans→Option (V×Heap)
 | (v,_,nb)=>(toD nb v).bind (T2 m h rs)
@[simp] theorem a9u (m:Mode) (rs:List Nat) (v:V) (bs nb:Heap):a3v m h rs (v,bs,nb)=(toD nb v).bind (T2 m h rs):=rfl
def On (O:ah) (m:Mode) (h:Heap) (f:Nat) (rs:List Nat) (ds:List D):Option (V×Heap):=(O f (ds.map .d) []).bind (a3v m h rs)
def a3o:Ans→Option D
 | (v,_,nb)=>toD nb v
@[simp] theorem aa9 (v:V) (bs nb:Heap):a3o (v,bs,nb)=toD nb v:=rfl
def ask (O:ah) (f:Nat) (ds:List D):Option D:=(O f (ds.map .d) []).bind a3o
@[simp] theorem Cr (m:Mode) (f:Nat) (rs:List Nat) (ds:List D):On O m h f rs ds=(ask O f ds).bind (T2 m h rs):=by
 unfold On ask;cases O f (ds.map .d) [] with
 | none=>rfl
 | some r=>obtain ⟨v,bs,nb⟩:=r; rfl
theorem v4 (m:Mode) (f:Nat) (vs:List V):fl O m h f vs=(ku h vs).bind (On O m h f (V.refss vs)):=by
 unfold fl;cases ku h vs with
 | none=>rfl
 | some ds=>
  simp only [aa,On];cases O f (ds.map .d) [] with
  | none=>rfl
  | some r=>
   obtain ⟨v,bs,nb⟩:=r;simp only [aa,a3v];cases toD nb v with
   | none=>rfl
   | some x=>cases m <;> rfl
@[simp] theorem yh (news:List Nat) (f:Nat) (a c vs:List V):za O np h .flat news (f,a,c) vs=(ku h (a++vs++c)).bind (On O .flat h f (V.refss (a++vs++c))):=by
 show fl O .flat h f (a++vs++c)=_;exact v4 _ _ _
@[simp] theorem a1y (news:List Nat) (f:Nat) (a c vs:List V):za O np h .plain news (f,a,c) vs=(ku h (a++vs++c)).bind (On O .plain h f (V.refss (a++vs++c))):=by
 show fl O .plain h f (a++vs++c)=_;exact v4 _ _ _
@[simp] theorem a3f (news:List Nat) (f:Nat) (a c vs:List V):za O np h .data news (f,a,c) vs=(ku h (a++vs++c)).bind (On O .data h f (V.refss (a++vs++c))):=by
 show fl O .data h f (a++vs++c)=_;exact v4 _ _ _
@[simp] theorem a40 (news:List Nat) (f:Nat) (a c vs:List V):za O np h .heap news (f,a,c) vs=jq O np news h f (a++vs++c):=rfl
def a3r (h:Heap) (i:Nat) (b:Blk):V×Heap:=(.tup [],h.set i b)
@[simp] theorem aa0 (i:Nat) (b:Blk):a3r h i b=(.tup [],h.set i b):=rfl
def a42 (h:Heap) (i:Nat) (p:List Nat) (d:D) (b:Blk):Option (V×Heap):=(b.set p d).map (a3r h i)
@[simp] theorem aa1 (i:Nat) (p:List Nat) (d:D) (b:Blk):a42 h i p d b=(b.set p d).map (a3r h i):=rfl
def Ie (s:Sh) (d:D) (h:Heap):V→Option (V×Heap)
 | .ptr i p=>if Sh.beq d.sh s then (h[i]?).bind (a42 h i p d) else none
 | _=>none
@[simp] theorem a4t (s:Sh) (d:D) (i:Nat) (p:List Nat):Ie s d h (.ptr i p)=if Sh.beq d.sh s then (h[i]?).bind (a42 h i p d) else none:=rfl
def Cc (e:Env) (s:Sh) (p:Arg) (d:D) (h:Heap):Option (V×Heap):=(e.arg p).bind (Ie s d h)
@[simp] theorem a35 (s:Sh) (p:Arg) (d:D):Cc e s p d h=(e.arg p).bind (Ie s d h):=rfl
def Bz (e:Env) (h:Heap) (fz:Bool) (s:Sh) (p:Arg) (rs:List Nat) (d:D):Option (V×Heap):=(freezeIf fz h rs).bind (Cc e s p d)
@[simp] theorem a2v (fz:Bool) (s:Sh) (p:Arg) (rs:List Nat) (d:D):Bz e h fz s p rs d=(freezeIf fz h rs).bind (Cc e s p d):=rfl
def N6 (e:Env) (h:Heap) (fz:Bool) (s:Sh) (p:Arg) (v:V):Option (V×Heap):=(ve h v).bind (Bz e h fz s p v.refs)
@[simp] theorem a4m (fz:Bool) (s:Sh) (p:Arg) (v:V):N6 e h fz s p v=(ve h v).bind (Bz e h fz s p v.refs):=rfl
@[simp] theorem a8e (fz:Bool) (s:Sh) (p x:Arg):ap O np e h (.store fz s p x)=(e.arg x).bind (N6 e h fz s p):=by
 simp only [ap];cases e.arg x with
 | none=>rfl
 | some v=>
  simp only [aa,N6];cases ve h v with
  | none=>rfl
  | some d=>
   simp only [aa,Bz];cases freezeIf fz h v.refs with
   | none=>rfl
   | some h'=>
    simp only [aa,Cc];cases e.arg p with
    | none=>rfl
    | some w=>cases w <;> rfl
def Og (h:Heap) (s:Sh) (n:Nat) (i:Nat) (_p:List Nat) (k:Nat) (pp:List Nat) (q:Sh×List D):Option (V×Heap):=if Sh.beq q.1 s∧k<n then some (.ptr i pp,h) else none
@[simp] theorem a5o (s:Sh) (n i:Nat) (p:List Nat) (k:Nat) (pp:List Nat) (t:Sh) (cs:List D):Og h s n i p k pp (t,cs)=if Sh.beq t s∧k<n then some (.ptr i pp,h) else none:=rfl
def Qa (h:Heap) (s:Sh):V→Nat→Option (V×Heap)
 | .sl i p off n _,k=>((h[i]?).bind (kEl p)).bind (Og h s n i p k (p++[off+k]))
 | .d (.sl t cs),k=>if Sh.beq t s then (cs[k]?).map (kIp h) else none
 | _,_=>none
@[simp] theorem aa2 (s:Sh) (i:Nat) (p:List Nat) (off n:Nat) (cap:Option Nat) (k:Nat):Qa h s (.sl i p off n cap) k=((h[i]?).bind (kEl p)).bind (Og h s n i p k (p++[off+k])):=rfl
@[simp] theorem a9q (s t:Sh) (cs:List D) (k:Nat):Qa h s (.d (.sl t cs)) k=if Sh.beq t s then (cs[k]?).map (kIp h) else none:=rfl
def O1 (e:Env) (h:Heap) (s:Sh) (j:Arg) (v:V):Option (V×Heap):=((e.arg j).bind V.nat?).bind (Qa h s v)
@[simp] theorem a4w (s:Sh) (j:Arg) (v:V):O1 e h s j v=((e.arg j).bind V.nat?).bind (Qa h s v):=rfl
@[simp] theorem aa7 (s:Sh) (x j:Arg):ap O np e h (.idxA none s x j)=(e.arg x).bind (O1 e h s j):=by
 simp only [ap];cases e.arg x with
 | none=>rfl
 | some v=>
  simp only [aa,O1];cases (e.arg j).bind V.nat? with
  | none=>cases v <;> try rfl
          rename_i d; cases d <;> rfl
  | some k=>cases v <;> try rfl
            rename_i d; cases d <;> rfl
@[simp] theorem a12 (s:St):ew O np [] s=some s:=rfl
@[simp] theorem Yh (i:Ins) (is:List Ins) (s:St):ew O np (i::is) s=(n6 O np s i).bind (ew O np is):=rfl
@[simp] theorem a5j (i:Nat) (s:Sh):ap O np e h (.nilOwn i s)=(ek h (np+i) (.sl false s [])).map (Prod.mk (.sl (np+i) [] 0 0 (some 0))):=rfl
@[simp] theorem a9d:ap O np e h .fail=none:=rfl
def N5 (h:Heap) (f:Nat) (us vs:List V):V×Heap:=(.fn f us vs,h)
@[simp] theorem a56 (f:Nat) (us vs:List V):N5 h f us vs=(.fn f us vs,h):=rfl
def a20 (e:Env) (h:Heap) (f:Nat) (cs:List Arg) (us:List V):Option (V×Heap):=(e.args cs).map (N5 h f us)
@[simp] theorem a8j (f:Nat) (cs:List Arg) (us:List V):a20 e h f cs us=(e.args cs).map (N5 h f us):=rfl
@[simp] theorem a96 (f:Nat) (as cs:List Arg):ap O np e h (.mkFn f as cs)=(e.args as).bind (a20 e h f cs):=rfl
def U7 (h:Heap):V→V→Option (V×Heap)
 | .d (.int k a),.d (.int k' b)=>if k=k' then some (.d (.int k (if a<b then b else a)),h) else none
 | _,_=>none
@[simp] theorem a8r (k k':IntKind) (a b:Int):U7 h (.d (.int k a)) (.d (.int k' b))=if k=k' then some (.d (.int k (if a<b then b else a)),h) else none:=rfl
def a2i (e:Env) (h:Heap) (y:Arg) (v:V):Option (V×Heap):=(e.arg y).bind (U7 h v)
@[simp] theorem a98 (y:Arg) (v:V):a2i e h y v=(e.arg y).bind (U7 h v):=rfl
@[simp] theorem a9y (x y:Arg):ap O np e h (.maxI x y)=(e.arg x).bind (a2i e h y):=by
 simp only [ap];cases e.arg x with
 | none=>rfl
 | some v=>
  simp only [aa,a2i];cases e.arg y with
  | none=>cases v <;> try rfl
          rename_i d; cases d <;> rfl
  | some w=>cases v <;> try rfl
            rename_i d; cases d <;> try rfl
            cases w <;> try rfl
            rename_i d; cases d <;> rfl
def Vu (h:Heap):V→V→Option (V×Heap)
 | .d (.int k a),.d (.int k' b)=>if k=k' then some (.d (.int k (if b<a then b else a)),h) else none
 | _,_=>none
@[simp] theorem a9o (k k':IntKind) (a b:Int):Vu h (.d (.int k a)) (.d (.int k' b))=if k=k' then some (.d (.int k (if b<a then b else a)),h) else none:=rfl
def a2f (e:Env) (h:Heap) (y:Arg) (v:V):Option (V×Heap):=(e.arg y).bind (Vu h v)
@[simp] theorem aab (y:Arg) (v:V):a2f e h y v=(e.arg y).bind (Vu h v):=rfl
@[simp] theorem aaa (x y:Arg):ap O np e h (.minI x y)=(e.arg x).bind (a2f e h y):=by
 simp only [ap];cases e.arg x with
 | none=>rfl
 | some v=>
  simp only [aa,a2f];cases e.arg y with
  | none=>cases v <;> try rfl
          rename_i d; cases d <;> rfl
  | some w=>cases v <;> try rfl
            rename_i d; cases d <;> try rfl
            cases w <;> try rfl
            rename_i d; cases d <;> rfl
def U3 (h:Heap) (neg:Bool):V→Option (V×Heap)
 | .d (.sl _ (_::_))=>some (.d (.bool neg),h)
 | .sl _ _ _ (_+1) _=>some (.d (.bool neg),h)
 | _=>none
@[simp] theorem aac (neg:Bool) (s:Sh) (c:D) (cs:List D):U3 h neg (.d (.sl s (c::cs)))=some (.d (.bool neg),h):=rfl
@[simp] theorem a8z (neg:Bool) (i:Nat) (p:List Nat) (off n:Nat) (cap:Option Nat):U3 h neg (.sl i p off (n+1) cap)=some (.d (.bool neg),h):=rfl
def Ox (np:Nat) (h:Heap) (i:Nat) (s:Sh) (z:D) (bytes n m:Nat):Option (V×Heap):=
 if n≤m∧m*bytes≤1099511627776 then (ek h (np+i) (.sl false s (List.replicate n z))).map (Prod.mk (.sl (np+i) [] 0 n (if n=m then some n else none))) else none
@[simp] theorem a4k (i:Nat) (s:Sh) (z:D) (bytes n m:Nat):Ox np h i s z bytes n m =
 if n≤m∧m*bytes≤1099511627776 then (ek h (np+i) (.sl false s (List.replicate n z))).map (Prod.mk (.sl (np+i) [] 0 n (if n=m then some n else none))) else none:=rfl
def Vr (np:Nat) (e:Env) (h:Heap) (i:Nat) (s:Sh) (z:D) (bytes:Nat) (c:Arg) (n:Nat):Option (V×Heap):=((e.arg c).bind V.nat?).bind (Ox np h i s z bytes n)
@[simp] theorem a6p (i:Nat) (s:Sh) (z:D) (bytes:Nat) (c:Arg) (n:Nat):Vr np e h i s z bytes c n=((e.arg c).bind V.nat?).bind (Ox np h i s z bytes n):=rfl
@[simp] theorem a9n (i:Nat) (s:Sh) (z:D) (bytes:Nat) (l c:Arg):ap O np e h (.mkSl i s z bytes l c)=((e.arg l).bind V.nat?).bind (Vr np e h i s z bytes c):=by
 simp only [ap];cases (e.arg l).bind V.nat? with
 | none=>rfl
 | some n=>
  simp only [aa,Vr];cases (e.arg c).bind V.nat? with
  | none=>rfl
  | some m=>rfl
@[simp] theorem a92 (neg:Bool) (x:Arg):ap O np e h (.nilq neg x)=(e.arg x).bind (U3 h neg):=by
 simp only [ap];cases e.arg x with
 | none=>rfl
 | some v=>
  cases v with
  | d d=>cases d <;> try rfl
         rename_i s cs; cases cs <;> rfl
  | sl i p off n cap=>cases n <;> rfl
  | _=>rfl
def U9 (h:Heap):D→Option (V×Heap)
 | .sl .leaf cs=>(tz cs).map fun bs=>(.d (.str ⟨bs.toArray⟩),h)
 | _=>none
@[simp] theorem a8v (cs:List D):U9 h (.sl .leaf cs)=(tz cs).map fun bs=>(.d (.str ⟨bs.toArray⟩),h):=rfl
def a6z (h:Heap) (v:V):Option (V×Heap):=(toE h v).bind (U9 h)
@[simp] theorem a8x (v:V):a6z h v=(toE h v).bind (U9 h):=rfl
@[simp] theorem a70 (x:Arg):ap O np e h (.toStr x)=(e.arg x).bind (a6z h):=rfl
def He (h:Heap) (s:Sh) (z:D) (j off n:Nat):Blk→Option (V×Heap)
 | .sl false t' cs=>if Sh.beq t' s∧off+n≤cs.length then some (.tup [],h.set j (.sl false t' (cs.take off++List.replicate n z++cs.drop (off+n)))) else none
 | _=>none
@[simp] theorem a5i (s:Sh) (z:D) (j off n:Nat) (t':Sh) (cs:List D):He h s z j off n (.sl false t' cs)=if Sh.beq t' s∧off+n≤cs.length then some (.tup [],h.set j (.sl false t' (cs.take off++List.replicate n z++cs.drop (off+n)))) else none:=rfl
def N9 (h:Heap) (s:Sh) (z:D):V→Option (V×Heap)
 | .sl j [] off n _=>(h[j]?).bind (He h s z j off n)
 | _=>none
@[simp] theorem a5w (s:Sh) (z:D) (j off n:Nat) (cap:Option Nat):N9 h s z (.sl j [] off n cap)=(h[j]?).bind (He h s z j off n):=rfl
@[simp] theorem a8a (s:Sh) (z:D) (x:Arg):ap O np e h (.clear s z x)=(e.arg x).bind (N9 h s z):=by
 simp only [ap];cases e.arg x with
 | none=>rfl
 | some v=>
  cases v <;> try rfl
  rename_i j p off n cap
  cases p <;> try rfl
  simp only [aa,N9];cases h[j]? with
  | none=>rfl
  | some b=>
   cases b <;> try rfl
   rename_i fr t cs
   cases fr <;> rfl
def Vq (np:Nat) (h:Heap) (i j n:Nat):Blk→Option (V×Heap)
 | .sl false s cs=>if n=cs.length∧0<n∧np≤j then (ek (h.set j (Blk.toGone (.sl false s cs))) (np+i) (.tb false s [0] [cs])).map (Prod.mk (.sl (np+i) [0] 0 1 (some 1))) else none
 | _=>none
@[simp] theorem a9k (i j n:Nat) (s:Sh) (cs:List D):Vq np h i j n (.sl false s cs)=if n=cs.length∧0<n∧np≤j then (ek (h.set j (Blk.toGone (.sl false s cs))) (np+i) (.tb false s [0] [cs])).map (Prod.mk (.sl (np+i) [0] 0 1 (some 1))) else none:=rfl
def a3q (np:Nat) (h:Heap) (i:Nat):V→Option (V×Heap)
 | .sl j [] 0 n _=>(h[j]?).bind (Vq np h i j n)
 | _=>none
@[simp] theorem aay (i j n:Nat) (cap:Option Nat):a3q np h i (.sl j [] 0 n cap)=(h[j]?).bind (Vq np h i j n):=rfl
@[simp] theorem a8d (i:Nat) (x:Arg):ap O np e h (.tbOne i x)=(e.arg x).bind (a3q np h i):=by
 simp only [ap];cases e.arg x with
 | none=>rfl
 | some v=>
  cases v <;> try rfl
  rename_i j p off n cap
  cases p <;> try rfl
  cases off <;> try rfl
  simp only [aa,a3q];cases h[j]? with
  | none=>rfl
  | some b=>
   cases b <;> try rfl
   rename_i fr t cs
   cases fr <;> rfl
def Pk (np:Nat) (h:Heap) (bytes j n k:Nat) (s:Sh) (cs:List D) (q:List Nat×List (List D)):Option (V×Heap):=
 if n=q.1.length∧j≠k∧np≤j∧np≤k∧(n+1)*bytes≤1099511627776 then
  some (.sl j [0] 0 (n+1) none,(h.set k (Blk.toGone (.tb false s [0] [cs]))).set j (.tb false s (q.1++[q.2.length]) (q.2++[cs]))) else none
@[simp] theorem a52 (bytes j n k:Nat) (s:Sh) (cs:List D) (idx:List Nat) (rows:List (List D)):Pk np h bytes j n k s cs (idx,rows) =
 if n=idx.length∧j≠k∧np≤j∧np≤k∧(n+1)*bytes≤1099511627776 then
  some (.sl j [0] 0 (n+1) none,(h.set k (Blk.toGone (.tb false s [0] [cs]))).set j (.tb false s (idx++[rows.length]) (rows++[cs]))) else none:=rfl
def I6 (np:Nat) (h:Heap) (bytes j:Nat) (p:List Nat) (n:Nat) (cap:Option Nat) (k:Nat) (B:Blk):Blk→Option (V×Heap)
 | .tb false s [0] [cs]=>(Blk.asTb s p cap B).bind (Pk np h bytes j n k s cs)
 | _=>none
@[simp] theorem a68 (bytes j:Nat) (p:List Nat) (n:Nat) (cap:Option Nat) (k:Nat) (B:Blk) (s:Sh) (cs:List D):I6 np h bytes j p n cap k B (.tb false s [0] [cs])=(Blk.asTb s p cap B).bind (Pk np h bytes j n k s cs):=rfl
@[simp] theorem a6q (s:Sh):Blk.asTb s [] (some 0) (.sl false .leaf [])=some ([],[]):=rfl
@[simp] theorem aaj (s s':Sh) (cap:Option Nat) (idx:List Nat) (rows:List (List D)):Blk.asTb s [0] cap (.tb false s' idx rows)=if Sh.beq s' s then some (idx,rows) else none:=rfl
def Hg (np:Nat) (h:Heap) (bytes j:Nat) (p:List Nat) (n:Nat) (cap:Option Nat) (k:Nat) (B:Blk):Option (V×Heap):=(h[k]?).bind (I6 np h bytes j p n cap k B)
@[simp] theorem a5q (bytes j:Nat) (p:List Nat) (n:Nat) (cap:Option Nat) (k:Nat) (B:Blk):Hg np h bytes j p n cap k B=(h[k]?).bind (I6 np h bytes j p n cap k B):=rfl
def Rl (np:Nat) (h:Heap) (bytes:Nat):V→V→Option (V×Heap)
 | .sl j p 0 n cap,.sl k [0] 0 1 _=>(h[j]?).bind (Hg np h bytes j p n cap k)
 | _,_=>none
@[simp] theorem aa3 (bytes j:Nat) (p:List Nat) (n:Nat) (cap:Option Nat) (k:Nat) (cap':Option Nat):Rl np h bytes (.sl j p 0 n cap) (.sl k [0] 0 1 cap')=(h[j]?).bind (Hg np h bytes j p n cap k):=rfl
def Nz (np:Nat) (e:Env) (h:Heap) (bytes:Nat) (y:Arg) (v:V):Option (V×Heap):=(e.arg y).bind (Rl np h bytes v)
@[simp] theorem a4z (bytes:Nat) (y:Arg) (v:V):Nz np e h bytes y v=(e.arg y).bind (Rl np h bytes v):=rfl
@[simp] theorem a7n (bytes:Nat) (x y:Arg):ap O np e h (.tbApp bytes x y)=(e.arg x).bind (Nz np e h bytes y):=by
 simp only [ap];cases e.arg x with
 | none=>rfl
 | some v=>
  simp only [aa,Nz];cases e.arg y with
  | none=>split <;> simp_all
  | some w=>
   simp only [aa];unfold Rl
   split
   ·rename_i j p n cap k cap' h1 h2
    simp only [a8] at h1 h2;subst h1; subst h2;simp only;cases hj:h[j]? with
    | none=>rfl
    | some B=>
     simp only [aa,Hg];cases hk:h[k]? with
     | none=>rfl
     | some B2=>
      simp only [aa];unfold I6
      split
      ·rename_i s cs h1 h2
       simp only [a8] at h1 h2;subst h1; subst h2;rfl
      ·rename_i hne
       split
       ·exact absurd rfl (hne _ _ _ rfl)
       ·rfl
   ·rename_i hne
    split
    ·rename_i h1 h2
     exact absurd rfl (hne _ _ _ _ _ _ rfl)
    ·rfl
def W5 (h:Heap) (i off n k:Nat):Blk→Option (V×Heap)
 | .tb _ _ idx _=>if k<n∧off+n≤idx.length then some (.ptr i [0,off+k],h) else none
 | _=>none
@[simp] theorem a9t (i off n k:Nat) (fr:Bool) (s:Sh) (idx:List Nat) (rows:List (List D)):W5 h i off n k (.tb fr s idx rows)=if k<n∧off+n≤idx.length then some (.ptr i [0,off+k],h) else none:=rfl
def Q4 (h:Heap):V→Nat→Option (V×Heap)
 | .sl i [0] off n _,k=>(h[i]?).bind (W5 h i off n k)
 | _,_=>none
@[simp] theorem a9z (i off n:Nat) (cap:Option Nat) (k:Nat):Q4 h (.sl i [0] off n cap) k=(h[i]?).bind (W5 h i off n k):=rfl
def a2q (e:Env) (h:Heap) (j:Arg) (v:V):Option (V×Heap):=((e.arg j).bind V.nat?).bind (Q4 h v)
@[simp] theorem a9c (j:Arg) (v:V):a2q e h j v=((e.arg j).bind V.nat?).bind (Q4 h v):=rfl
@[simp] theorem ab9 (x j:Arg):ap O np e h (.tbA x j)=(e.arg x).bind (a2q e h j):=by
 simp only [ap];cases e.arg x with
 | none=>rfl
 | some v=>
  simp only [aa,a2q];cases (e.arg j).bind V.nat? with
  | none=>split <;> simp_all
  | some k=>
   simp only [aa];unfold Q4
   split
   ·rename_i i off n cap k' h1 h2
    simp only [a8] at h1 h2;subst h1; subst h2;simp only;cases h[i]? with
    | none=>rfl
    | some b=>cases b <;> rfl
   ·rename_i hne
    split
    ·exact absurd rfl (hne _ _ _ _ _ rfl)
    ·rfl
def Uw (h:Heap) (i r:Nat) (cs:List D):V×Heap:=(.sl i [r+1] 0 cs.length none,h)
@[simp] theorem a7w (i r:Nat) (cs:List D):Uw h i r cs=(.sl i [r+1] 0 cs.length none,h):=rfl
def Vm (h:Heap) (i:Nat) (rows:List (List D)) (r:Nat):Option (V×Heap):=(rows[r]?).map (Uw h i r)
@[simp] theorem a7i (i:Nat) (rows:List (List D)) (r:Nat):Vm h i rows r=(rows[r]?).map (Uw h i r):=rfl
def Xv (h:Heap) (i k:Nat):Blk→Option (V×Heap)
 | .tb _ _ idx rows=>(idx[k]?).bind (Vm h i rows)
 | _=>none
@[simp] theorem aa6 (i k:Nat) (fr:Bool) (s:Sh) (idx:List Nat) (rows:List (List D)):Xv h i k (.tb fr s idx rows)=(idx[k]?).bind (Vm h i rows):=rfl
def a3s (h:Heap):V→Option (V×Heap)
 | .ptr i [0,k]=>(h[i]?).bind (Xv h i k)
 | _=>none
@[simp] theorem abi (i k:Nat):a3s h (.ptr i [0,k])=(h[i]?).bind (Xv h i k):=rfl
@[simp] theorem a4p (x:Arg):ap O np e h (.tbLoad x)=(e.arg x).bind (a3s h):=by
 simp only [ap];cases e.arg x with
 | none=>rfl
 | some v=>
  simp only [aa];unfold a3s
  split
  ·rename_i i k h1
   simp only [a8] at h1;subst h1;simp only;cases h[i]? with
   | none=>rfl
   | some b=>cases b <;> rfl
  ·rename_i hne
   split
   ·exact absurd rfl (hne _ _)
   ·rfl
def Y5 (h:Heap) (i k i' r n:Nat):Blk→Option (V×Heap)
 | .tb false s idx rows=>if i=i'∧k<idx.length∧0<n∧(rows[r]?).map List.length=some n then some (.tup [],h.set i (.tb false s (idx.set k r) rows)) else none
 | _=>none
@[simp] theorem aai (i k i' r n:Nat) (s:Sh) (idx:List Nat) (rows:List (List D)):Y5 h i k i' r n (.tb false s idx rows) =
 if i=i'∧k<idx.length∧0<n∧(rows[r]?).map List.length=some n then some (.tup [],h.set i (.tb false s (idx.set k r) rows)) else none:=rfl
def a03 (h:Heap):V→V→Option (V×Heap)
 | .ptr i [0,k],.sl i' [r+1] 0 n _=>(h[i]?).bind (Y5 h i k i' r n)
 | _,_=>none
@[simp] theorem aau (i k i' r n:Nat) (cap:Option Nat):a03 h (.ptr i [0,k]) (.sl i' [r+1] 0 n cap)=(h[i]?).bind (Y5 h i k i' r n):=rfl
def Ut (e:Env) (h:Heap) (y:Arg) (v:V):Option (V×Heap):=(e.arg y).bind (a03 h v)
@[simp] theorem a6i (y:Arg) (v:V):Ut e h y v=(e.arg y).bind (a03 h v):=rfl
@[simp] theorem a3t (x y:Arg):ap O np e h (.tbStore x y)=(e.arg x).bind (Ut e h y):=by
 simp only [ap];cases e.arg x with
 | none=>rfl
 | some v=>
  simp only [aa,Ut];cases e.arg y with
  | none=>split <;> simp_all
  | some w=>
   simp only [aa];unfold a03
   split
   ·rename_i i k i' r n cap h1 h2
    simp only [a8] at h1 h2;subst h1; subst h2;simp only;cases h[i]? with
    | none=>rfl
    | some b=>
     cases b <;> try rfl
     rename_i fr s idx rows
     cases fr <;> rfl
   ·rename_i hne
    split
    ·exact absurd rfl (hne _ _ _ _ _ _ rfl)
    ·rfl
@[simp] theorem a6t (i:Nat):ap O np e h (.mkMap i)=(ek h (np+i) (.mp false [])).map (Prod.mk (.mp (np+i))):=rfl
def Nj (h:Heap) (k:ByteArray):Blk→Option (V×Heap)
 | .mp _ es=>some (.d (.int .i64 ((v8 k es).getD 0)),h)
 | _=>none
@[simp] theorem a7t (k:ByteArray) (fr:Bool) (es:List (ByteArray×Int)):Nj h k (.mp fr es)=some (.d (.int .i64 ((v8 k es).getD 0)),h):=rfl
def Qv (h:Heap):V→V→Option (V×Heap)
 | .mp j,.d (.str k)=>(h[j]?).bind (Nj h k)
 | _,_=>none
@[simp] theorem a9l (j:Nat) (k:ByteArray):Qv h (.mp j) (.d (.str k))=(h[j]?).bind (Nj h k):=rfl
def Nu (e:Env) (h:Heap) (k:Arg) (v:V):Option (V×Heap):=(e.arg k).bind (Qv h v)
@[simp] theorem a4r (k:Arg) (v:V):Nu e h k v=(e.arg k).bind (Qv h v):=rfl
@[simp] theorem a4y (x k:Arg):ap O np e h (.mapGet x k)=(e.arg x).bind (Nu e h k):=by
 simp only [ap];cases e.arg x with
 | none=>rfl
 | some v=>
  simp only [aa,Nu];cases e.arg k with
  | none=>cases v <;> rfl
  | some w=>
   cases v <;> try rfl
   cases w <;> try rfl
   rename_i j d
   cases d <;> try rfl
   simp only [aa,Qv];cases h[j]? with
   | none=>rfl
   | some b=>cases b <;> rfl
def Pj (h:Heap) (j:Nat) (k:ByteArray) (n:Int):Blk→Option (V×Heap)
 | .mp false es=>some (.tup [],h.set j (.mp false (n9 k n es)))
 | _=>none
@[simp] theorem a6l (j:Nat) (k:ByteArray) (n:Int) (es:List (ByteArray×Int)):Pj h j k n (.mp false es)=some (.tup [],h.set j (.mp false (n9 k n es))):=rfl
def Q6 (h:Heap):V→V→V→Option (V×Heap)
 | .mp j,.d (.str k),.d (.int .i64 n)=>(h[j]?).bind (Pj h j k n)
 | _,_,_=>none
@[simp] theorem a8s (j:Nat) (k:ByteArray) (n:Int):Q6 h (.mp j) (.d (.str k)) (.d (.int .i64 n))=(h[j]?).bind (Pj h j k n):=rfl
def Il (e:Env) (h:Heap) (y:Arg) (v w:V):Option (V×Heap):=(e.arg y).bind (Q6 h v w)
@[simp] theorem a5b (y:Arg) (v w:V):Il e h y v w=(e.arg y).bind (Q6 h v w):=rfl
def Mw (e:Env) (h:Heap) (k y:Arg) (v:V):Option (V×Heap):=(e.arg k).bind (Il e h y v)
@[simp] theorem a5r (k y:Arg) (v:V):Mw e h k y v=(e.arg k).bind (Il e h y v):=rfl
@[simp] theorem a5d (x k y:Arg):ap O np e h (.mapSet x k y)=(e.arg x).bind (Mw e h k y):=by
 simp only [ap];cases e.arg x with
 | none=>rfl
 | some v=>
  simp only [aa,Mw];cases e.arg k with
  | none=>cases v <;> rfl
  | some w=>
   simp only [aa,Il];cases e.arg y with
   | none=>
    cases v <;> try rfl
    cases w <;> try rfl
    rename_i j d; cases d <;> rfl
   | some u=>
    cases v <;> try rfl
    cases w <;> try rfl
    rename_i j d
    cases d <;> try rfl
    cases u <;> try rfl
    rename_i d
    cases d <;> try rfl
    rename_i kk n
    cases kk <;> try rfl
    simp only [aa,Q6];cases h[j]? with
    | none=>rfl
    | some b=>
     cases b <;> try rfl
     rename_i fr es
     cases fr <;> rfl
def Y4 (np:Nat) (h:Heap) (s:Sh) (i bytes:Nat) (t:Sh) (ys:List D) (j off n:Nat) (cap:Option Nat):Blk→Option (V×Heap)
 | .sl fr t' cs=>if Sh.beq t s∧Sh.beq t' s∧off+n≤cs.length∧(n+ys.length)*bytes≤1099511627776 then
  (if fr=false∧np≤j then some (.sl j [] 0 (n+ys.length) none,h.set j (.sl false s ((cs.drop off).take n++ys)))
  else if cap=some n∧ys≠[] then (ek h (np+i) (.sl false s ((cs.drop off).take n++ys))).map (Prod.mk (.sl (np+i) [] 0 (n+ys.length) none))
  else none) else none
 | _=>none
@[simp] theorem a8f (s:Sh) (i bytes:Nat) (t:Sh) (ys:List D) (j off n:Nat) (cap:Option Nat) (fr:Bool) (t':Sh) (cs:List D):Y4 np h s i bytes t ys j off n cap (.sl fr t' cs) =
 if Sh.beq t s∧Sh.beq t' s∧off+n≤cs.length∧(n+ys.length)*bytes≤1099511627776 then
  (if fr=false∧np≤j then some (.sl j [] 0 (n+ys.length) none,h.set j (.sl false s ((cs.drop off).take n++ys)))
  else if cap=some n∧ys≠[] then (ek h (np+i) (.sl false s ((cs.drop off).take n++ys))).map (Prod.mk (.sl (np+i) [] 0 (n+ys.length) none))
  else none) else none:=rfl
def Qy (np:Nat) (h:Heap) (s:Sh) (i bytes:Nat):D→V→Option (V×Heap)
 | .sl t ys,.sl j [] off n cap=>(h[j]?).bind (Y4 np h s i bytes t ys j off n cap)
 | .sl t (y::ys),.d (.nils t')=>if Sh.beq t s∧Sh.beq t' s∧(ys.length+1)*bytes≤1099511627776 then
  (ek h (np+i) (.sl false s (y::ys))).map (Prod.mk (.sl (np+i) [] 0 (ys.length+1) none)) else none
 | _,_=>none
@[simp] theorem a17 (s:Sh) (i bytes:Nat) (t:Sh) (ys:List D) (j off n:Nat) (cap:Option Nat):Qy np h s i bytes (.sl t ys) (.sl j [] off n cap)=(h[j]?).bind (Y4 np h s i bytes t ys j off n cap):=by
 cases ys <;> rfl
@[simp] theorem a9e (s:Sh) (i bytes:Nat) (t t':Sh) (y:D) (ys:List D):Qy np h s i bytes (.sl t (y::ys)) (.d (.nils t'))=if Sh.beq t s∧Sh.beq t' s∧(ys.length+1)*bytes≤1099511627776 then
 (ek h (np+i) (.sl false s (y::ys))).map (Prod.mk (.sl (np+i) [] 0 (ys.length+1) none)) else none:=rfl
def Qx (np:Nat) (e:Env) (h:Heap) (s:Sh) (i bytes:Nat) (x:Arg) (d:D):Option (V×Heap):=(e.arg x).bind (Qy np h s i bytes d)
@[simp] theorem a7o (s:Sh) (i bytes:Nat) (x:Arg) (d:D):Qx np e h s i bytes x d=(e.arg x).bind (Qy np h s i bytes d):=rfl
def a2w (np:Nat) (e:Env) (h:Heap) (s:Sh) (i bytes:Nat) (x:Arg) (w:V):Option (V×Heap):=(toE h w).bind (Qx np e h s i bytes x)
@[simp] theorem a9s (s:Sh) (i bytes:Nat) (x:Arg) (w:V):a2w np e h s i bytes x w=(toE h w).bind (Qx np e h s i bytes x):=rfl
@[simp] theorem a5g (s:Sh) (i bytes:Nat) (x y:Arg):ap O np e h (.append s i bytes x y)=(e.arg y).bind (a2w np e h s i bytes x):=by
 simp only [ap];cases e.arg y with
 | none=>rfl
 | some w=>
  simp only [aa,a2w];cases toE h w with
  | none=>rfl
  | some d=>
   simp only [aa,Qx];cases e.arg x with
   | none=>cases d <;> try rfl
   | some v=>
    cases d <;> try (cases v <;> rfl)
    rename_i t ys
    cases v with
    | sl j p off n cap=>
     cases p with
     | nil=>
      simp only [aa,a17];cases h[j]? with
      | none=>rfl
      | some b=>cases b <;> rfl
     | cons _ _=>cases ys <;> rfl
    | d d=>cases ys <;> cases d <;> rfl
    | _=>cases ys <;> rfl
def Qp (h:Heap):Option Nat→Sh→V→Nat→Option (V×Heap)
 | some n,s,.d (.arr n' t cs),k=>if n'=n∧Sh.beq t s then (cs[k]?).map (kD h) else none
 | none,_,.d (.str b),k=>(b[k]?).map fun c=>(.d (.int .u8 c.toNat),h)
 | _,_,_,_=>none
@[simp] theorem a9i (n n':Nat) (s t:Sh) (cs:List D) (k:Nat):Qp h (some n) s (.d (.arr n' t cs)) k=if n'=n∧Sh.beq t s then (cs[k]?).map (kD h) else none:=rfl
@[simp] theorem a9m (s:Sh) (b:ByteArray) (k:Nat):Qp h none s (.d (.str b)) k=(b[k]?).map fun c=>(.d (.int .u8 c.toNat),h):=rfl
def a16 (e:Env) (h:Heap) (ar:Option Nat) (s:Sh) (j:Arg) (v:V):Option (V×Heap):=((e.arg j).bind V.nat?).bind (Qp h ar s v)
@[simp] theorem aa5 (ar:Option Nat) (s:Sh) (j:Arg) (v:V):a16 e h ar s j v=((e.arg j).bind V.nat?).bind (Qp h ar s v):=rfl
@[simp] theorem aap (ar:Option Nat) (s:Sh) (x j:Arg):ap O np e h (.idx ar s x j)=(e.arg x).bind (a16 e h ar s j):=by
 cases ar <;> simp only [ap]
 ·cases e.arg x with
  | none=>rfl
  | some v=>
   simp only [aa,a16];cases (e.arg j).bind V.nat? with
   | none=>cases v <;> try rfl
           rename_i d; cases d <;> rfl
   | some k=>cases v <;> try rfl
             rename_i d; cases d <;> rfl
 ·cases e.arg x with
  | none=>rfl
  | some v=>
   simp only [aa,a16];cases (e.arg j).bind V.nat? with
   | none=>cases v <;> try rfl
           rename_i d; cases d <;> rfl
   | some k=>cases v <;> try rfl
             rename_i d; cases d <;> rfl
def No (h:Heap) (n:Nat) (s:Sh) (i:Nat) (p:List Nat) (k:Nat):D→Option (V×Heap)
 | .arr n' t _=>if n'=n∧Sh.beq t s∧k<n then some (.ptr i (p++[k]),h) else none
 | _=>none
@[simp] theorem a7e (n n':Nat) (s t:Sh) (i:Nat) (p:List Nat) (k:Nat) (cs:List D):No h n s i p k (.arr n' t cs)=if n'=n∧Sh.beq t s∧k<n then some (.ptr i (p++[k]),h) else none:=rfl
def Qr (h:Heap) (n:Nat) (s:Sh):V→Nat→Option (V×Heap)
 | .ptr i p,k=>((h[i]?).bind (Bo p)).bind (No h n s i p k)
 | .d (.ip (.arr n' t cs)),k=>if n'=n∧Sh.beq t s then (cs[k]?).map (kIp h) else none
 | _,_=>none
@[simp] theorem a0w (n:Nat) (s:Sh) (i:Nat) (p:List Nat) (k:Nat):Qr h n s (.ptr i p) k=((h[i]?).bind (Bo p)).bind (No h n s i p k):=rfl
@[simp] theorem a97 (n n':Nat) (s t:Sh) (cs:List D) (k:Nat):Qr h n s (.d (.ip (.arr n' t cs))) k=if n'=n∧Sh.beq t s then (cs[k]?).map (kIp h) else none:=rfl
def Ny (e:Env) (h:Heap) (n:Nat) (s:Sh) (j:Arg) (v:V):Option (V×Heap):=((e.arg j).bind V.nat?).bind (Qr h n s v)
@[simp] theorem a5m (n:Nat) (s:Sh) (j:Arg) (v:V):Ny e h n s j v=((e.arg j).bind V.nat?).bind (Qr h n s v):=rfl
@[simp] theorem aah (n:Nat) (s:Sh) (x j:Arg):ap O np e h (.idxA (some n) s x j)=(e.arg x).bind (Ny e h n s j):=by
 simp only [ap];cases e.arg x with
 | none=>rfl
 | some v=>
  simp only [aa,Ny];cases (e.arg j).bind V.nat? with
  | none=>cases v <;> try rfl
          rename_i d; cases d <;> try rfl
          rename_i d; cases d <;> rfl
  | some k=>
   cases v with
   | ptr i p=>
    simp only [a0w,aa];show ((h[i]?).bind (Bo p)).bind _=_
    congr 1
   | d d=>cases d <;> try rfl
          rename_i d; cases d <;> rfl
   | _=>rfl
def a3w (h:Heap) (neg:Bool) (q:Q):V→V→Option (V×Heap)
 | .d a,.d b=>(D.beq q a b).map fun r=>(.d (.bool (if neg then !r else r)),h)
 | _,_=>none
@[simp] theorem ab6 (neg:Bool) (q:Q) (a b:D):a3w h neg q (.d a) (.d b)=(D.beq q a b).map fun r=>(.d (.bool (if neg then !r else r)),h):=rfl
def Xw (e:Env) (h:Heap) (neg:Bool) (q:Q) (y:Arg) (v:V):Option (V×Heap):=(e.arg y).bind (a3w h neg q v)
@[simp] theorem a7b (neg:Bool) (q:Q) (y:Arg) (v:V):Xw e h neg q y v=(e.arg y).bind (a3w h neg q v):=rfl
@[simp] theorem aax (neg:Bool) (q:Q) (x y:Arg):ap O np e h (.eqv neg q x y)=(e.arg x).bind (Xw e h neg q y):=by
 simp only [ap];cases e.arg x with
 | none=>rfl
 | some v=>
  simp only [aa,Xw];cases e.arg y with
  | none=>cases v <;> rfl
  | some w=>cases v <;> cases w <;> rfl
def My (h:Heap) (s t:Sh) (cs:List D) (m b a:Nat):Option (V×Heap):=if Sh.beq t s∧a≤b∧b≤m∧m≤cs.length then some (.d (.sl t ((cs.drop a).take (b-a))),h) else none
@[simp] theorem a4q (s t:Sh) (cs:List D) (m b a:Nat):My h s t cs m b a=if Sh.beq t s∧a≤b∧b≤m∧m≤cs.length then some (.d (.sl t ((cs.drop a).take (b-a))),h) else none:=rfl
def Ot (e:Env) (h:Heap) (s t:Sh) (cs:List D) (lo:Option Arg) (m b:Nat):Option (V×Heap):=(cw e lo 0).bind (My h s t cs m b)
@[simp] theorem a54 (s t:Sh) (cs:List D) (lo:Option Arg) (m b:Nat):Ot e h s t cs lo m b=(cw e lo 0).bind (My h s t cs m b):=rfl
def Nd (e:Env) (h:Heap) (s t:Sh) (cs:List D) (lo hi:Option Arg) (m:Nat):Option (V×Heap):=(cw e hi cs.length).bind (Ot e h s t cs lo m)
@[simp] theorem a51 (s t:Sh) (cs:List D) (lo hi:Option Arg) (m:Nat):Nd e h s t cs lo hi m=(cw e hi cs.length).bind (Ot e h s t cs lo m):=rfl
def Ol (h:Heap) (s t:Sh) (i:Nat) (p:List Nat) (off n:Nat) (cap:Option Nat) (ismx:Bool) (m b a:Nat):Option (V×Heap):=if Sh.beq t s∧a≤b∧b≤m∧m≤n then some (.sl i p (off+a) (b-a) (if ismx then some (m-a) else cap.map (· - a)),h) else none
@[simp] theorem a59 (s t:Sh) (i:Nat) (p:List Nat) (off n:Nat) (cap:Option Nat) (ismx:Bool) (m b a:Nat):Ol h s t i p off n cap ismx m b a=if Sh.beq t s∧a≤b∧b≤m∧m≤n then some (.sl i p (off+a) (b-a) (if ismx then some (m-a) else cap.map (· - a)),h) else none:=rfl
def Ov (e:Env) (h:Heap) (s t:Sh) (i:Nat) (p:List Nat) (off n:Nat) (cap:Option Nat) (ismx:Bool) (lo:Option Arg) (m b:Nat):Option (V×Heap):=(cw e lo 0).bind (Ol h s t i p off n cap ismx m b)
@[simp] theorem a5e (s t:Sh) (i:Nat) (p:List Nat) (off n:Nat) (cap:Option Nat) (ismx:Bool) (lo:Option Arg) (m b:Nat):Ov e h s t i p off n cap ismx lo m b=(cw e lo 0).bind (Ol h s t i p off n cap ismx m b):=rfl
def Ou (e:Env) (h:Heap) (s t:Sh) (i:Nat) (p:List Nat) (off n:Nat) (cap:Option Nat) (ismx:Bool) (lo hi:Option Arg) (m:Nat):Option (V×Heap):=(cw e hi n).bind (Ov e h s t i p off n cap ismx lo m)
@[simp] theorem a4l (s t:Sh) (i:Nat) (p:List Nat) (off n:Nat) (cap:Option Nat) (ismx:Bool) (lo hi:Option Arg) (m:Nat):Ou e h s t i p off n cap ismx lo hi m=(cw e hi n).bind (Ov e h s t i p off n cap ismx lo m):=rfl
def Oe (e:Env) (h:Heap) (s:Sh) (i:Nat) (p:List Nat) (off n:Nat) (cap:Option Nat) (mx lo hi:Option Arg):Sh×List D→Option (V×Heap)
 | (t,_)=>(cw e mx n).bind (Ou e h s t i p off n cap mx.isSome lo hi)
@[simp] theorem a5l (s:Sh) (i:Nat) (p:List Nat) (off n:Nat) (cap:Option Nat) (mx lo hi:Option Arg) (t:Sh) (cs:List D):Oe e h s i p off n cap mx lo hi (t,cs)=(cw e mx n).bind (Ou e h s t i p off n cap mx.isSome lo hi):=rfl
def a45 (e:Env) (h:Heap) (s:Sh) (lo hi mx:Option Arg):V→Option (V×Heap)
 | .d (.sl t cs)=>(cw e mx cs.length).bind (Nd e h s t cs lo hi)
 | .sl i p off n cap=>((h[i]?).bind (kEl p)).bind (Oe e h s i p off n cap mx lo hi)
 | _=>none
@[simp] theorem ab3 (s t:Sh) (cs:List D) (lo hi mx:Option Arg):a45 e h s lo hi mx (.d (.sl t cs))=(cw e mx cs.length).bind (Nd e h s t cs lo hi):=rfl
@[simp] theorem a4j (s:Sh) (i:Nat) (p:List Nat) (off n:Nat) (cap:Option Nat) (lo hi mx:Option Arg):a45 e h s lo hi mx (.sl i p off n cap)=((h[i]?).bind (kEl p)).bind (Oe e h s i p off n cap mx lo hi):=rfl
@[simp] theorem ab8 (s:Sh) (x:Arg) (lo hi mx:Option Arg):ap O np e h (.cut none s x lo hi mx)=(e.arg x).bind (a45 e h s lo hi mx):=by
 simp only [ap];cases e.arg x with
 | none=>rfl
 | some v=>
  cases v with
  | d d=>cases d <;> rfl
  | sl i p off n cap=>
   simp only [aa,a4j];show ((h[i]?).bind (kEl p)).bind _=_
   congr 1
   funext q
   obtain ⟨t,cs⟩:=q;cases mx <;> rfl
  | _=>rfl
def H6 (h:Heap) (n:Nat) (i:Nat) (p:List Nat) (m b a:Nat):Option (V×Heap):=if a≤b∧b≤m∧m≤n then some (.sl i p a (b-a) (some (m-a)),h) else none
@[simp] theorem a55 (n i:Nat) (p:List Nat) (m b a:Nat):H6 h n i p m b a=if a≤b∧b≤m∧m≤n then some (.sl i p a (b-a) (some (m-a)),h) else none:=rfl
def H7 (e:Env) (h:Heap) (n:Nat) (i:Nat) (p:List Nat) (lo:Option Arg) (m b:Nat):Option (V×Heap):=(cw e lo 0).bind (H6 h n i p m b)
@[simp] theorem a5p (n i:Nat) (p:List Nat) (lo:Option Arg) (m b:Nat):H7 e h n i p lo m b=(cw e lo 0).bind (H6 h n i p m b):=rfl
def Hc (e:Env) (h:Heap) (n:Nat) (i:Nat) (p:List Nat) (lo hi:Option Arg) (m:Nat):Option (V×Heap):=(cw e hi n).bind (H7 e h n i p lo m)
@[simp] theorem a58 (n i:Nat) (p:List Nat) (lo hi:Option Arg) (m:Nat):Hc e h n i p lo hi m=(cw e hi n).bind (H7 e h n i p lo m):=rfl
def Hj (e:Env) (h:Heap) (n:Nat) (s:Sh) (i:Nat) (p:List Nat) (lo hi mx:Option Arg):D→Option (V×Heap)
 | .arr n' t _=>if n'=n∧Sh.beq t s then (cw e mx n).bind (Hc e h n i p lo hi) else none
 | _=>none
@[simp] theorem a75 (n n':Nat) (s t:Sh) (cs:List D) (i:Nat) (p:List Nat) (lo hi mx:Option Arg):Hj e h n s i p lo hi mx (.arr n' t cs)=if n'=n∧Sh.beq t s then (cw e mx n).bind (Hc e h n i p lo hi) else none:=rfl
def a26 (e:Env) (h:Heap) (n:Nat) (s:Sh) (lo hi mx:Option Arg):V→Option (V×Heap)
 | .ptr i p=>((h[i]?).bind (Bo p)).bind (Hj e h n s i p lo hi mx)
 | .d (.ip (.arr n' t cs))=>(cw e mx n).bind fun m=>(cw e hi n).bind fun b=>(cw e lo 0).bind fun a=>
  if n'=n∧Sh.beq t s∧a≤b∧b≤m∧m≤n then some (.d (.sl t ((cs.drop a).take (b-a))),h) else none
 | _=>none
@[simp] theorem a05 (n:Nat) (s:Sh) (lo hi mx:Option Arg) (i:Nat) (p:List Nat):a26 e h n s lo hi mx (.ptr i p)=((h[i]?).bind (Bo p)).bind (Hj e h n s i p lo hi mx):=rfl
@[simp] theorem a99 (n:Nat) (s:Sh) (x:Arg) (lo hi mx:Option Arg):ap O np e h (.cut (some n) s x lo hi mx)=(e.arg x).bind (a26 e h n s lo hi mx):=by
 simp only [ap];cases e.arg x with
 | none=>rfl
 | some v=>
 cases v with
 | d d=>cases d <;> try rfl
        rename_i d; cases d <;> rfl
 | ptr i p=>
 simp only [aa,a05];show ((h[i]?).bind (Bo p)).bind _=_
 congr 1
 funext y
 cases y <;> try rfl
 rename_i n' t cs
 simp only [Hj]
 by_cases hc:n'=n∧Sh.beq t s=true
 ·rw [if_pos hc]
  cases cw e mx n with
  | none=>rfl
  | some m=>
   simp only [aa,Hc];cases cw e hi n with
   | none=>rfl
   | some b=>
    simp only [aa,H7];cases cw e lo 0 with
    | none=>rfl
    | some a=>simp only [aa,H6,hc,true_and]
 ·rw [if_neg hc]
  cases cw e mx n with
  | none=>rfl
  | some m=>
   simp only [aa];cases cw e hi n with
   | none=>rfl
   | some b=>
    simp only [aa];cases cw e lo 0 with
    | none=>rfl
    | some a=>
     simp only [aa];rw [if_neg]
     rintro ⟨h1,h2,_⟩
     exact hc ⟨h1,h2⟩
 | _=>rfl
def a3c (h:Heap) (n:Nat) (s:Sh) (cs:List D):V×Heap:=(.d (.arr n s cs),h)
@[simp] theorem a9f (n:Nat) (s:Sh) (cs:List D):a3c h n s cs=(.d (.arr n s cs),h):=rfl
def kSt (h:Heap) (ss:List Sh) (cs:List D):V×Heap:=(.d (.st ss cs),h)
@[simp] theorem ab5 (ss:List Sh) (cs:List D):kSt h ss cs=(.d (.st ss cs),h):=rfl
def Bu (xs:List (Nat×D)):D→Heap→Option (V×Heap)
 | .arr n s cs,h=>(mn cs xs).map (a3c h n s)
 | .st ss cs,h=>(mn cs xs).map (kSt h ss)
 | _,_=>none
@[simp] theorem a5f (xs:List (Nat×D)) (n:Nat) (s:Sh) (cs:List D):Bu xs (.arr n s cs) h=(mn cs xs).map (a3c h n s):=rfl
@[simp] theorem a4x (xs:List (Nat×D)) (ss:List Sh) (cs:List D):Bu xs (.st ss cs) h=(mn cs xs).map (kSt h ss):=rfl
def Of (h:Heap) (fz:Bool) (z:D) (rs:List Nat) (xs:List (Nat×D)):Option (V×Heap):=(freezeIf fz h rs).bind (Bu xs z)
@[simp] theorem a50 (fz:Bool) (z:D) (rs:List Nat) (xs:List (Nat×D)):Of h fz z rs xs=(freezeIf fz h rs).bind (Bu xs z):=rfl
@[simp] theorem a89 (fz:Bool) (z:D) (ps:List (Nat×Arg)):ap O np e h (.build fz z ps)=(fw e h ps).bind (Of h fz z (dl e ps)):=by
 simp only [ap];cases fw e h ps with
 | none=>rfl
 | some xs=>
  simp only [aa,Of];cases freezeIf fz h (dl e ps) with
  | none=>rfl
  | some h'=>cases z <;> rfl
def Un (id n:Nat) (s:Sh) (cs:List D) (h:Heap):Option (V×Heap):=(ek h id (.sl false s cs)).map (Prod.mk (.sl id [] 0 n (some n)))
@[simp] theorem a7x (id n:Nat) (s:Sh) (cs:List D):Un id n s cs h=(ek h id (.sl false s cs)).map (Prod.mk (.sl id [] 0 n (some n))):=rfl
def Xq (h:Heap) (fz:Bool) (id n:Nat) (s:Sh) (rs:List Nat) (cs:List D):Option (V×Heap):=(freezeIf fz h rs).bind (Un id n s cs)
@[simp] theorem a8i (fz:Bool) (id n:Nat) (s:Sh) (rs:List Nat) (cs:List D):Xq h fz id n s rs cs=(freezeIf fz h rs).bind (Un id n s cs):=rfl
def a2b (h:Heap) (fz:Bool) (id n:Nat) (s:Sh) (z:D) (rs:List Nat) (xs:List (Nat×D)):Option (V×Heap):=(mn (List.replicate n z) xs).bind (Xq h fz id n s rs)
@[simp] theorem a6e (fz:Bool) (id n:Nat) (s:Sh) (z:D) (rs:List Nat) (xs:List (Nat×D)):a2b h fz id n s z rs xs=(mn (List.replicate n z) xs).bind (Xq h fz id n s rs):=rfl
@[simp] theorem a2s (fz:Bool) (i:Nat) (s:Sh) (z:D) (n:Nat) (ps:List (Nat×Arg)):ap O np e h (.buildSl fz i s z n ps)=(fw e h ps).bind (a2b h fz (np+i) n s z (dl e ps)):=rfl
end
@[simp] theorem a4o (k:IntKind) (n:Int):(D.int k n).isTup=false:=rfl
@[simp] theorem abm (k:IntKind) (n:Int):(D.int k n).sh=.leaf:=rfl
@[simp] theorem a3n (b:Bool):(D.bool b).isTup=false:=rfl
@[simp] theorem a9g (b:Bool):(D.bool b).sh=.leaf:=rfl
@[simp] theorem a5s (s:ByteArray):(D.str s).isTup=false:=rfl
@[simp] theorem abd (s:ByteArray):(D.str s).sh=.leaf:=rfl
@[simp] theorem a4v (n:Nat) (s:Sh) (cs:List D):(D.arr n s cs).isTup=false:=rfl
@[simp] theorem aby (n:Nat) (s:Sh) (cs:List D):(D.arr n s cs).sh=.arr n s:=rfl
@[simp] theorem a6h (ss:List Sh) (cs:List D):(D.st ss cs).isTup=false:=rfl
@[simp] theorem ac4 (ss:List Sh) (cs:List D):(D.st ss cs).sh=.st ss:=rfl
@[simp] theorem a7m (s:Sh) (cs:List D):(D.sl s cs).isTup=false:=rfl
@[simp] theorem ac2 (s:Sh) (cs:List D):(D.sl s cs).sh=.leaf:=rfl
@[simp] theorem a4s (cs:List D):(D.tup cs).isTup=true:=rfl
@[simp] theorem abn (cs:List D):(D.tup cs).sh=.leaf:=rfl
@[simp] theorem a8k (d:D):(D.ip d).isTup=false:=rfl
@[simp] theorem ac1 (d:D):(D.ip d).sh=.leaf:=rfl
@[simp] theorem a2h  : D.nilp.isTup=false:=rfl
@[simp] theorem a94  : D.nilp.sh=.leaf:=rfl
@[simp] theorem a3u (s:Sh):(D.nils s).isTup=false:=rfl
@[simp] theorem a93 (s:Sh):(D.nils s).sh=.leaf:=rfl
@[simp] theorem a6y (f:Nat) (a b:List D):(D.fn f a b).isTup=false:=rfl
@[simp] theorem ac7 (f:Nat) (a b:List D):(D.fn f a b).sh=.leaf:=rfl
@[simp] theorem a4h  : D.nilf.isTup=false:=rfl
@[simp] theorem a9p  : D.nilf.sh=.leaf:=rfl
@[simp] theorem a1x (n:Nat) (d:D):(D.iface n d).isTup=false:=rfl
@[simp] theorem a7y (n:Nat) (d:D):(D.iface n d).sh=.leaf:=rfl
@[simp] theorem a3b  : D.nili.isTup=false:=rfl
@[simp] theorem a8t  : D.nili.sh=.leaf:=rfl
def a6d (k:IntKind) (x y:Int):Int:=k.wrap (BitVec.ofInt k.bits x &&& BitVec.ofInt k.bits y).toNat
def orI (k:IntKind) (x y:Int):Int:=k.wrap (BitVec.ofInt k.bits x ||| BitVec.ofInt k.bits y).toNat
def ab2 (k:IntKind) (x y:Int):Int:=k.wrap (BitVec.ofInt k.bits x ^^^ BitVec.ofInt k.bits y).toNat
section
variable (k:IntKind) (x y:Int)
@[simp] theorem a62:th .add k x y=some (.int k (k.wrap (x+y))):=rfl
@[simp] theorem a8g:th .sub k x y=some (.int k (k.wrap (x-y))):=rfl
@[simp] theorem a76:th .mul k x y=some (.int k (k.wrap (x*y))):=rfl
@[simp] theorem a6j:th .quo k x y=if y=0 then none else some (.int k (k.wrap (x.tdiv y))):=rfl
@[simp] theorem a77:th .rem k x y=if y=0 then none else some (.int k (x.tmod y)):=rfl
@[simp] theorem a7k:th .and k x y=some (.int k (a6d k x y)):=rfl
@[simp] theorem a9b:th .or k x y=some (.int k (orI k x y)):=rfl
@[simp] theorem a7p:th .xor k x y=some (.int k (ab2 k x y)):=rfl
@[simp] theorem a6f:th .eql k x y=some (.bool (decide (x=y))):=rfl
@[simp] theorem a60:th .neq k x y=some (.bool (!decide (x=y))):=rfl
@[simp] theorem a6s:th .lss k x y=some (.bool (decide (x<y))):=rfl
@[simp] theorem a61:th .leq k x y=some (.bool (decide (x≤y))):=rfl
@[simp] theorem a6k:th .gtr k x y=some (.bool (decide (y<x))):=rfl
@[simp] theorem a83:th .geq k x y=some (.bool (decide (y≤x))):=rfl
end
def rg (o:BinOp) (k k':IntKind) (a b:Int):Option D:=if k=k' then th o k a b else none
@[simp] theorem a6n (o:BinOp) (k:IntKind) (a b:Int):rg o k k a b=th o k a b:=if_pos rfl
section
variable (k k':IntKind) (a b:Int)
@[simp] theorem a7f:sb .shl (.int k a) (.int k' b)=xw .shl k a b:=rfl
@[simp] theorem a8h:sb .shr (.int k a) (.int k' b)=xw .shr k a b:=rfl
@[simp] theorem a7s:sb .add (.int k a) (.int k' b)=rg .add k k' a b:=rfl
@[simp] theorem a65:sb .sub (.int k a) (.int k' b)=rg .sub k k' a b:=rfl
@[simp] theorem a5z:sb .mul (.int k a) (.int k' b)=rg .mul k k' a b:=rfl
@[simp] theorem a6x:sb .quo (.int k a) (.int k' b)=rg .quo k k' a b:=rfl
@[simp] theorem a6u:sb .rem (.int k a) (.int k' b)=rg .rem k k' a b:=rfl
@[simp] theorem a71:sb .and (.int k a) (.int k' b)=rg .and k k' a b:=rfl
@[simp] theorem a8w:sb .or (.int k a) (.int k' b)=rg .or k k' a b:=rfl
@[simp] theorem a8b:sb .xor (.int k a) (.int k' b)=rg .xor k k' a b:=rfl
@[simp] theorem a81:sb .eql (.int k a) (.int k' b)=rg .eql k k' a b:=rfl
@[simp] theorem a5u:sb .neq (.int k a) (.int k' b)=rg .neq k k' a b:=rfl
@[simp] theorem a8c:sb .lss (.int k a) (.int k' b)=rg .lss k k' a b:=rfl
@[simp] theorem a7h:sb .leq (.int k a) (.int k' b)=rg .leq k k' a b:=rfl
@[simp] theorem a82:sb .gtr (.int k a) (.int k' b)=rg .gtr k k' a b:=rfl
@[simp] theorem a7z:sb .geq (.int k a) (.int k' b)=rg .geq k k' a b:=rfl
end
@[simp] theorem a7g (o:BinOp) (a b:ByteArray):sb o (.str a) (.str b)=(match o with | .shl | .shr=>none | o=>a0i o a b):=by cases o <;> rfl
attribute [simp] jq
attribute [simp] Env.clear a1h a33 Yi a3h Uq andThen Rc fin n6 a28 Ins.side Ins.on Env.arg Env.get Env.keep Env.kill Op.kill Env.putO Env.refsOf Op.temps Arg.temps vi sa qk
 V.refs V.refss Sh.beq Sh.beqs Blk.get Blk.set Blk.elems D.get D.set D.arrOf freezeIf freeze Blk.freeze ek mn fw dl cw V.nat? unD callee ph Heap.pick Heap.put putNews Blk.isHole V.ren V.rens ub O0 iw params D.flat D.flats pb Env.refd Env.free
theorem bu {T:Nat→Option Fn} {A:ah} {f:Nat} {fn:Fn} (hT:T f=some fn) {ds:List D} {d:D} (hl:ds.length=fn.nparams)
 (h:((dn (den T A) 0 fn.body ⟨params 0 (ds.map .d),List.replicate fn.nblk .hole⟩).bind (fin fn 0)).bind a3o=some d):ask (den T A) f ds=some d:=by
 obtain ⟨r,h1,h2⟩:=a5.1 h;unfold ask;rw [t7 hT (vs:=ds.map .d) (bs:=[]) (by rw [az]; exact hl) h1]
 exact h2
theorem bq {O:ah} {np:Nat} {c:Cd} {s s1:St} {r:Option (Out×St)} (h:dn O np c s=some (.normal,s1)) (h2:dn O np (.loop c) s1=r):dn O np (.loop c) s=r:=by
 rw [Hp,h]; exact h2
theorem bv {O:ah} {np:Nat} {c:Cd} {s s1:St} {id:Nat} (h:dn O np c s=some (.exit id,s1)):dn O np (.loop c) s=some (.exit id,s1):=by
 rw [Hp,h]; rfl
theorem oo {O:ah} {np:Nat} {c:Cd} {s s1:St} (h:dn O np c s=some (.ret,s1)):dn O np (.loop c) s=some (.ret,s1):=by
 rw [Hp,h]; rfl
def am (k:IntKind) (l:List Int):List D:=l.map (.int k)
@[simp] theorem a1o (k:IntKind) (l:List Int):(am k l).length=l.length:=by simp [am]
@[simp] theorem a7v (k:IntKind) (l:List Int) (i:Nat):(am k l)[i]? = (l[i]?).map (.int k):=by simp [am]
@[simp] theorem a1k (k:IntKind) (l:List Int) (i:Nat) (h:i<(am k l).length):(am k l)[i]=.int k (l[i]'(by simpa using h)):=by simp [am]
@[simp] theorem a53 (k:IntKind) (l:List Int) (n:Nat):(am k l).take n=am k (l.take n):=by simp [am]
@[simp] theorem a4n (k:IntKind) (l:List Int) (n:Nat):(am k l).drop n=am k (l.drop n):=by simp [am]
@[simp] theorem a64 (k:IntKind) (l:List Int) (n:Nat) (x:Int):(am k l).set n (.int k x)=am k (l.set n x):=by simp [am,ua]
@[simp] theorem Bb (k:IntKind) (l m:List Int):am k l++am k m=am k (l++m):=by simp [am]
@[simp] theorem Xa (k:IntKind) (n:Nat) (x:Int):List.replicate n (D.int k x)=am k (List.replicate n x):=by simp [am]
@[simp] theorem O5 (k:IntKind):∀l:List Int,D.flats (am k l)=true
 | []=>rfl
 | x::l=>by show (D.flat (.int k x)&&D.flats (am k l))=true; rw [O5 k l]; rfl
theorem gd (k:IntKind):am k []=[]:=rfl
@[simp] theorem a85 (n:Nat):List.replicate (n+1) Blk.hole=.hole::List.replicate n .hole:=rfl
@[simp] theorem a5n:List.replicate 0 Blk.hole=[]:=rfl
theorem w64 {x:Int} (h:-9223372036854775808≤x∧x≤9223372036854775807):IntKind.i64.wrap x=x:=IntWalk.i64_in x h
theorem w8 {x:Int} (h:0≤x∧x<256):IntKind.u8.wrap x=x:=by
 simp only [IntKind.wrap,IntKind.bits,IntKind.signed];simp;omega
end Pe

namespace Pe
open Go Go.ChangeShapes
inductive Ty where
 | int (k:IntKind)
 | bool
 | str
 | arr (n:Nat) (T:Ty)
 | st (Ts:List Ty)
 | sl (T:Ty)
mutual
def Ty.sh:Ty→Sh
 | .arr n T=>.arr n T.sh
 | .st Ts=>.st (Ty.shs Ts)
 | .int _ | .bool | .str | .sl _=>.leaf
def Ty.shs:List Ty→List Sh
 | []=>[]
 | T::Ts=>T.sh::Ty.shs Ts
end
mutual
def sq (P:Program):TypeId→Ty→Bool
 | t,.int k=>(match P.underlying t with | some (.int k')=>k' == k | _=>false)&&P.cellsOf t == 1
 | t,.bool=>(match P.underlying t with | some .bool=>true | _=>false)&&P.cellsOf t == 1
 | t,.str=>(match P.underlying t with | some .string=>true | _=>false)&&P.cellsOf t == 1
 | t,.arr n T=>(match P.underlying t with | some (.array m e)=>m == n&&sq P e T | _=>false)&&P.cellsOf t == n*T.sh.size
 | t,.st Ts=>(match P.underlying t with | some (.struct fs)=>wu P fs.toList 0 Ts | _=>false)&&P.cellsOf t == Sh.sizes (Ty.shs Ts)
 | t,.sl T=>(match P.underlying t with | some (.slice e)=>sq P e T&&decide (0<T.sh.size) | _=>false)&&P.cellsOf t == 1
def wu (P:Program):List Field→Nat→List Ty→Bool
 | [],_,[]=>true
 | f::fs,o,T::Ts=>f.offset == o&&sq P f.type T&&wu P fs (o+T.sh.size) Ts
 | _,_,_=>false
end
mutual
def Ty.has:Ty→D→Prop
 | .int k,.int k' n=>k'=k∧(Lit.int k n).wf=true
 | .bool,.bool _=>True
 | .str,.str s=>s.size≤maxLen
 | .arr n T,.arr m s xs=>m=n∧s=T.sh∧xs.length=n∧∀x∈xs,T.has x
 | .st Ts,.st ss xs=>ss=Ty.shs Ts∧Ty.hasAll Ts xs
 | .sl T,.sl s xs=>s=T.sh∧xs.length≤9223372036854775807∧∀x∈xs,T.has x
 | _,_=>False
def Ty.hasAll:List Ty→List D→Prop
 | [],[]=>True
 | T::Ts,x::xs=>T.has x∧Ty.hasAll Ts xs
 | _,_=>False
end
theorem su {P:Program} {t:TypeId} {T:Ty} (h:sq P t T=true):P.cellsOf t=T.sh.size:=by
 cases T <;> simp only [sq,af,beq_iff_eq] at h <;> simp only [Ty.sh,Sh.size] <;> exact h.2
mutual
theorem P8:∀(T:Ty) (d:D),T.has d→d.sh=T.sh
 | .int _,d,h | .bool,d,h | .str,d,h=>by cases d <;> simp [Ty.has] at h <;> rfl
 | .arr n T,d,h=>by
  cases d <;> simp only [Ty.has] at h
  obtain ⟨rfl,rfl,-⟩:=h;rfl
 | .st Ts,d,h=>by
  cases d <;> simp only [Ty.has] at h
  obtain ⟨rfl,-⟩:=h;rfl
 | .sl T,d,h=>by cases d <;> simp only [Ty.has] at h; rfl
end
section
variable {H:Type} {enc:TypeId×Value→H} {P:Program} {C:Cx} {base:Nat} {sp:Nat→Bool} {held:Bool}
theorem xk {s:Sh} {Q:D→Prop} (hs:∀d,Q d→d.sh=s):∀(n:Nat) (cs:List Value),cs.length=n*s.size→(∀i,i<n→∃d,Q d∧RD C d ((cs.drop (i*s.size)).take s.size)) →
 ∃ds:List D,ds.length=n∧(∀d∈ds,Q d)∧RDs C s ds cs
 | 0,cs,hl,_=>⟨[],rfl,by simp,by simp only [RDs]; exact d5.1 (by simpa using hl)⟩
 | n+1,cs,hl,h=>by
  obtain ⟨d,hq,hd⟩:=h 0 (by omega)
  obtain ⟨ds,h1,h2,h3⟩:=xk hs n (cs.drop s.size) (by rw [d8,hl,dx]; omega) (fun i hi=>by
   obtain ⟨d,hq,hd⟩:=h (i+1) (by omega)
   refine ⟨d,hq,?_⟩;rw [em,show s.size+i*s.size=(i+1)*s.size by rw [dx]; omega]
   exact hd)
  refine ⟨d::ds,by simp [h1],by simpa using ⟨hq,h2⟩,?_⟩
  simp only [RDs];rw [gr,fb] at hd;exact ⟨cs.take s.size,cs.drop s.size,(ej _ _).symm,hs d hq,hd,h3⟩
theorem U2 {w:World} {a:Addr} {v:Value} (h:w.cell? a=some v):a.spot=none∧∃c el fz,w.heap[a.block]? = some (.cells c el fz)∧c[a.off]? = some v:=by
 unfold World.cell? at h
 split at h
 ·rename_i c el fz hc
  split at h
  ·cases h
  ·rename_i hs
   exact ⟨by simpa using hs,c,el,fz,hc,h⟩
 ·cases h
theorem Wi {w:World} {a:Addr} {n:Nat} {cs:List Value} (hn:0<n) (h:w.cells? base a n=some cs):a.spot=none∧cs.length=n∧CellsAt w a.block a.off cs:=by
 obtain ⟨h1,h2,h3⟩:=World.cells?_some h;have h0:=h3 0 hn;rw [ac (by omega),Addr.add,if_pos rfl] at h0
 obtain ⟨hsp,c,el,fz,hc,_⟩:=U2 h0;refine ⟨hsp,h2,c,el,fz,hc,fun j u hu=>?_⟩
 have hj:j<n:=by
  have:=(ae.1 hu).1;omega
 have h4:=h3 j hj;rw [hu] at h4;unfold World.cell? at h4
 have hb:(a.add j).block=a.block∧(a.add j).off=a.off+j∧(a.add j).spot=none:=by
  unfold Addr.add
  split
  ·rename_i h; subst h; exact ⟨rfl,rfl,hsp⟩
  ·exact ⟨rfl,rfl,rfl⟩
 rw [hb.1,hc,hb.2.1,hb.2.2] at h4
 simpa using h4
theorem yo {s:Sh} {Q:D→Prop} (hs:∀d,Q d→d.sh=s) (hk:0<s.size) {b:Nat}:∀(n o:Nat),0<n→(∀i,i<n→∃d cs,Q d∧RD C d cs∧cs.length=s.size∧CellsAt C.w b (o+i*s.size) cs) →
 ∃(ds:List D) (us:List Value),ds.length=n∧(∀d∈ds,Q d)∧RDs C s ds us∧us.length=n*s.size∧CellsAt C.w b o us
 | 0,o,h0,h=>absurd h0 (by omega)
 | n+1,o,_,h=>by
  obtain ⟨d,cs,hq,hd,hl,hc⟩:=h 0 (by omega)
  rw [gr,cz] at hc;rcases jm n with hn | hn
  ·subst hn
   exact ⟨[d],cs,rfl,by simpa using hq,by simp only [RDs]; exact ⟨cs,[],by simp,hs d hq,hd,rfl⟩,by omega,hc⟩
  ·obtain ⟨ds,us,h1,h2,h3,h4,h5⟩:=yo hs hk n (o+s.size) hn (fun i hi=>by
    obtain ⟨d,cs,hq,hd,hl,hc⟩:=h (i+1) (by omega)
    refine ⟨d,cs,hq,hd,hl,?_⟩;rw [show o+s.size+i*s.size=o+(i+1)*s.size by rw [dx]; omega]
    exact hc)
   refine ⟨d::ds,cs++us,by simp [h1],by simpa using ⟨hq,h2⟩,by simp only [RDs]; exact ⟨cs,us,rfl,hs d hq,hd,h3⟩,by rw [aw,hl,h4,dx]; omega,?_⟩
   obtain ⟨a,el,fz,ha,hc⟩:=hc;obtain ⟨a',el',fz',ha',hc'⟩:=h5;obtain ⟨rfl,rfl,rfl⟩:a=a'∧el=el'∧fz=fz':=by rw [ha] at ha'; simpa using ha'
   refine ⟨a,el,fz,ha,fun j u hu=>?_⟩
   by_cases hj:j<cs.length
   ·rw [b8 hj] at hu; exact hc j u hu
   ·rw [b6 (by omega)] at hu
    have:=hc' _ u hu
    rwa [show o+s.size+(j-cs.length)=o+j by omega] at this
mutual
theorem tq (hI:∀b,b<C.w.heap.size→C.I b):∀(T:Ty) (t:TypeId) (fuel:Nat) (cs:List Value) (x:DataW H×List MemPlace),sq P t T=true→DataW.trod enc P C.w base sp held fuel t cs=some x→∃d,T.has d∧RD C d cs
 | .int k,t,fuel,cs,x,hf,h=>by
  simp only [sq,af] at hf
  replace hf:=hf.1
  split at hf <;> simp at hf
  rename_i k' hu
  subst hf;obtain ⟨n,rfl,-,hw⟩:=DataW.trod_int hu h;exact ⟨.int k' n,⟨rfl,hw⟩,rfl⟩
 | .bool,t,fuel,cs,x,hf,h=>by
  simp only [sq,af] at hf
  replace hf:=hf.1
  split at hf <;> simp at hf
  rename_i hu
  obtain ⟨b,rfl,-⟩:=DataW.trod_bool hu h;exact ⟨.bool b,trivial,rfl⟩
 | .str,t,fuel,cs,x,hf,h=>by
  simp only [sq,af] at hf
  replace hf:=hf.1
  split at hf <;> simp at hf
  rename_i hu
  obtain ⟨s,rfl,-,hw⟩:=DataW.trod_string hu h;exact ⟨.str s,hw,rfl⟩
 | .arr n T,t,fuel,cs,x,hf,h=>by
  have hsz:=su hf;simp only [sq,af] at hf
  replace hf:=hf.1
  split at hf <;> simp at hf
  rename_i m e hu
  obtain ⟨rfl,hfe⟩:=hf;have hse:=su hfe;obtain ⟨xs,k,-,-,hl,hxl,hx⟩:=DataW.trod_array hu h
  obtain ⟨ds,h1,h2,h3⟩:=xk (C:=C) (s:=T.sh) (Q:=T.has) (P8 T) m cs (by rw [hl,hsz]; rfl) (fun i hi=>by
   have h4:=hx i hi;rw [ac (by omega),hse] at h4
   exact tq hI T e k _ _ hfe h4)
  exact ⟨.arr m T.sh ds,⟨rfl,rfl,h1,h2⟩,by simp only [RD]; exact ⟨h1,h3⟩⟩
 | .st Ts,t,fuel,cs,x,hf,h=>by
  have hsz:=su hf;simp only [sq,af] at hf
  replace hf:=hf.1
  split at hf
  case h_2=>cases hf
  rename_i fs hu
  obtain ⟨xs,k,-,-,hl,hxl,hx⟩:=DataW.trod_struct hu h
  obtain ⟨ds,h1,h2⟩:=xn hI Ts fs.toList 0 k cs hf (by rw [hl,hsz]; simp [Ty.sh,Sh.size]) (fun f hfm=>by
   obtain ⟨i,hi,rfl⟩:=gf hfm;have h4:=hx i fs.toList[i] (by rw [←i4]; exact ac hi)
   rw [ac (by rw [hxl,←pn]; exact hi)] at h4
   exact ⟨_,h4⟩)
  exact ⟨.st (Ty.shs Ts) ds,⟨rfl,h1⟩,by simp only [RD]; exact h2⟩
 | .sl T,t,fuel,cs,x,hf,h=>by
  simp only [sq,af] at hf
  replace hf:=hf.1
  split at hf <;> simp at hf
  rename_i e hu
  obtain ⟨hfe,hk⟩:=hf;have hse:=su hfe;rcases DataW.trod_slice hu h with ⟨rfl,-⟩ | ⟨a,len,cap,elems,rest,n,-,rfl,-,hb,hle,hcap,hel,hx,-⟩
  ·exact ⟨.sl T.sh [],⟨rfl,by simp,by simp⟩,by simp only [RD]; exact ⟨none,0,rfl,b9 _,.inl trivial⟩⟩
  ·rcases jm len with h0 | h0
   ·subst h0
    exact ⟨.sl T.sh [],⟨rfl,by simp,by simp⟩,by simp only [RD]; exact ⟨_,cap,rfl,hle,.inl trivial⟩⟩
   ·have hcell:∀i,i<len→∃d cs,T.has d∧RD C d cs∧cs.length=T.sh.size∧(a.add (i*T.sh.size)).spot=none∧CellsAt C.w a.block (a.off+i*T.sh.size) cs:=fun i hi=>by
     have h4:=hx i hi;rw [ac (by omega),hse] at h4
     obtain ⟨cs,hc,hy⟩:=a5.1 h4;obtain ⟨h5,h6,h7⟩:=Wi hk hc;obtain ⟨d,hd1,hd2⟩:=tq hI T e n _ _ hfe hy
     have hbl:(a.add (i*T.sh.size)).block=a.block∧(a.add (i*T.sh.size)).off=a.off+i*T.sh.size:=by
      unfold Addr.add
      split
      ·rename_i h; rw [h]; exact ⟨rfl,rfl⟩
      ·exact ⟨rfl,rfl⟩
     rw [hbl.1,hbl.2] at h7;exact ⟨d,cs,hd1,hd2,h6,h5,h7⟩
    obtain ⟨ds,us,h1,h2,h3,h4,h5⟩:=yo (C:=C) (s:=T.sh) (Q:=T.has) (P8 T) hk len a.off h0 (fun i hi=>by
     obtain ⟨d,cs,g1,g2,g3,-,g4⟩:=hcell i hi;exact ⟨d,cs,g1,g2,g3,g4⟩)
    have hsp:a.spot=none:=by
     obtain ⟨_,_,_,_,_,g,_⟩:=hcell 0 h0;rw [gr,Addr.add,if_pos rfl] at g;exact g
    have hlt:a.block<C.w.heap.size:=by
     obtain ⟨c,el,fz,hc,-⟩:=h5;exact (ck.1 hc).1
    refine ⟨.sl T.sh ds,⟨rfl,by rw [h1]; unfold maxLen at hcap; omega,h2⟩,?_⟩
    simp only [RD];refine ⟨some a,cap,by rw [h1],by omega,.inr ⟨a.block,a.off,us,?_,hI _ hlt,h3,h5⟩⟩
    cases a;simp only at hsp;rw [hsp]
theorem xn (hI:∀b,b<C.w.heap.size→C.I b):∀(Ts:List Ty) (fs:List Field) (o fuel:Nat) (cs:List Value),wu P fs o Ts=true→cs.length=o+Sh.sizes (Ty.shs Ts) →
 (∀f∈fs,∃x,DataW.trod enc P C.w base sp held fuel f.type ((cs.drop f.offset).take (P.cellsOf f.type))=some x)→∃ds,Ty.hasAll Ts ds∧RDst C (Ty.shs Ts) ds (cs.drop o)
 | [],[],o,fuel,cs,_,hl,_=>⟨[],trivial,by simp only [Ty.shs,RDst]; rw [List.drop_eq_nil_iff]; simp [Ty.shs,Sh.sizes] at hl; omega⟩
 | [],_::_,o,fuel,cs,hf,_,_=>by simp [wu] at hf
 | _::_,[],o,fuel,cs,hf,_,_=>by simp [wu] at hf
 | T::Ts,f::fs,o,fuel,cs,hf,hl,h=>by
  simp only [wu,af,beq_iff_eq] at hf;obtain ⟨⟨ho,hft⟩,hfs⟩:=hf;have hse:=su hft;simp only [Ty.shs,Sh.sizes] at hl;obtain ⟨x,hx⟩:=h f (by simp)
  obtain ⟨d,hd1,hd2⟩:=tq hI T f.type fuel _ x hft hx;obtain ⟨ds,h1,h2⟩:=xn hI Ts fs (o+T.sh.size) fuel cs hfs (by omega) (fun g hg=>h g (pc _ hg))
  refine ⟨d::ds,⟨hd1,h1⟩,?_⟩;simp only [Ty.shs,RDst];rw [hse,ho] at hd2;refine ⟨_,_,?_,P8 T d hd1,hd2,h2⟩;rw [←em,ej]
end
theorem a1i {W:World} {r:Reach} {T:Ty} {t:TypeId} {v:Value} {d:D} (hf:sq P t T=true) (hd:T.has d) (h:Value.okWide P W r base t v):isAgg v=d.isAgg:=by
 unfold Value.okWide at h;cases T with
 | int k=>
  simp only [sq,af] at hf
  replace hf:=hf.1
  split at hf <;> simp at hf
  rename_i k' hu
  rw [hu] at h;cases d <;> simp only [Ty.has] at hd
  cases v <;> first | rfl | (simp [Cell.okWide,Cell.ok,hu] at h; done)
 | bool=>
  simp only [sq,af] at hf
  replace hf:=hf.1
  split at hf <;> simp at hf
  rename_i hu
  rw [hu] at h;cases d <;> simp only [Ty.has] at hd
  cases v <;> first | rfl | (simp [Cell.okWide,Cell.ok,hu] at h; done)
 | str=>
  simp only [sq,af] at hf
  replace hf:=hf.1
  split at hf <;> simp at hf
  rename_i hu
  rw [hu] at h;cases d <;> simp only [Ty.has] at hd
  cases v <;> first | rfl | (simp [Cell.okWide,Cell.ok,hu] at h; done)
 | sl T=>
  simp only [sq,af] at hf
  replace hf:=hf.1
  split at hf <;> simp at hf
  rename_i e hu
  rw [hu] at h;cases d <;> simp only [Ty.has] at hd
  cases v <;> first | rfl | (simp [Cell.okWide,Cell.ok,hu] at h; done)
 | arr n T=>
  simp only [sq,af] at hf
  replace hf:=hf.1
  split at hf
  case h_2=>cases hf
  rename_i hu
  rw [hu] at h;obtain ⟨cs,rfl,-⟩:=h;cases d <;> simp only [Ty.has] at hd
  rfl
 | st Ts=>
  simp only [sq,af] at hf
  replace hf:=hf.1
  split at hf
  case h_2=>cases hf
  rename_i hu
  rw [hu] at h;obtain ⟨cs,rfl,-⟩:=h;cases d <;> simp only [Ty.has] at hd
  rfl
def v7 (P:Program):List TypeId→List Ty→Bool
 | [],[]=>true
 | t::ts,T::Ts=>sq P t T&&P.readableRec t&&decide (t<P.types.size)&&v7 P ts Ts
 | _,_=>false
theorem G3 (hI:∀b,b<C.w.heap.size→C.I b) {r:Reach} {b0:Nat}:∀(ts:List TypeId) (Ts:List Ty) (vs:List Value) (ds:List (DataW H)) (ps:List MemPlace),v7 P ts Ts=true→DataW.TrodAll enc P C.w base sp held ts vs ds ps →
 (∀(j:Nat) t v,ts[j]? = some t→vs[j]? = some v→Value.okWide P C.w r b0 t v)→∃xs,Ty.hasAll Ts xs∧RVs C xs vs
 | [],[],vs,ds,ps,_,h,_=>by
  obtain ⟨rfl,-,-⟩:=trodAll_nil h;exact ⟨[],trivial,by simp only [RVs]⟩
 | [],_::_,vs,ds,ps,hf,_,_=>by simp [v7] at hf
 | _::_,[],vs,ds,ps,hf,_,_=>by simp [v7] at hf
 | t::ts,T::Ts,vs,ds,ps,hf,h,hv=>by
  simp only [v7,af] at hf;obtain ⟨⟨⟨hf1,-⟩,-⟩,hf2⟩:=hf;obtain ⟨v,vs',d,ds',p,q,rfl,rfl,rfl,⟨fuel,hd⟩,hr⟩:=trodAll_cons h;obtain ⟨x,hx1,hx2⟩:=tq hI T t fuel _ _ hf1 hd;obtain ⟨xs,h1,h2⟩:=G3 hI ts Ts vs' ds' q hf2 hr (fun j t' v' hj hv'=>hv (j+1) t' v' (by simpa using hj) (by simpa using hv'))
  refine ⟨x::xs,⟨hx1,h1⟩,?_⟩;simp only [RVs];exact ⟨v,vs',rfl,a1i hf1 hx1 (hv 0 t v rfl rfl),hx2,h2⟩
theorem Ge {W W':World} (hl:laidOutB P=true) (hb:RowKit.Below W.heap.size W W'):∀(ts:List TypeId) (Ts:List Ty) (vs:List Value) (ds:List (DataW H)) (ps:List MemPlace),v7 P ts Ts=true→DataW.TrodAll enc P W 0 (fun _=>true) true ts vs ds ps →
 (∀x∈ps,x.block<W.heap.size)→DataW.TrodAll enc P W' 0 (fun b=>decide (b<W.heap.size)) true ts vs ds ps
 | [],[],vs,ds,ps,_,h,_=>by
  obtain ⟨rfl,rfl,rfl⟩:=trodAll_nil h;rfl
 | [],_::_,vs,ds,ps,hf,_,_=>by simp [v7] at hf
 | _::_,[],vs,ds,ps,hf,_,_=>by simp [v7] at hf
 | t::ts,T::Ts,vs,ds,ps,hf,h,hp=>by
  simp only [v7,af,decide_eq_true_eq] at hf;obtain ⟨⟨⟨-,hf1⟩,hf3⟩,hf2⟩:=hf;obtain ⟨v,vs',d,ds',p,q,rfl,rfl,rfl,hd,hr⟩:=trodAll_cons h;exact ⟨p,q,RowKit.Below.trod hl hf1 hf3 hd hb (fun x hx=>hp x (bn _ hx)),Ge hl hb ts Ts vs' ds' q hf2 hr (fun x hx=>hp x (List.mem_append_right _ hx)),rfl⟩
def yr (P:Program) (f:Func):Bool:=match f.resultTypes.toList with
 | [t]=>match P.underlying t with
  | some .bool=>true
  | _=>false
 | _=>false
theorem Ep {f:Func} (h:yr P f=true):∃tb,f.resultTypes = #[tb]∧P.underlying tb=some .bool:=by
 unfold yr at h
 split at h
 ·rename_i t ht
  split at h
  ·rename_i hu
   exact ⟨t,by rw [←Array.toList_inj,ht],hu⟩
  ·cases h
 ·cases h
theorem T1 {f:Func} {s:ChangeSpec} {apart fresh:Bool} {W W':World} {args:Array Value} {ds gs:List (DataW H)} {before:List MemPlace} {Ts:List Ty}
 (hW:DataW.Whole enc P f.params.toList s.vars apart W args.toList ds gs before) (hvars:s.vars=[]) (hs:s.fn H (ds++gs) = { results:=[.lit (.bool true)],args:=ds })
 (hr:yr P f=true) (hl:laidOutB P=true) (hf:v7 P f.params.toList Ts=true) (hb:RowKit.Below W.heap.size W W') :
 s.post enc P f apart fresh false false W args (.bool true) W':=by
 have hW0:=hW;obtain ⟨p,q,hA,hV,rfl,hz,hn⟩:=hW;have hlt:=DataW.TrodAll.lt hA;obtain ⟨tb,hr,htb⟩:=Ep hr;rw [hvars] at hV;obtain ⟨rfl,rfl⟩:=trodVars_none hV;refine ⟨ds,[],_,[],p,[],hW0,?_,?_,?_,hb.frame _,fun h=>by cases h⟩
 ·rw [hs,hr]
  exact ⟨[],[],⟨1,by simp [DataW.trod,Value.cells,htb]⟩,rfl,rfl⟩
 ·rw [hs]
  exact Ge hl hb _ _ _ _ _ hf hA hlt
 ·rw [hs,hvars]
  rfl
end
theorem P6 {P:Program} {num:Nat→Nat} {O:ah} (hO:jk P num O) {F:Nat} {xs:List D} (h:ask O F xs=some (.bool true)) {W:World} {vs:List Value} (hv:RVs ⟨W,fun b=>b<W.heap.size,num⟩ xs vs) :
 Calls P (num F) vs.toArray W fun e W'=>e=.returned (.bool true)∧RowKit.Below W.heap.size W W':=by
 unfold ask at h;obtain ⟨⟨v,bs,nb⟩,h1,h2⟩:=a5.1 h;obtain ⟨hl,-,hcall⟩:=hO F (xs.map .d) [] _ h1 ⟨W,fun b=>b<W.heap.size,num⟩ (fun _ _=>none) vs rfl ⟨by simp,by simp⟩ (fun b hb=>hb) (qy hv)
 refine Calls.mono hcall ?_
 rintro e w' ⟨u,C2,φ2,rfl,rfl,st,-,hu⟩
 have hno:∀b,¬ OwnB (fun _ _=>none) [] b:=by rintro b ⟨i,k,B,o,hB,_⟩; simp at hB
 have hbs:bs=[]:=d5.1 hl;subst hbs;have hx:RV _ (.bool true) u:=px st.hr v _ u h2 hu;refine ⟨?_,st.os,st.tape,st.out,st.size,fun k hk=>st.kept k hk (hno k)⟩
 simp only [RV,RD,D.isAgg] at hx;obtain ⟨h3,h4⟩:=hx;cases u <;> simp [Value.cells,isAgg] at h3 h4
 rw [h4]
end Pe

/-
 The numbers of the functions.
-/
namespace Pe
abbrev Lw (d s:Nat):Ins:=⟨some d,.mv (.t s),none,[]⟩
abbrev Ll (d:Nat) (o:Op):Ins:=⟨some d,o,none,[]⟩
abbrev Ls (o:Op):Ins:=⟨none,o,none,[]⟩
abbrev Lx (d s g:Nat) (b:Bool):Ins:=⟨some d,.mv (.t s),some (g,b),[]⟩
abbrev Lg (d:Nat) (o:Op) (g:Nat) (b:Bool):Ins:=⟨some d,o,some (g,b),[]⟩
abbrev Sx6:Sh:=.arr 64 .leaf
abbrev Sx8:Sh:=.arr 8 Sx6
abbrev Sx4:List Sh:=[.leaf,Sx6,Sx6,Sx6]
abbrev Acx (n:Int):Arg:=.c (.int .i64 n)
abbrev Ofx (f:Nat) (l:List Arg):Op:=.call .flat [] (.f f) l
abbrev Opx (f:Nat) (l:List Arg):Op:=.call .plain [] (.f f) l
abbrev Ipx (d s:Nat):Ins:=Ll d (.load Sx6 (.t s))
abbrev Ilx (d s:Nat):Ins:=Ll d (.load .leaf (.t s))
abbrev Isx (d s:Nat):Ins:=Ll d (.load Sx8 (.t s))
abbrev Iex (d s k:Nat):Ins:=Ll d (.ext (.t s) k)
abbrev F1j:Nat:=19
abbrev F1n:Nat:=57
abbrev F1k:Nat:=65
abbrev F1m:Nat:=93
abbrev F1o:Nat:=95
abbrev F1l:Nat:=97
abbrev F2d:Nat:=119
abbrev F5:Nat:=120
abbrev Fg:Nat:=313
abbrev F19:Nat:=315
abbrev F13:Nat:=318
abbrev Fs:Nat:=319
abbrev F1h:Nat:=321
abbrev F2z:Nat:=323
abbrev F18:Nat:=326
abbrev Fc:Nat:=327
abbrev F2g:Nat:=331
abbrev F1b:Nat:=336
abbrev F10:Nat:=341
abbrev Fz:Nat:=342
abbrev Fm:Nat:=344
abbrev Fy:Nat:=347
abbrev F2s:Nat:=349
abbrev F2j:Nat:=350
abbrev F2l:Nat:=351
abbrev Fw:Nat:=360
abbrev Fu:Nat:=363
abbrev F16:Nat:=364
abbrev F32:Nat:=366
abbrev Fq:Nat:=368
abbrev F1g:Nat:=370
abbrev F30:Nat:=374
abbrev Fj:Nat:=378
abbrev F2r:Nat:=386
abbrev F1i:Nat:=387
abbrev F2n:Nat:=395
abbrev F31:Nat:=396
abbrev Fe:Nat:=398
abbrev Fh:Nat:=399
abbrev F1e:Nat:=400
abbrev F9:Nat:=413
abbrev F2e:Nat:=416
abbrev F2q:Nat:=417
abbrev F2k:Nat:=418
abbrev F14:Nat:=419
abbrev Fx:Nat:=420
abbrev F1d:Nat:=421
abbrev F2o:Nat:=448
abbrev Fr:Nat:=453
abbrev F2i:Nat:=454
abbrev F2p:Nat:=455
abbrev F2u:Nat:=457
abbrev Ft:Nat:=458
abbrev F11:Nat:=469
abbrev F1c:Nat:=477
abbrev F2w:Nat:=493
abbrev F2h:Nat:=501
abbrev Fi:Nat:=508
abbrev F1f:Nat:=521
abbrev F4:Nat:=530
abbrev F12:Nat:=531
abbrev F2m:Nat:=532
abbrev Fk:Nat:=534
abbrev F2t:Nat:=556
abbrev Fo:Nat:=557
abbrev F1a:Nat:=558
abbrev Ff:Nat:=559
abbrev F2x:Nat:=560
abbrev F17:Nat:=567
abbrev F15:Nat:=568
abbrev F1x:Nat:=569
abbrev Fv:Nat:=570
abbrev Fb:Nat:=571
abbrev F2y:Nat:=577
abbrev F1u:Nat:=590
abbrev Fa:Nat:=591
abbrev F2f:Nat:=595
abbrev F2v:Nat:=596
abbrev F7:Nat:=619
abbrev Fl:Nat:=620
abbrev F29:Nat:=644
abbrev F1p:Nat:=645
abbrev F0:Nat:=646
abbrev F1:Nat:=647
abbrev F1w:Nat:=653
abbrev F1t:Nat:=658
abbrev F8:Nat:=659
abbrev F21:Nat:=694
abbrev F20:Nat:=695
abbrev F1y:Nat:=696
abbrev F1z:Nat:=697
abbrev F2a:Nat:=698
abbrev F26:Nat:=699
abbrev F28:Nat:=700
abbrev F27:Nat:=701
abbrev F1q:Nat:=702
abbrev F1r:Nat:=703
abbrev F2:Nat:=704
abbrev F3:Nat:=705
abbrev F1v:Nat:=717
abbrev F2b:Nat:=762
abbrev F24:Nat:=763
abbrev F2c:Nat:=764
abbrev F22:Nat:=765
abbrev F23:Nat:=766
abbrev F25:Nat:=798
abbrev F33:Nat:=1397
abbrev F1s:Nat:=1597
def z64:List D:=List.replicate 64 (.int .u8 0)
def z8:List D:=List.replicate 8 (.arr 64 .leaf z64)
end Pe

/-
 Functions of the program in the small form,printed by a program.
-/
namespace Pe
open Go
def Z1f_L0:Cd:=
 .seq (.seq (.region [Lw 6 3,
 Ll 7 (.bin .gtr (.t 6) (Acx 0)),
 Lw 8 7,
 Lx 9 0 8 true,
 Lx 10 3 8 true,
 Lg 11 (.bin .sub (.t 10) (Acx 1)) 8 true,
 Lg 12 (.idxA none .leaf (.t 9) (.t 11)) 8 true,
 Lg 13 (.load .leaf (.t 12)) 8 true,
 Lg 14 (.bin .eql (.t 13) (Acx 0)) 8 true,
 Ll 15 (.pick (.t 8) (.t 14) (.c (.bool false)))] [0,3,15])
 (.cond (.t 15)
 (.skip)
 (.exit 0)))
 (.block 1 (.region [Lw 16 3,
 Ll 17 (.bin .sub (.t 16) (Acx 1)),
 Lw 3 17] [0,3]))
def Z1f_B:Cd:=
 .seq (.region [Ll 2 (.mv (.c (.sl .leaf [])))] [0])
 (.seq (.region [Lw 4 0,
 Ll 5 (.len false (.t 4)),
 Lw 3 5] [0,3])
 (.seq (.block 0 (.loop (Z1f_L0)))
 (.seq (.region [Lw 18 0,
 Lw 19 3,
 Lw 20 3,
 Ll 21 (.cut none .leaf (.t 18) none (some (.t 19)) (some (.t 20))),
 Lw 2 21] [2])
 (.ret))))
def Z1f:Fn:=
 { nparams:=1,nblk:=0,results:=[.tmp 2],body:=Z1f_B }
def Z19_L0:Cd:=
 .seq (.region [Ll 8 (.bin .lss (.t 7) (Acx 64))] [3,6,7,8])
 (.seq (.cond (.t 8)
 (.skip)
 (.exit 0))
 (.seq (.block 1 (.seq (.region [Ll 9 (.idx (some 64) .leaf (.t 6) (.t 7)),
 Lw 5 9] [3,5,6,7])
 (.region [Lw 10 3,
 Lw 11 5,
 Ll 12 (.conv .i64 (.t 11)),
 Ll 13 (.buildSl false 2 .leaf (.int .i64 0) 1 [(0,(.t 12))]),
 Ll 14 (.append .leaf 3 8 (.t 10) (.t 13)),
 Lw 3 14] [3,6,7])))
 (.region [Ll 15 (.bin .add (.t 7) (Acx 1)),
 Lw 7 15] [3,6,7])))
def Z19_B:Cd:=
 .seq (.region [Ll 1 (.box false 0 (.t 0)),
 Ll 2 (.mv (.c (.sl .leaf [])))] [1])
 (.seq (.region [Ll 3 (.nilOwn 1 .leaf)] [1,3])
 (.seq (.seq (.region [Ipx 6 1,
 Ll 7 (.mv (Acx 0))] [3,6,7])
 (.block 0 (.loop (Z19_L0))))
 (.seq (.region [Lw 16 3,
 Ll 17 (.call .data [] (.f F1f) [(.t 16)]),
 Lw 2 17] [2])
 (.ret))))
def Z19:Fn:=
 { nparams:=1,nblk:=4,results:=[.tmp 2],body:=Z19_B }
def Z1b_B:Cd:=
 .seq (.region [Ll 2 (.mv (Acx 0))] [0])
 (.seq (.region [Lw 3 0,
 Ll 4 (.len false (.t 3)),
 Ll 5 (.bin .sub (.t 4) (Acx 1)),
 Lw 2 5] [2])
 (.ret))
def Z1b:Fn:=
 { nparams:=1,nblk:=0,results:=[.tmp 2],body:=Z1b_B }
def Zm_B:Cd:=
 .seq (.region [Ll 2 (.mv (.c (.bool false)))] [0])
 (.seq (.region [Lw 3 0,
 Ll 4 (.bin .eql (.t 3) (Acx 2)),
 Lw 5 4,
 Lx 6 0 5 false,
 Lg 7 (.bin .eql (.t 6) (Acx 3)) 5 false,
 Ll 8 (.pick (.t 5) (.c (.bool true)) (.t 7)),
 Lw 9 8,
 Lx 10 0 9 false,
 Lg 11 (.bin .eql (.t 10) (Acx 5)) 9 false,
 Ll 12 (.pick (.t 9) (.c (.bool true)) (.t 11)),
 Lw 13 12,
 Lx 14 0 13 false,
 Lg 15 (.bin .eql (.t 14) (Acx 7)) 13 false,
 Ll 16 (.pick (.t 13) (.c (.bool true)) (.t 15)),
 Lw 2 16] [2])
 (.ret))
def Zm:Fn:=
 { nparams:=1,nblk:=0,results:=[.tmp 2],body:=Zm_B }
def Za_B:Cd:=
 .seq (.region [Ll 2 (.box false 0 (.t 0)),
 Ll 3 (.mv (.c (.bool false)))] [1,2])
 (.seq (.region [Ilx 4 1,
 Ipx 5 2,
 Ll 6 (.call .flat [] (.t 4) [(.t 5)]),
 Ll 7 (.un .not (.t 6)),
 Lw 3 7] [3])
 (.ret))
def Za:Fn:=
 { nparams:=2,nblk:=1,results:=[.tmp 3],body:=Za_B }
def Z9_B:Cd:=
 .seq (.region [Ll 3 (.box false 0 (.t 1)),
 Ll 4 (.mv (.c (.bool false)))] [0,3])
 (.seq (.region [Lw 5 0,
 Ll 6 (.mkFn Fa [] [(.t 3)]),
 Ll 7 (Ofx F1u [(.t 5),(.t 6)]),
 Ll 8 (.un .not (.t 7)),
 Lw 4 8] [4])
 (.ret))
def Z9:Fn:=
 { nparams:=2,nblk:=1,results:=[.tmp 4],body:=Z9_B }
def Z8_B:Cd:=
 .seq (.region [Ll 3 (.mv (.c (.bool false)))] [0,1])
 (.seq (.region [Ilx 4 1,
 Lw 5 0,
 Ll 6 (.call .flat [] (.t 4) [(.t 5)]),
 Ll 7 (.un .not (.t 6)),
 Lw 3 7] [3])
 (.ret))
def Z8:Fn:=
 { nparams:=2,nblk:=0,results:=[.tmp 3],body:=Z8_B }
def Z7_B:Cd:=
 .seq (.region [Ll 3 (.box false 0 (.t 1)),
 Ll 4 (.mv (.c (.bool false)))] [0,3])
 (.seq (.region [Lw 5 0,
 Ll 6 (.mkFn F8 [] [(.t 3)]),
 Ll 7 (Ofx F1t [(.t 5),(.t 6)]),
 Ll 8 (.un .not (.t 7)),
 Lw 4 8] [4])
 (.ret))
def Z7:Fn:=
 { nparams:=2,nblk:=1,results:=[.tmp 4],body:=Z7_B }
def Zl_B:Cd:=
 .seq (.region [Ll 3 (.mv (.c (.bool false)))] [0,1])
 (.seq (.region [Lw 4 0,
 Ll 5 (.conv .i64 (.t 4)),
 Ilx 6 1,
 Ll 7 (.bin .lss (.t 5) (.t 6)),
 Lw 3 7] [3])
 (.ret))
def Zl:Fn:=
 { nparams:=2,nblk:=0,results:=[.tmp 3],body:=Zl_B }
def Zk_B:Cd:=
 .seq (.region [Ll 2 (.box false 0 (.t 0)),
 Ll 3 (.box false 1 (.t 1)),
 Ll 4 (.mv (.c (.bool false)))] [2,3])
 (.seq (.region [Ll 5 (.cut (some 64) .leaf (.t 3) none none none),
 Ll 6 (.mkFn Fl [] [(.t 2)]),
 Ll 7 (Ofx F7 [(.t 5),(.t 6)]),
 Lw 4 7] [4])
 (.ret))
def Zk:Fn:=
 { nparams:=2,nblk:=2,results:=[.tmp 4],body:=Zk_B }
def Z1i_B:Cd:=
 .seq (.region [Ll 6 (.mv (.c (.bool false)))] [0,1,2])
 (.seq (.region [Lw 7 1,
 Lw 8 0,
 Ll 9 (.bin .leq (.t 7) (.t 8)),
 Lw 10 9,
 Lx 11 0 10 true,
 Lx 12 2 10 true,
 Lg 13 (.bin .leq (.t 11) (.t 12)) 10 true,
 Ll 14 (.pick (.t 10) (.t 13) (.c (.bool false))),
 Lw 6 14] [6])
 (.ret))
def Z1i:Fn:=
 { nparams:=3,nblk:=0,results:=[.tmp 6],body:=Z1i_B }
def Z1d_B:Cd:=
 .seq (.region [Ll 2 (.mv (Acx 0))] [0])
 (.seq (.seq (.region [Lw 3 0,
 Ll 4 (.len false (.t 3)),
 Ll 5 (.bin .eql (.t 4) (Acx 0))] [0,5])
 (.cond (.t 5)
 (.seq (.region [Ll 2 (.mv (Acx 0))] [2])
 (.ret))
 (.skip)))
 (.seq (.region [Lw 6 0,
 Lw 7 0,
 Ll 8 (.len false (.t 7)),
 Ll 9 (.bin .sub (.t 8) (Acx 1)),
 Ll 10 (.idxA none .leaf (.t 6) (.t 9)),
 Ilx 11 10,
 Lw 2 11] [2])
 (.ret)))
def Z1d:Fn:=
 { nparams:=1,nblk:=0,results:=[.tmp 2],body:=Z1d_B }
def Zz_L0:Cd:=
 .seq (.region [Ll 10 (.bin .lss (.t 9) (.t 8))] [0,2,7,8,9,10])
 (.seq (.cond (.t 10)
 (.skip)
 (.exit 0))
 (.seq (.block 1 (.seq (.seq (.region [Lw 11 7,
 Lw 12 2,
 Ll 13 (.bin .gtr (.t 11) (.t 12))] [0,2,7,8,9,13])
 (.cond (.t 13)
 (.exit 0)
 (.skip)))
 (.region [Lw 14 7,
 Lw 15 0,
 Ll 16 (.bin .mul (.t 14) (.t 15)),
 Lw 7 16] [0,2,7,8,9])))
 (.region [Ll 17 (.bin .add (.t 9) (Acx 1)),
 Lw 9 17] [0,2,7,8,9])))
def Zz_B:Cd:=
 .seq (.region [Ll 6 (.mv (Acx 0))] [0,1,2])
 (.seq (.region [Ll 7 (.mv (Acx 1))] [0,1,2,7])
 (.seq (.seq (.region [Lw 8 1,
 Ll 9 (.mv (Acx 0))] [0,2,7,8,9])
 (.block 0 (.loop (Zz_L0))))
 (.seq (.region [Lw 18 7,
 Lw 6 18] [6])
 (.ret))))
def Zz:Fn:=
 { nparams:=3,nblk:=0,results:=[.tmp 6],body:=Zz_B }
def Z10_L0:Cd:=
 .seq (.seq (.region [Lw 6 1,
 Ll 7 (.bin .gtr (.t 6) (Acx 0))] [0,1,5,7])
 (.cond (.t 7)
 (.skip)
 (.exit 0)))
 (.seq (.block 1 (.region [Lw 11 5,
 Lw 12 1,
 Lw 13 0,
 Ll 14 (.bin .rem (.t 12) (.t 13)),
 Ll 15 (.buildSl false 1 .leaf (.int .i64 0) 1 [(0,(.t 14))]),
 Ll 16 (.append .leaf 2 8 (.t 11) (.t 15)),
 Lw 5 16] [0,1,5]))
 (.region [Lw 8 1,
 Lw 9 0,
 Ll 10 (.bin .quo (.t 8) (.t 9)),
 Lw 1 10] [0,1,5]))
def Z10_B:Cd:=
 .seq (.region [Ll 4 (.mv (.c (.sl .leaf [])))] [0,1])
 (.seq (.region [Ll 5 (.nilOwn 0 .leaf)] [0,1,5])
 (.seq (.block 0 (.loop (Z10_L0)))
 (.seq (.region [Lw 17 5,
 Lw 4 17] [4])
 (.ret))))
def Z10:Fn:=
 { nparams:=2,nblk:=3,results:=[.tmp 4],body:=Z10_B }
def Z12_B:Cd:=
 .seq (.region [Ll 4 (.mv (Acx 0))] [0,1])
 (.seq (.region [Lw 5 1,
 Lw 6 0,
 Ll 7 (.bin .rem (.t 5) (.t 6)),
 Lw 8 0,
 Ll 9 (.bin .add (.t 7) (.t 8)),
 Lw 10 0,
 Ll 11 (.bin .rem (.t 9) (.t 10)),
 Lw 4 11] [4])
 (.ret))
def Z12:Fn:=
 { nparams:=2,nblk:=0,results:=[.tmp 4],body:=Z12_B }
def Z1a_B:Cd:=
 .seq (.region [Ll 4 (.mv (Acx 0))] [0,1])
 (.seq (.seq (.region [Lw 5 1,
 Lw 6 0,
 Ll 7 (.len false (.t 6)),
 Ll 8 (.bin .lss (.t 5) (.t 7))] [0,1,8])
 (.cond (.t 8)
 (.seq (.region [Lw 9 0,
 Lw 10 1,
 Ll 11 (.idxA none .leaf (.t 9) (.t 10)),
 Ilx 12 11,
 Lw 4 12] [4])
 (.ret))
 (.skip)))
 (.seq (.region [Ll 4 (.mv (Acx 0))] [4])
 (.ret)))
def Z1a:Fn:=
 { nparams:=2,nblk:=0,results:=[.tmp 4],body:=Z1a_B }
def Zs_L0:Cd:=
 .seq (.region [Ll 20 (.bin .lss (.t 19) (.t 18))] [0,1,2,3,9,18,19,20])
 (.seq (.cond (.t 20)
 (.skip)
 (.exit 0))
 (.seq (.block 1 (.seq (.region [Lw 21 19,
 Lw 10 21] [0,1,2,3,9,10,18,19])
 (.region [Lw 22 9,
 Lw 23 10,
 Lw 24 0,
 Lw 25 1,
 Lw 26 10,
 Ll 27 (Ofx F1a [(.t 25),(.t 26)]),
 Lw 28 3,
 Lw 29 2,
 Lw 30 10,
 Ll 31 (Ofx F1a [(.t 29),(.t 30)]),
 Ll 32 (.bin .mul (.t 28) (.t 31)),
 Ll 33 (.bin .add (.t 27) (.t 32)),
 Ll 34 (Ofx F12 [(.t 24),(.t 33)]),
 Ll 35 (.idxA none .leaf (.t 22) (.t 23)),
 Ls (.store false .leaf (.t 35) (.t 34))] [0,1,2,3,9,18,19])))
 (.region [Ll 36 (.bin .add (.t 19) (Acx 1)),
 Lw 19 36] [0,1,2,3,9,18,19])))
def Zs_B:Cd:=
 .seq (.region [Ll 8 (.mv (.c (.sl .leaf [])))] [0,1,2,3])
 (.seq (.region [Lw 11 1,
 Ll 12 (.len false (.t 11)),
 Lw 13 2,
 Ll 14 (.len false (.t 13)),
 Ll 15 (.maxI (.t 12) (.t 14)),
 Ll 16 (.mkSl 0 .leaf (.int .i64 0) 8 (.t 15) (.t 15)),
 Lw 9 16] [0,1,2,3,9])
 (.seq (.seq (.region [Lw 17 9,
 Ll 18 (.len false (.t 17)),
 Ll 19 (.mv (Acx 0))] [0,1,2,3,9,18,19])
 (.block 0 (.loop (Zs_L0))))
 (.seq (.region [Lw 37 9,
 Ll 38 (.call .data [] (.f F1f) [(.t 37)]),
 Lw 8 38] [8])
 (.ret))))
def Zs:Fn:=
 { nparams:=4,nblk:=1,results:=[.tmp 8],body:=Zs_B }
def Z16_L0:Cd:=
 .seq (.region [Ll 39 (.bin .lss (.t 38) (.t 37))] [0,2,7,8,9,29,30,31,36,37,38,39])
 (.seq (.cond (.t 39)
 (.skip)
 (.exit 2))
 (.seq (.block 3 (.seq (.region [Lw 40 38,
 Ll 41 (.idxA none .leaf (.t 36) (.t 38)),
 Ilx 42 41,
 Lw 10 40,
 Lw 11 42] [0,2,7,8,9,10,11,29,30,31,36,37,38])
 (.region [Lw 43 7,
 Lw 44 8,
 Lw 45 10,
 Ll 46 (.bin .add (.t 44) (.t 45)),
 Ll 47 (.idxA none .leaf (.t 43) (.t 46)),
 Ilx 48 47,
 Lw 49 9,
 Lw 50 11,
 Ll 51 (.bin .mul (.t 49) (.t 50)),
 Ll 52 (.bin .add (.t 48) (.t 51)),
 Ll 53 (.idxA none .leaf (.t 43) (.t 46)),
 Ls (.store false .leaf (.t 53) (.t 52))] [0,2,7,8,9,29,30,31,36,37,38])))
 (.region [Ll 54 (.bin .add (.t 38) (Acx 1)),
 Lw 38 54] [0,2,7,8,9,29,30,31,36,37,38])))
def Z16_L1:Cd:=
 .seq (.region [Ll 32 (.bin .lss (.t 31) (.t 30))] [0,2,7,29,30,31,32])
 (.seq (.cond (.t 32)
 (.skip)
 (.exit 0))
 (.seq (.block 1 (.seq (.region [Lw 33 31,
 Ll 34 (.idxA none .leaf (.t 29) (.t 31)),
 Ilx 35 34,
 Lw 8 33,
 Lw 9 35] [0,2,7,8,9,29,30,31])
 (.seq (.region [Lw 36 2,
 Ll 37 (.len false (.t 36)),
 Ll 38 (.mv (Acx 0))] [0,2,7,8,9,29,30,31,36,37,38])
 (.block 2 (.loop (Z16_L0))))))
 (.region [Ll 55 (.bin .add (.t 31) (Acx 1)),
 Lw 31 55] [0,2,7,29,30,31])))
def Z16_L2:Cd:=
 .seq (.region [Ll 59 (.bin .lss (.t 58) (.t 57))] [0,7,56,57,58,59])
 (.seq (.cond (.t 59)
 (.skip)
 (.exit 4))
 (.seq (.block 5 (.seq (.region [Lw 60 58,
 Ll 61 (.idxA none .leaf (.t 56) (.t 58)),
 Ilx 62 61,
 Lw 12 60,
 Lw 13 62] [0,7,12,13,56,57,58])
 (.region [Lw 63 7,
 Lw 64 12,
 Lw 65 13,
 Lw 66 0,
 Ll 67 (.bin .rem (.t 65) (.t 66)),
 Ll 68 (.idxA none .leaf (.t 63) (.t 64)),
 Ls (.store false .leaf (.t 68) (.t 67))] [0,7,56,57,58])))
 (.region [Ll 69 (.bin .add (.t 58) (Acx 1)),
 Lw 58 69] [0,7,56,57,58])))
def Z16_B:Cd:=
 .seq (.region [Ll 6 (.mv (.c (.sl .leaf [])))] [0,1,2])
 (.seq (.seq (.region [Lw 14 1,
 Ll 15 (.len false (.t 14)),
 Ll 16 (.bin .eql (.t 15) (Acx 0)),
 Lw 17 16,
 Lx 18 2 17 false,
 Lg 19 (.len false (.t 18)) 17 false,
 Lg 20 (.bin .eql (.t 19) (Acx 0)) 17 false,
 Ll 21 (.pick (.t 17) (.c (.bool true)) (.t 20))] [0,1,2,21])
 (.cond (.t 21)
 (.seq (.region [Ll 6 (.mv (.c (.sl .leaf [])))] [6])
 (.ret))
 (.skip)))
 (.seq (.region [Lw 22 1,
 Ll 23 (.len false (.t 22)),
 Lw 24 2,
 Ll 25 (.len false (.t 24)),
 Ll 26 (.bin .add (.t 23) (.t 25)),
 Ll 27 (.bin .sub (.t 26) (Acx 1)),
 Ll 28 (.mkSl 0 .leaf (.int .i64 0) 8 (.t 27) (.t 27)),
 Lw 7 28] [0,1,2,7])
 (.seq (.seq (.region [Lw 29 1,
 Ll 30 (.len false (.t 29)),
 Ll 31 (.mv (Acx 0))] [0,2,7,29,30,31])
 (.block 0 (.loop (Z16_L1))))
 (.seq (.seq (.region [Lw 56 7,
 Ll 57 (.len false (.t 56)),
 Ll 58 (.mv (Acx 0))] [0,7,56,57,58])
 (.block 4 (.loop (Z16_L2))))
 (.seq (.region [Lw 70 7,
 Ll 71 (.call .data [] (.f F1f) [(.t 70)]),
 Lw 6 71] [6])
 (.ret))))))
def Z16:Fn:=
 { nparams:=3,nblk:=1,results:=[.tmp 6],body:=Z16_B }
def Z14_B:Cd:=
 .seq (.region [Ll 6 (.mv (.c (.sl .leaf [])))] [0,1,2])
 (.seq (.region [Lw 7 0,
 Lw 8 1,
 Lw 9 2,
 Ll 10 (Opx Fs [(.t 7),(.c (.sl .leaf [])),(.t 8),(.t 9)]),
 Lw 6 10] [6])
 (.ret))
def Z14:Fn:=
 { nparams:=3,nblk:=0,results:=[.tmp 6],body:=Z14_B }
def Zx_L0:Cd:=
 .seq (.region [Ll 9 (.bin .lss (.t 8) (.t 7))] [0,1,5,7,8,9])
 (.seq (.cond (.t 9)
 (.skip)
 (.exit 0))
 (.seq (.block 1 (.region [Lw 10 5,
 Lw 11 1,
 Ll 12 (.bin .mul (.t 10) (.t 11)),
 Lw 13 0,
 Ll 14 (.bin .rem (.t 12) (.t 13)),
 Lw 5 14] [0,1,5,7,8]))
 (.region [Ll 15 (.bin .add (.t 8) (Acx 1)),
 Lw 8 15] [0,1,5,7,8])))
def Zx_B:Cd:=
 .seq (.region [Ll 4 (.mv (Acx 0))] [0,1])
 (.seq (.region [Ll 5 (.mv (Acx 1))] [0,1,5])
 (.seq (.seq (.region [Lw 6 0,
 Ll 7 (.bin .sub (.t 6) (Acx 2)),
 Ll 8 (.mv (Acx 0))] [0,1,5,7,8])
 (.block 0 (.loop (Zx_L0))))
 (.seq (.region [Lw 16 5,
 Lw 4 16] [4])
 (.ret))))
def Zx:Fn:=
 { nparams:=2,nblk:=0,results:=[.tmp 4],body:=Zx_B }
def Zt_L0:Cd:=
 .seq (.region [Ll 60 (.bin .lss (.t 59) (.t 58))] [0,2,8,9,10,11,12,57,58,59,60])
 (.seq (.cond (.t 60)
 (.skip)
 (.exit 2))
 (.seq (.block 3 (.seq (.region [Lw 61 59,
 Ll 62 (.idxA none .leaf (.t 57) (.t 59)),
 Ilx 63 62,
 Lw 13 61,
 Lw 14 63] [0,2,8,9,10,11,12,13,14,57,58,59])
 (.region [Lw 64 8,
 Lw 65 11,
 Lw 66 13,
 Ll 67 (.bin .add (.t 65) (.t 66)),
 Lw 68 0,
 Lw 69 8,
 Lw 70 11,
 Lw 71 13,
 Ll 72 (.bin .add (.t 70) (.t 71)),
 Ll 73 (.idxA none .leaf (.t 69) (.t 72)),
 Ilx 74 73,
 Lw 75 12,
 Lw 76 14,
 Ll 77 (.bin .mul (.t 75) (.t 76)),
 Ll 78 (.bin .sub (.t 74) (.t 77)),
 Ll 79 (Ofx F12 [(.t 68),(.t 78)]),
 Ll 80 (.idxA none .leaf (.t 64) (.t 67)),
 Ls (.store false .leaf (.t 80) (.t 79))] [0,2,8,9,10,11,12,57,58,59])))
 (.region [Ll 81 (.bin .add (.t 59) (Acx 1)),
 Lw 59 81] [0,2,8,9,10,11,12,57,58,59])))
def Zt_L1:Cd:=
 .seq (.seq (.region [Lw 37 11,
 Ll 38 (.bin .geq (.t 37) (Acx 0))] [0,2,8,9,10,11,38])
 (.cond (.t 38)
 (.skip)
 (.exit 0)))
 (.seq (.block 1 (.seq (.region [Lw 41 8,
 Lw 42 11,
 Lw 43 2,
 Ll 44 (.len false (.t 43)),
 Ll 45 (.bin .add (.t 42) (.t 44)),
 Ll 46 (.bin .sub (.t 45) (Acx 1)),
 Ll 47 (.idxA none .leaf (.t 41) (.t 46)),
 Ilx 48 47,
 Lw 49 10,
 Ll 50 (.bin .mul (.t 48) (.t 49)),
 Lw 51 0,
 Ll 52 (.bin .rem (.t 50) (.t 51)),
 Lw 12 52] [0,2,8,9,10,11,12])
 (.seq (.region [Lw 53 9,
 Lw 54 11,
 Lw 55 12,
 Ll 56 (.idxA none .leaf (.t 53) (.t 54)),
 Ls (.store false .leaf (.t 56) (.t 55))] [0,2,8,9,10,11,12])
 (.seq (.region [Lw 57 2,
 Ll 58 (.len false (.t 57)),
 Ll 59 (.mv (Acx 0))] [0,2,8,9,10,11,12,57,58,59])
 (.block 2 (.loop (Zt_L0)))))))
 (.region [Lw 39 11,
 Ll 40 (.bin .sub (.t 39) (Acx 1)),
 Lw 11 40] [0,2,8,9,10,11]))
def Zt_B:Cd:=
 .seq (.region [Ll 6 (.mv (.c (.sl .leaf []))),
 Ll 7 (.mv (.c (.sl .leaf [])))] [0,1,2])
 (.seq (.region [Lw 15 1,
 Ll 16 (.call .heap [0] (.f F1s) [(.t 15)]),
 Lw 8 16] [0,1,2,8])
 (.seq (.seq (.region [Lw 17 1,
 Ll 18 (.len false (.t 17)),
 Lw 19 2,
 Ll 20 (.len false (.t 19)),
 Ll 21 (.bin .lss (.t 18) (.t 20))] [0,1,2,8,21])
 (.cond (.t 21)
 (.seq (.region [Lw 22 8,
 Ll 6 (.mv (.c (.sl .leaf []))),
 Lw 7 22] [6,7])
 (.ret))
 (.skip)))
 (.seq (.region [Lw 23 1,
 Ll 24 (.len false (.t 23)),
 Lw 25 2,
 Ll 26 (.len false (.t 25)),
 Ll 27 (.bin .sub (.t 24) (.t 26)),
 Ll 28 (.bin .add (.t 27) (Acx 1)),
 Ll 29 (.mkSl 1 .leaf (.int .i64 0) 8 (.t 28) (.t 28)),
 Lw 9 29] [0,2,8,9])
 (.seq (.region [Lw 30 0,
 Lw 31 2,
 Ll 32 (Ofx F1d [(.t 31)]),
 Ll 33 (Ofx Fx [(.t 30),(.t 32)]),
 Lw 10 33] [0,2,8,9,10])
 (.seq (.seq (.region [Lw 34 9,
 Ll 35 (.len false (.t 34)),
 Ll 36 (.bin .sub (.t 35) (Acx 1)),
 Lw 11 36] [0,2,8,9,10,11])
 (.block 0 (.loop (Zt_L1))))
 (.seq (.region [Lw 82 9,
 Ll 83 (.call .data [] (.f F1f) [(.t 82)]),
 Lw 84 8,
 Ll 85 (.call .data [] (.f F1f) [(.t 84)]),
 Lw 6 83,
 Lw 7 85] [6,7])
 (.ret)))))))
def Zt:Fn:=
 { nparams:=3,nblk:=2,results:=[.tmp 6,.tmp 7],body:=Zt_B }
def Zr_L0:Cd:=
 .seq (.seq (.region [Lw 18 2,
 Ll 19 (.len false (.t 18)),
 Ll 20 (.bin .gtr (.t 19) (Acx 0))] [0,1,2,9,10,11,12,20])
 (.cond (.t 20)
 (.skip)
 (.exit 0)))
 (.block 1 (.seq (.region [Lw 22 0,
 Lw 23 1,
 Lw 24 2,
 Ll 25 (Opx Ft [(.t 22),(.t 23),(.t 24)]),
 Lw 21 25,
 Iex 26 21 0,
 Iex 27 21 1,
 Lw 13 26,
 Lw 14 27] [0,2,9,10,11,12,13,14])
 (.seq (.region [Lw 28 2,
 Lw 29 14,
 Lw 1 28,
 Lw 2 29] [0,1,2,9,10,11,12,13])
 (.seq (.region [Lw 30 11,
 Lw 31 0,
 Lw 32 9,
 Lw 33 0,
 Lw 34 13,
 Lw 35 11,
 Ll 36 (Opx F16 [(.t 33),(.t 34),(.t 35)]),
 Ll 37 (.call .data [] (.f Fs) [(.t 31),(.t 32),(.t 36),(Acx (-1))]),
 Lw 9 30,
 Lw 11 37] [0,1,2,9,10,11,12,13])
 (.region [Lw 38 12,
 Lw 39 0,
 Lw 40 10,
 Lw 41 0,
 Lw 42 13,
 Lw 43 12,
 Ll 44 (.call .data [] (.f F16) [(.t 41),(.t 42),(.t 43)]),
 Ll 45 (.call .data [] (.f Fs) [(.t 39),(.t 40),(.t 44),(Acx (-1))]),
 Lw 10 38,
 Lw 12 45] [0,1,2,9,10,11,12])))))
def Zr_B:Cd:=
 .seq (.region [Ll 6 (.mv (.c (.sl .leaf []))),
 Ll 7 (.mv (.c (.sl .leaf []))),
 Ll 8 (.mv (.c (.sl .leaf [])))] [0,1,2])
 (.seq (.region [Ll 16 (.buildSl false 0 .leaf (.int .i64 0) 1 [(0,(Acx 1))]),
 Lw 9 16,
 Ll 10 (.mv (.c (.sl .leaf [])))] [0,1,2,9,10])
 (.seq (.region [Ll 17 (.buildSl false 1 .leaf (.int .i64 0) 1 [(0,(Acx 1))]),
 Ll 11 (.mv (.c (.sl .leaf []))),
 Lw 12 17] [0,1,2,9,10,11,12])
 (.seq (.block 0 (.loop (Zr_L0)))
 (.seq (.region [Lw 46 0,
 Lw 47 1,
 Ll 48 (Ofx F1d [(.t 47)]),
 Ll 49 (Ofx Fx [(.t 46),(.t 48)]),
 Lw 15 49] [0,1,9,10,15])
 (.seq (.region [Lw 50 0,
 Lw 51 1,
 Lw 52 15,
 Ll 53 (Opx F14 [(.t 50),(.t 51),(.t 52)]),
 Lw 54 0,
 Lw 55 9,
 Lw 56 15,
 Ll 57 (.call .data [] (.f F14) [(.t 54),(.t 55),(.t 56)]),
 Lw 58 0,
 Lw 59 10,
 Lw 60 15,
 Ll 61 (.call .data [] (.f F14) [(.t 58),(.t 59),(.t 60)]),
 Lw 6 53,
 Lw 7 57,
 Lw 8 61] [6,7,8])
 (.ret))))))
def Zr:Fn:=
 { nparams:=3,nblk:=2,results:=[.tmp 6,.tmp 7,.tmp 8],body:=Zr_B }
def Zw_B:Cd:=
 .seq (.region [Ll 6 (.mv (.c (.sl .leaf [])))] [0,1,2])
 (.seq (.region [Lw 11 0,
 Lw 12 1,
 Lw 13 2,
 Ll 14 (Opx Fr [(.t 11),(.t 12),(.t 13)]),
 Lw 10 14,
 Iex 15 10 0,
 Iex 16 10 1,
 Iex 17 10 2,
 Lw 7 15,
 Lw 8 16,
 Lw 9 17] [7])
 (.seq (.region [Lw 18 7,
 Lw 6 18] [6])
 (.ret)))
def Zw:Fn:=
 { nparams:=3,nblk:=0,results:=[.tmp 6],body:=Zw_B }
def Z13_B:Cd:=
 .seq (.region [Ll 6 (.mv (.c (.sl .leaf [])))] [0,1,2])
 (.seq (.region [Lw 10 0,
 Lw 11 1,
 Lw 12 2,
 Ll 13 (Opx Ft [(.t 10),(.t 11),(.t 12)]),
 Lw 9 13,
 Iex 14 9 0,
 Iex 15 9 1,
 Lw 7 14,
 Lw 8 15] [8])
 (.seq (.region [Lw 16 8,
 Lw 6 16] [6])
 (.ret)))
def Z13:Fn:=
 { nparams:=3,nblk:=0,results:=[.tmp 6],body:=Z13_B }
def Z11_L0:Cd:=
 .seq (.seq (.region [Lw 19 2,
 Ll 20 (.bin .gtr (.t 19) (Acx 0))] [0,2,3,9,10,20])
 (.cond (.t 20)
 (.skip)
 (.exit 0)))
 (.seq (.block 1 (.seq (.seq (.region [Lw 23 2,
 Ll 24 (.bin .and (.t 23) (Acx 1)),
 Ll 25 (.bin .eql (.t 24) (Acx 1))] [0,2,3,9,10,25])
 (.cond (.t 25)
 (.region [Lw 26 0,
 Lw 27 0,
 Lw 28 9,
 Lw 29 10,
 Ll 30 (Opx F16 [(.t 27),(.t 28),(.t 29)]),
 Lw 31 3,
 Ll 32 (Opx F13 [(.t 26),(.t 30),(.t 31)]),
 Lw 9 32] [0,2,3,9,10])
 (.skip)))
 (.region [Lw 33 0,
 Lw 34 0,
 Lw 35 10,
 Lw 36 10,
 Ll 37 (Opx F16 [(.t 34),(.t 35),(.t 36)]),
 Lw 38 3,
 Ll 39 (Opx F13 [(.t 33),(.t 37),(.t 38)]),
 Lw 10 39] [0,2,3,9,10])))
 (.region [Lw 21 2,
 Ll 22 (.bin .shr (.t 21) (.c (.int .u64 1))),
 Lw 2 22] [0,2,3,9,10]))
def Z11_B:Cd:=
 .seq (.region [Ll 8 (.mv (.c (.sl .leaf [])))] [0,1,2,3])
 (.seq (.region [Lw 11 0,
 Ll 12 (.buildSl false 0 .leaf (.int .i64 0) 1 [(0,(Acx 1))]),
 Lw 13 3,
 Ll 14 (.call .data [] (.f F13) [(.t 11),(.t 12),(.t 13)]),
 Lw 15 0,
 Lw 16 1,
 Lw 17 3,
 Ll 18 (Opx F13 [(.t 15),(.t 16),(.t 17)]),
 Lw 9 14,
 Lw 10 18] [0,2,3,9,10])
 (.seq (.block 0 (.loop (Z11_L0)))
 (.seq (.region [Lw 40 9,
 Lw 8 40] [8])
 (.ret))))
def Z11:Fn:=
 { nparams:=4,nblk:=1,results:=[.tmp 8],body:=Z11_B }
def Z4_B:Cd:=
 .seq (.region [Ll 3 (.box false 0 (.t 1)),
 Ll 4 (.mv (.c (.bool false)))] [0,3])
 (.seq (.region [Lw 5 0,
 Ll 6 (Ofx Fm [(.t 5)]),
 Lw 7 6,
 Lx 8 0 7 true,
 Lg 9 (.load Sx6 (.t 3)) 7 true,
 Lg 10 (Ofx Fk [(.t 8),(.t 9)]) 7 true,
 Ll 11 (.pick (.t 7) (.t 10) (.c (.bool false))),
 Lw 4 11] [4])
 (.ret))
def Z4:Fn:=
 { nparams:=2,nblk:=1,results:=[.tmp 4],body:=Z4_B }
def Z1e_L0:Cd:=
 .seq (.region [Ll 9 (.bin .lss (.t 8) (.t 7))] [2,3,6,7,8,9])
 (.seq (.cond (.t 9)
 (.skip)
 (.exit 0))
 (.seq (.block 1 (.seq (.region [Lw 10 8,
 Ll 11 (.idxA none .leaf (.t 6) (.t 8)),
 Ilx 12 11,
 Lw 4 10,
 Lw 5 12] [2,3,4,5,6,7,8])
 (.region [Lw 13 4,
 Lw 14 5,
 Ll 15 (.conv .u8 (.t 14)),
 Ll 16 (.idxA (some 64) .leaf (.t 3) (.t 13)),
 Ls (.store false .leaf (.t 16) (.t 15))] [2,3,6,7,8])))
 (.region [Ll 17 (.bin .add (.t 8) (Acx 1)),
 Lw 8 17] [2,3,6,7,8])))
def Z1e_B:Cd:=
 .seq (.region [Ll 2 (.box false 0 (.c (.arr 64 .leaf z64)))] [0,2])
 (.seq (.region [Ll 3 (.box false 1 (.c (.arr 64 .leaf z64)))] [0,2,3])
 (.seq (.seq (.region [Lw 6 0,
 Ll 7 (.len false (.t 6)),
 Ll 8 (.mv (Acx 0))] [2,3,6,7,8])
 (.block 0 (.loop (Z1e_L0))))
 (.seq (.region [Ipx 18 3,
 Ls (.store false Sx6 (.t 2) (.t 18))] [2])
 (.ret))))
def Z1e:Fn:=
 { nparams:=1,nblk:=2,results:=[.cell 2 Sx6],body:=Z1e_B }
def Z1c_B:Cd:=
 .seq (.region [Ll 2 (.mv (.c (.bool false)))] [0])
 (.seq (.region [Lw 3 0,
 Ll 4 (Ofx F1b [(.t 3)]),
 Ll 5 (.bin .leq (.t 4) (Acx 63)),
 Lw 2 5] [2])
 (.ret))
def Z1c:Fn:=
 { nparams:=1,nblk:=0,results:=[.tmp 2],body:=Z1c_B }
def Z1h_B:Cd:=
 .seq (.region [Ll 2 (.box false 0 (.c (.arr 64 .leaf z64))),
 Ll 3 (.mv (Acx 0))] [0,2])
 (.seq (.seq (.region [Lw 4 0,
 Ll 5 (Ofx F1c [(.t 4)]),
 Ll 6 (.un .not (.t 5))] [0,2,6])
 (.cond (.t 6)
 (.seq (.region [Ll 7 (.build false (.arr 64 .leaf z64) []),
 Ls (.store false Sx6 (.t 2) (.t 7)),
 Ll 3 (.mv (Acx 3))] [2,3])
 (.ret))
 (.skip)))
 (.seq (.region [Lw 8 0,
 Ll 9 (Ofx F1e [(.t 8)]),
 Ls (.store false Sx6 (.t 2) (.t 9)),
 Ll 3 (.mv (Acx 0))] [2,3])
 (.ret)))
def Z1h:Fn:=
 { nparams:=1,nblk:=1,results:=[.cell 2 Sx6,.tmp 3],body:=Z1h_B }
end Pe

/-
 Functions of the program in the small form,printed by a program.
-/
namespace Pe
open Go
def Zo_B:Cd:=
 .seq (.region [Ll 0 (.mv (.c (.sl .leaf [])))] [])
 (.seq (.region [Ll 1 (.buildSl false 0 .leaf (.int .i64 0) 2 [(0,(Acx 0)),(1,(Acx 1))]),
 Lw 0 1] [0])
 (.ret))
def Zo:Fn:=
 { nparams:=0,nblk:=1,results:=[.tmp 0],body:=Zo_B }
def Z17_L0:Cd:=
 .seq (.seq (.region [Lw 25 8,
 Lw 26 7,
 Ll 27 (.bin .mul (Acx 2) (.t 26)),
 Ll 28 (.bin .lss (.t 25) (.t 27))] [0,1,7,8,28])
 (.cond (.t 28)
 (.skip)
 (.exit 0)))
 (.seq (.block 1 (.seq (.region [Lw 31 0,
 Lw 32 8,
 Ll 33 (Opx F10 [(.t 31),(.t 32)]),
 Lw 9 33] [0,1,7,8,9])
 (.seq (.region [Lw 34 0,
 Lw 35 1,
 Lw 36 9,
 Ll 37 (Opx F13 [(.t 34),(.t 35),(.t 36)]),
 Ll 38 (.len false (.t 37)),
 Ll 39 (.bin .eql (.t 38) (Acx 0))] [0,1,7,8,9,39])
 (.cond (.t 39)
 (.seq (.region [Lw 40 9,
 Lw 6 40] [6])
 (.ret))
 (.skip)))))
 (.region [Lw 29 8,
 Ll 30 (.bin .add (.t 29) (Acx 1)),
 Lw 8 30] [0,1,7,8]))
def Z17_B:Cd:=
 .seq (.region [Ll 6 (.mv (.c (.sl .leaf [])))] [0,1,2])
 (.seq (.seq (.region [Lw 10 1,
 Ll 11 (Ofx F1b [(.t 10)]),
 Lw 12 2,
 Ll 13 (.bin .eql (.t 11) (.t 12))] [0,1,2,13])
 (.cond (.t 13)
 (.seq (.region [Lw 14 0,
 Lw 15 1,
 Lw 16 0,
 Lw 17 1,
 Ll 18 (Ofx F1d [(.t 17)]),
 Ll 19 (Ofx Fx [(.t 16),(.t 18)]),
 Ll 20 (Opx F14 [(.t 14),(.t 15),(.t 19)]),
 Lw 6 20] [6])
 (.ret))
 (.skip)))
 (.seq (.region [Lw 21 0,
 Lw 22 2,
 Ll 23 (Ofx Fz [(.t 21),(.t 22),(Acx 1099511627776)]),
 Lw 7 23] [0,1,7])
 (.seq (.seq (.region [Lw 24 7,
 Lw 8 24] [0,1,7,8])
 (.block 0 (.loop (Z17_L0))))
 (.seq (.region [Lw 41 1,
 Lw 6 41] [6])
 (.ret)))))
def Z17:Fn:=
 { nparams:=3,nblk:=0,results:=[.tmp 6],body:=Z17_B }
def Z15_L0:Cd:=
 .block 1 (.seq (.region [Lw 12 0,
 Lw 13 1,
 Lw 14 2,
 Ll 15 (Opx Ft [(.t 12),(.t 13),(.t 14)]),
 Lw 11 15,
 Iex 16 11 0,
 Iex 17 11 1,
 Lw 9 16,
 Lw 10 17] [0,1,2,8,9,10])
 (.seq (.seq (.region [Lw 18 10,
 Ll 19 (.len false (.t 18)),
 Ll 20 (.bin .gtr (.t 19) (Acx 0))] [0,1,2,8,9,20])
 (.cond (.t 20)
 (.seq (.region [Lw 21 1,
 Lw 22 8,
 Lw 6 21,
 Lw 7 22] [6,7])
 (.ret))
 (.skip)))
 (.seq (.region [Lw 23 9,
 Lw 1 23] [0,1,2,8])
 (.region [Lw 24 8,
 Ll 25 (.bin .add (.t 24) (Acx 1)),
 Lw 8 25] [0,1,2,8]))))
def Z15_B:Cd:=
 .seq (.region [Ll 6 (.mv (.c (.sl .leaf []))),
 Ll 7 (.mv (Acx 0))] [0,1,2])
 (.seq (.region [Ll 8 (.mv (Acx 0))] [0,1,2,8])
 (.block 0 (.loop (Z15_L0))))
def Z15:Fn:=
 { nparams:=3,nblk:=0,results:=[.tmp 6,.tmp 7],body:=Z15_B }
def Zb_L0:Cd:=
 .seq (.seq (.region [Lw 19 6,
 Ll 20 (.bin .geq (.t 19) (Acx 0))] [0,1,6,20])
 (.cond (.t 20)
 (.skip)
 (.exit 0)))
 (.seq (.block 1 (.seq (.region [Lw 23 0,
 Lw 24 6,
 Ll 25 (.idxA none .leaf (.t 23) (.t 24)),
 Ilx 26 25,
 Lw 27 1,
 Lw 28 6,
 Ll 29 (.idxA none .leaf (.t 27) (.t 28)),
 Ilx 30 29,
 Ll 31 (Ofx F1 [(.t 26),(.t 30)]),
 Lw 7 31] [0,1,6,7])
 (.seq (.region [Lw 32 7,
 Ll 33 (.bin .neq (.t 32) (Acx 0))] [0,1,6,7,33])
 (.cond (.t 33)
 (.seq (.region [Lw 34 7,
 Lw 4 34] [4])
 (.ret))
 (.skip)))))
 (.region [Lw 21 6,
 Ll 22 (.bin .sub (.t 21) (Acx 1)),
 Lw 6 22] [0,1,6]))
def Zb_B:Cd:=
 .seq (.region [Ll 4 (.mv (Acx 0))] [0,1])
 (.seq (.seq (.region [Lw 8 0,
 Ll 9 (.len false (.t 8)),
 Lw 10 1,
 Ll 11 (.len false (.t 10)),
 Ll 12 (Ofx F0 [(.t 9),(.t 11)]),
 Lw 5 12] [0,1,5])
 (.seq (.region [Lw 13 5,
 Ll 14 (.bin .neq (.t 13) (Acx 0))] [0,1,5,14])
 (.cond (.t 14)
 (.seq (.region [Lw 15 5,
 Lw 4 15] [4])
 (.ret))
 (.skip))))
 (.seq (.seq (.region [Lw 16 0,
 Ll 17 (.len false (.t 16)),
 Ll 18 (.bin .sub (.t 17) (Acx 1)),
 Lw 6 18] [0,1,6])
 (.block 0 (.loop (Zb_L0))))
 (.seq (.region [Ll 4 (.mv (Acx 0))] [4])
 (.ret))))
def Zb:Fn:=
 { nparams:=2,nblk:=0,results:=[.tmp 4],body:=Zb_B }
def Zv_B:Cd:=
 .seq (.region [Ll 2 (.box false 0 (.t 0)),
 Ll 3 (.box false 1 (.t 1)),
 Ll 4 (.mv (Acx 0))] [2,3])
 (.seq (.region [Ll 5 (.fldA [.leaf,.leaf] (.t 2) 0),
 Ilx 6 5,
 Ll 7 (.fldA [.leaf,.leaf] (.t 3) 0),
 Ilx 8 7,
 Ll 9 (Ofx Fb [(.t 6),(.t 8)]),
 Lw 4 9] [4])
 (.ret))
def Zv:Fn:=
 { nparams:=2,nblk:=2,results:=[.tmp 4],body:=Zv_B }
def Zu_L0:Cd:=
 .seq (.region [Ll 36 (.bin .lss (.t 35) (.t 34))] [0,1,5,6,7,34,35,36])
 (.seq (.cond (.t 36)
 (.skip)
 (.exit 2))
 (.seq (.block 3 (.region [Lw 37 0,
 Lw 38 7,
 Lw 39 0,
 Lw 40 1,
 Ll 41 (Opx F11 [(.t 37),(.t 38),(.t 39),(.t 40)]),
 Lw 7 41] [0,1,5,6,7,34,35]))
 (.region [Ll 42 (.bin .add (.t 35) (Acx 1)),
 Lw 35 42] [0,1,5,6,7,34,35])))
def Zu_L1:Cd:=
 .seq (.seq (.region [Lw 50 8,
 Ll 51 (Ofx F1b [(.t 50)]),
 Ll 52 (.bin .gtr (.t 51) (Acx 0))] [0,1,5,6,8,52])
 (.cond (.t 52)
 (.skip)
 (.exit 4)))
 (.block 5 (.seq (.region [Lw 53 0,
 Lw 54 8,
 Lw 55 6,
 Ll 56 (Opx F17 [(.t 53),(.t 54),(.t 55)]),
 Lw 9 56] [0,1,5,6,8,9])
 (.seq (.region [Lw 58 0,
 Lw 59 1,
 Lw 60 9,
 Ll 61 (Opx F15 [(.t 58),(.t 59),(.t 60)]),
 Lw 57 61,
 Iex 62 57 0,
 Iex 63 57 1,
 Lw 10 62,
 Lw 11 63] [0,5,6,8,9,10,11])
 (.seq (.region [Lw 64 10,
 Lw 1 64] [0,1,5,6,8,9,11])
 (.seq (.region [Lw 66 0,
 Lw 67 8,
 Lw 68 9,
 Ll 69 (Opx F15 [(.t 66),(.t 67),(.t 68)]),
 Lw 65 69,
 Iex 70 65 0,
 Iex 71 65 1,
 Lw 8 70] [0,1,5,6,8,9,11])
 (.region [Lw 72 5,
 Lw 73 9,
 Lw 74 11,
 Ll 75 (.build false (.st [.leaf,.leaf] [(.sl .leaf []),(.int .i64 0)]) [(0,(.t 73)),(1,(.t 74))]),
 Ll 76 (.buildSl false 3 (.st [.leaf,.leaf]) (.st [.leaf,.leaf] [(.sl .leaf []),(.int .i64 0)]) 1 [(0,(.t 75))]),
 Ll 77 (.append (.st [.leaf,.leaf]) 4 32 (.t 72) (.t 76)),
 Lw 5 77] [0,1,5,6,8]))))))
def Zu_L2:Cd:=
 .seq (.seq (.region [Lw 12 1,
 Ll 13 (Ofx F1b [(.t 12)]),
 Ll 14 (.bin .gtr (.t 13) (Acx 0))] [0,1,5,6,14])
 (.cond (.t 14)
 (.skip)
 (.exit 0)))
 (.seq (.block 1 (.seq (.seq (.region [Lw 17 6,
 Ll 18 (.bin .mul (Acx 2) (.t 17)),
 Lw 19 1,
 Ll 20 (Ofx F1b [(.t 19)]),
 Ll 21 (.bin .gtr (.t 18) (.t 20))] [0,1,5,6,21])
 (.cond (.t 21)
 (.seq (.region [Lw 22 5,
 Lw 23 0,
 Lw 24 1,
 Lw 25 0,
 Lw 26 1,
 Ll 27 (Ofx F1d [(.t 26)]),
 Ll 28 (Ofx Fx [(.t 25),(.t 27)]),
 Ll 29 (Opx F14 [(.t 23),(.t 24),(.t 28)]),
 Ll 30 (.build false (.st [.leaf,.leaf] [(.sl .leaf []),(.int .i64 0)]) [(0,(.t 29)),(1,(Acx 1))]),
 Ll 31 (.buildSl false 1 (.st [.leaf,.leaf]) (.st [.leaf,.leaf] [(.sl .leaf []),(.int .i64 0)]) 1 [(0,(.t 30))]),
 Ll 32 (.append (.st [.leaf,.leaf]) 2 32 (.t 22) (.t 31)),
 Lw 5 32] [5])
 (.exit 0))
 (.skip)))
 (.seq (.region [Ll 33 (Opx Fo []),
 Lw 7 33] [0,1,5,6,7])
 (.seq (.seq (.region [Lw 34 6,
 Ll 35 (.mv (Acx 0))] [0,1,5,6,7,34,35])
 (.block 2 (.loop (Zu_L0))))
 (.seq (.region [Lw 43 0,
 Lw 44 0,
 Lw 45 7,
 Ll 46 (Opx Fo []),
 Ll 47 (Opx Fs [(.t 44),(.t 45),(.t 46),(Acx (-1))]),
 Lw 48 1,
 Ll 49 (Opx Fw [(.t 43),(.t 47),(.t 48)]),
 Lw 8 49] [0,1,5,6,8])
 (.block 4 (.loop (Zu_L1))))))))
 (.region [Lw 15 6,
 Ll 16 (.bin .add (.t 15) (Acx 1)),
 Lw 6 16] [0,1,5,6]))
def Zu_B:Cd:=
 .seq (.region [Ll 4 (.mv (.c (.sl (.st [.leaf,.leaf]) [])))] [0,1])
 (.seq (.region [Ll 5 (.nilOwn 0 (.st [.leaf,.leaf]))] [0,1,5])
 (.seq (.seq (.region [Ll 6 (.mv (Acx 1))] [0,1,5,6])
 (.block 0 (.loop (Zu_L2))))
 (.seq (.region [Lw 78 5,
 Ll 79 (.call .heap [] (.f F1x) [(.t 78),(.f Fv)])] [5])
 (.seq (.region [Lw 80 5,
 Lw 4 80] [4])
 (.ret)))))
def Zu:Fn:=
 { nparams:=2,nblk:=5,results:=[.tmp 4],body:=Zu_B }
def Zy_B:Cd:=
 .seq (.region [Ll 4 (.mv (.c (.bool false)))] [0,1])
 (.seq (.seq (.region [Lw 6 1,
 Ll 7 (Ofx F1d [(.t 6)]),
 Ll 8 (.bin .neq (.t 7) (Acx 1)),
 Lw 9 8,
 Lx 10 1 9 false,
 Lg 11 (Ofx F1b [(.t 10)]) 9 false,
 Lg 12 (.bin .lss (.t 11) (Acx 1)) 9 false,
 Ll 13 (.pick (.t 9) (.c (.bool true)) (.t 12))] [0,1,13])
 (.cond (.t 13)
 (.seq (.region [Ll 4 (.mv (.c (.bool false)))] [4])
 (.ret))
 (.skip)))
 (.seq (.region [Lw 14 0,
 Lw 15 1,
 Ll 16 (Opx Fu [(.t 14),(.t 15)]),
 Lw 5 16] [5])
 (.seq (.region [Lw 17 5,
 Ll 18 (.len false (.t 17)),
 Ll 19 (.bin .eql (.t 18) (Acx 1)),
 Lw 20 19,
 Lx 21 5 20 true,
 Lg 22 (.idxA none (.st [.leaf,.leaf]) (.t 21) (Acx 0)) 20 true,
 Lg 23 (.fldA [.leaf,.leaf] (.t 22) 1) 20 true,
 Lg 24 (.load .leaf (.t 23)) 20 true,
 Lg 25 (.bin .eql (.t 24) (Acx 1)) 20 true,
 Ll 26 (.pick (.t 20) (.t 25) (.c (.bool false))),
 Lw 4 26] [4])
 (.ret))))
def Zy:Fn:=
 { nparams:=2,nblk:=0,results:=[.tmp 4],body:=Zy_B }
end Pe

namespace Pe
open Go
variable {T:Nat→Option Fn} {A:ah}
theorem zc {n p:Int} (hp:0<p):-p<n.tmod p∧n.tmod p<p:=by
 have hp0:p≠0:=by omega
 have e:=Int.tmod_eq_emod (a:=n) (b:=p);have g1:=db n hp0;have g2:=cl n hp;refine ⟨?_,Int.tmod_lt_of_pos n hp⟩;rw [e]
 split
 ·omega
 ·rename_i hx
  have hx':n%p≠0:=fun h0=>hx (.inr (Int.dvd_of_emod_eq_zero h0))
  omega
theorem vu {n p:Int} (hp:0<p):(n.tmod p+p).tmod p=n%p:=by
 have e0:=zc (n:=n) hp;rw [cd (by omega),Int.add_emod_right,Int.tmod_eq_emod]
 split
 ·simp
 ·rw [show ((p.natAbs:Nat):Int)=p by omega,Int.sub_emod,Int.emod_self,Int.sub_zero,ig _ (Int.dvd_refl p),ig _ (Int.dvd_refl p)]
def ri (O:ah):Prop:=∀p n:Int,0<p→p<1000000→-9000000000000000000≤n→n≤9000000000000000000→ask O F12 [(D.int .i64 p),(D.int .i64 n)]=some ((D.int .i64 (n%p)))
theorem Uf (hT:T F12=some Z12):ri (den T A):=by
 intro p n hp hp' hn hn';have hp0:p≠0:=by omega
 have e0:=zc (n:=n) hp;have h1:IntKind.i64.wrap (n.tmod p+p)=n.tmod p+p:=w64 (by omega)
 refine bu hT rfl ?_;simp -implicitDefEqProofs [Z12,Z12_B,hp0,h1,vu hp]
def cf (l:List Int) (i:Nat):Int:=l.getD i 0
theorem e8 {l:List Int} {i:Nat} (h:i<l.length):cf l i=l[i]:=by simp [cf,h]
theorem m5 {l:List Int} {i:Nat} (h:l.length≤i):cf l i=0:=by simp [cf,h]
def a0h (O:ah):Prop:=∀(l:List Int) (i:Nat),i<9000000000000000000→ask O F1a [(D.sl .leaf (am .i64 l)),(D.int .i64 i)]=some ((D.int .i64 (cf l i)))
theorem abg (hT:T F1a=some Z1a):a0h (den T A):=by
 intro l i hi;refine bu hT rfl ?_
 by_cases h:i<l.length
 ·have h1:l[i]? = some l[i]:=ac h
  have h2:(i:Int)<(l.length:Int):=by omega
  simp -implicitDefEqProofs [Z1a,Z1a_B,h1,h2,ao,e8 h]
 ·have h2:¬ (i:Int)<(l.length:Int):=by omega
  simp -implicitDefEqProofs [Z1a,Z1a_B,h2,ao,m5 (Nat.le_of_not_lt h)]
def mw (l:List Int):Nat→Nat
 | 0=>0
 | n+1=>if cf l n=0 then mw l n else n+1
def trim (l:List Int):List Int:=l.take (mw l l.length)
theorem Ca (l:List Int):∀n,mw l n≤n
 | 0=>b9 0
 | n+1=>by
  simp only [mw]
  split
  ·have:=Ca l n; omega
  ·exact b9 _
theorem Gt {O:ah} {l:List Int} (hl:l.length<1000000):∀(n:Nat),n≤l.length →
 dn O 0 (.loop Z1f_L0) ⟨[(0,(.d (.sl .leaf (am .i64 l)))),(3,(.d (.int .i64 n)))],[]⟩=some (.exit 0,⟨[(0,(.d (.sl .leaf (am .i64 l)))),(3,(.d (.int .i64 (mw l n)))),(15,(.d (.bool false)))],[]⟩)
 | 0,_=>bv (by simp -implicitDefEqProofs [Z1f_L0,ao,mw])
 | n+1,hn=>by
  have hlt:n<l.length:=by omega
  have h1:l[n]? = some l[n]:=ac hlt;have h2:IntKind.i64.wrap (n:Int)=n:=w64 (by omega)
  have h3:(0:Int)<(n:Int)+1:=by omega
  by_cases h0:l[n]=0
  ·have e:mw l (n+1)=mw l n:=by simp [mw,e8 hlt,h0]
   rw [e];exact bq (by simp -implicitDefEqProofs [Z1f_L0,ao,h1,h2,h3,h0]) (Gt hl n (by omega))
  ·have e:mw l (n+1)=n+1:=by simp [mw,e8 hlt,h0]
   rw [e];exact bv (by simp -implicitDefEqProofs [Z1f_L0,ao,h1,h2,h3,h0])
def pu (O:ah):Prop:=∀l:List Int,l.length<1000000→ask O F1f [(D.sl .leaf (am .i64 l))]=some ((D.sl .leaf (am .i64 (trim l))))
theorem Tf (hT:T F1f=some Z1f):pu (den T A):=by
 intro l hl;refine bu hT rfl ?_;have ht:=Ca l l.length;simp -implicitDefEqProofs [Z1f,Z1f_B,Gt hl l.length (b9 _),ht,trim]
def upd (f:Nat→Int):Nat→Nat→List Int→List Int
 | 0,_,l=>l
 | m+1,i,l=>upd f m (i+1) (l.set i (f i))
theorem u5 (f:Nat→Int):∀(m i:Nat) (l:List Int),(upd f m i l).length=l.length
 | 0,_,_=>rfl
 | m+1,i,l=>by rw [upd,u5 f m]; simp
theorem Bs (f:Nat→Int):∀(m i:Nat) (l:List Int) (j:Nat),(upd f m i l)[j]? = if i≤j∧j<i+m∧j<l.length then some (f j) else l[j]?
 | 0,i,l,j=>by rw [upd,if_neg (by omega)]
 | m+1,i,l,j=>by
  rw [upd,Bs f m,br]
  by_cases h1:i+1≤j∧j<i+1+m∧j<l.length
  ·rw [if_pos h1,if_pos (by omega)]
  ·rw [if_neg h1]
   by_cases h2:j=i
   ·subst h2
    by_cases h3:j<l.length
    ·rw [if_pos (by omega),au h3]
    ·rw [if_neg (by omega),bo (by simpa using h3),bo (by omega)]
   ·rw [av (eh h2),if_neg (by omega)]
theorem Iy (f:Nat→Int) (n:Nat) (l:List Int) (hl:l.length=n):upd f n 0 l=(List.range n).map f:=by
 apply ci;intro j;rw [Bs,ct]
 by_cases hj:j<n
 ·rw [if_pos (by omega),ff hj]; rfl
 ·rw [if_neg (by omega),bo (by omega),bo (by simpa using hj)]; rfl
def Small (b:Int) (l:List Int):Prop:=∀x∈l,-b≤x∧x≤b
theorem Small.le {b:Int} {l:List Int} (h:Small b l) (hb:0≤b) (i:Nat):-b≤cf l i∧cf l i≤b:=by
 rw [Pe.cf,bc];cases hq:l[i]? with
 | none=>simp; omega
 | some x=>exact h x (df hq)
def lin (p:Int) (a b:List Int) (k:Int) (i:Nat):Int:=(cf a i+k*cf b i)%p
def a0y (p:Int) (a b:List Int) (k:Int):List Int:=trim ((List.range (max a.length b.length)).map (lin p a b k))
theorem gw {x y b c:Int} (hx:-b≤x∧x≤b) (hy:-c≤y∧y≤c) (_hb:0≤b):-(b*c)≤x*y∧x*y≤b*c:=by
 have hc:0≤c:=by omega
 have h1:0≤(b-x)*(c+y):=eg (by omega) (by omega)
 have h2:0≤(b+x)*(c-y):=eg (by omega) (by omega)
 have h3:0≤(b-x)*(c-y):=eg (by omega) (by omega)
 have h4:0≤(b+x)*(c+y):=eg (by omega) (by omega)
 have e1:(b-x)*(c+y)=b*c+b*y-x*c-x*y:=by simp only [Int.sub_mul,pe]; omega
 have e2:(b+x)*(c-y)=b*c-b*y+x*c-x*y:=by simp only [Int.add_mul,Int.mul_sub]; omega
 have e3:(b-x)*(c-y)=b*c-b*y-x*c+x*y:=by simp only [Int.sub_mul,Int.mul_sub]; omega
 have e4:(b+x)*(c+y)=b*c+b*y+x*c+x*y:=by simp only [Int.add_mul,pe]; omega
 constructor <;> omega
theorem G7 {O:ah} (hat:a0h O) (hred:ri O) {p k:Int} {a b:List Int} (hp:0<p∧p<1000000) (ha:Small 1000000 a) (hb:Small 1000000 b) (hk:-1000000≤k∧k≤1000000) {n:Nat} (hn:n<1000000) :
 ∀(m i:Nat) (cur:List Int),i+m=n→cur.length=n →
 dn O 0 (.loop Zs_L0) ⟨[(0,(.d (.int .i64 p))),(1,(.d (.sl .leaf (am .i64 a)))),(2,(.d (.sl .leaf (am .i64 b)))),(3,(.d (.int .i64 k))),(9,.sl 0 [] 0 n (some n)),(18,(.d (.int .i64 n))),(19,(.d (.int .i64 i)))],[.sl false .leaf (am .i64 cur)]⟩ =
  some (.exit 0,⟨[(0,(.d (.int .i64 p))),(1,(.d (.sl .leaf (am .i64 a)))),(2,(.d (.sl .leaf (am .i64 b)))),(3,(.d (.int .i64 k))),(9,.sl 0 [] 0 n (some n)),(18,(.d (.int .i64 n))),(19,(.d (.int .i64 n))),(20,(.d (.bool false)))],[.sl false .leaf (am .i64 (upd (lin p a b k) m i cur))]⟩)
 | 0,i,cur,hi,hc=>by
  have:i=n:=by omega
  subst this;exact bv (by simp -implicitDefEqProofs [Zs_L0,ao,upd])
 | m+1,i,cur,hi,hc=>by
  have h1:(i:Int)<(n:Int):=by omega
  have hin:i<n:=by omega
  have e1:=hat a i (by omega)
  have e2:=hat b i (by omega)
  have ga:=ha.le (by omega) i
  have gb:=hb.le (by omega) i
  have gm:=gw hk gb (by omega)
  have w1:IntKind.i64.wrap (k*cf b i)=k*cf b i:=w64 (by omega)
  have w2:IntKind.i64.wrap (cf a i+k*cf b i)=cf a i+k*cf b i:=w64 (by omega)
  have e3:=hred p (cf a i+k*cf b i) hp.1 hp.2 (by omega) (by omega)
  have w3:IntKind.i64.wrap ((i:Int)+1)=((i+1:Nat):Int):=by rw [w64 (by omega)]; omega
  have hcur:cur[i]? = some cur[i]:=ac (by omega)
  refine bq ?_ (G7 hat hred hp ha hb hk hn m (i+1) (cur.set i (lin p a b k i)) (by omega) (by simpa using hc))
  simp -implicitDefEqProofs [Zs_L0,ao,h1,hin,e1,e2,w1,w2,e3,w3,hcur,lin]
def wq (O:ah):Prop:=∀(p k:Int) (a b:List Int),0<p→p<1000000→Small 1000000 a→Small 1000000 b→-1000000≤k→k≤1000000→a.length<1000000→b.length<1000000 →
 ask O Fs [(D.int .i64 p),(D.sl .leaf (am .i64 a)),(D.sl .leaf (am .i64 b)),(D.int .i64 k)]=some ((D.sl .leaf (am .i64 (a0y p a b k))))
theorem Sr (hT:T Fs=some Zs) (hat:a0h (den T A)) (hred:ri (den T A)) (htr:pu (den T A)):wq (den T A):=by
 intro p k a b hp hp' ha hb hk hk' hla hlb;have hl:=G7 hat hred ⟨hp,hp'⟩ ha hb ⟨hk,hk'⟩ (n:=max a.length b.length) (by omega) (max a.length b.length) 0 (List.replicate (max a.length b.length) 0) (by omega) (by simp)
 rw [Iy _ _ _ (by simp)] at hl
 have e1:=htr ((List.range (max a.length b.length)).map (lin p a b k)) (by simp; omega)
 have emax:(if a.length<b.length then (b.length:Int) else (a.length:Int))=((max a.length b.length:Nat):Int):=by
  split <;> omega
 have h64:max a.length b.length*8≤1099511627776:=by omega
 refine bu hT rfl ?_;unfold a0y;generalize max a.length b.length=n at *;rw [show ((0:Nat):Int)=0 from rfl] at hl;have htk:((List.range n).map (lin p a b k)).take n=(List.range n).map (lin p a b k):=b5 (by simp)
 simp -implicitDefEqProofs [Zs,Zs_B,emax,h64,hl,e1,htk]
end Pe

namespace Pe
open Go
variable {T:Nat→Option Fn} {A:ah}
def qh (x:Int) (b:List Int) (i:Nat):Nat→Nat→List Int→List Int
 | 0,_,cur=>cur
 | m+1,k,cur=>qh x b i m (k+1) (cur.set (i+k) (cf cur (i+k)+x*cf b k))
theorem pr (x:Int) (b:List Int) (i:Nat):∀(m k:Nat) (cur:List Int),(qh x b i m k cur).length=cur.length
 | 0,_,_=>rfl
 | m+1,k,cur=>by rw [qh,pr]; simp
theorem s9 (l:List Int) (i:Nat) (x:Int) (j:Nat):cf (l.set i x) j=if j=i∧i<l.length then x else cf l j:=by
 unfold cf;rw [bc,bc,List.getElem?_set]
 by_cases h:i=j
 ·subst h
  by_cases h2:i<l.length
  ·simp [h2]
  ·simp [h2]
 ·rw [if_neg h,if_neg (by omega)]
theorem Eg (x:Int) (b:List Int) (i:Nat):∀(m k:Nat) (cur:List Int) (j:Nat),i+k+m≤cur.length→cf (qh x b i m k cur) j=cf cur j+if i+k≤j∧j<i+k+m then x*cf b (j-i) else 0
 | 0,k,cur,j,_=>by rw [qh,if_neg (by omega)]; omega
 | m+1,k,cur,j,h=>by
  rw [qh,Eg x b i m (k+1) _ j (by rw [br]; omega),s9]
  by_cases hj:j=i+k
  ·subst hj
   rw [if_pos ⟨rfl,by omega⟩,if_neg (by omega),if_pos (by omega),show i+k-i=k by omega]
   omega
  ·rw [if_neg (by omega)]
   by_cases h2:i+k+1≤j∧j<i+k+1+m
   ·rw [if_pos (by omega),if_pos (by omega)]
   ·rw [if_neg (by omega),if_neg (by omega)]
theorem Small.of_cf {B:Int} (_hB:0≤B) {l:List Int} (h:∀j,-B≤cf l j∧cf l j≤B):Small B l:=by
 intro x hx;obtain ⟨j,hj,rfl⟩:=gf hx;have:=h j
 rwa [e8 hj] at this
theorem Jl {O:ah} {p x:Int} {b:List Int} {i la nb:Nat} {a:List Int} (hx:-1000≤x∧x≤1000) (hb:Small 1000 b) (hi:i<10000) (hbl:b.length<10000) {n:Nat} (hn:i+b.length≤n) (hn':n<1000000) :
 ∀(m k:Nat) (cur:List Int),k+m=b.length→cur.length=n→(∀j,i+k≤j→-9000000000000≤cf cur j∧cf cur j≤9000000000000) →
 dn O 0 (.loop Z16_L0) ⟨[(0,(.d (.int .i64 p))),(2,(.d (.sl .leaf (am .i64 b)))),(7,.sl 0 [] 0 n (some n)),(8,(.d (.int .i64 i))),(9,(.d (.int .i64 x))),(29,(.d (.sl .leaf (am .i64 a)))),(30,(.d (.int .i64 la))),(31,(.d (.int .i64 nb))),(36,(.d (.sl .leaf (am .i64 b)))),(37,(.d (.int .i64 b.length))),(38,(.d (.int .i64 k)))],[.sl false .leaf (am .i64 cur)]⟩ =
  some (.exit 2,⟨[(0,(.d (.int .i64 p))),(2,(.d (.sl .leaf (am .i64 b)))),(7,.sl 0 [] 0 n (some n)),(8,(.d (.int .i64 i))),(9,(.d (.int .i64 x))),(29,(.d (.sl .leaf (am .i64 a)))),(30,(.d (.int .i64 la))),(31,(.d (.int .i64 nb))),(36,(.d (.sl .leaf (am .i64 b)))),(37,(.d (.int .i64 b.length))),(38,(.d (.int .i64 b.length))),(39,(.d (.bool false)))],[.sl false .leaf (am .i64 (qh x b i m k cur))]⟩)
 | 0,k,cur,hk,hc,hs=>by
  have:k=b.length:=by omega
  subst this;exact bv (by simp -implicitDefEqProofs [Z16_L0,ao,qh])
 | m+1,k,cur,hk,hc,hs=>by
  have h1:(k:Int)<(b.length:Int):=by omega
  have hkl:k<b.length:=by omega
  have hbk:b[k]=cf b k:=(e8 hkl).symm;have w1:IntKind.i64.wrap ((i:Int)+(k:Int))=((i+k:Nat):Int):=by rw [w64 (by omega)]; omega
  have hik:i+k<n:=by omega
  have t1:(0:Int)≤(i:Int)+(k:Int):=by omega
  have t2:((i:Int)+(k:Int)).toNat=i+k:=by omega
  have hikc:i+k<cur.length:=by omega
  have hck:cur[i+k]=cf cur (i+k):=(e8 hikc).symm;have gb:=hb.le (by omega) k
  have gc:=hs (i+k) (by omega)
  have gm:=gw hx gb (by omega)
  have w2:IntKind.i64.wrap (x*cf b k)=x*cf b k:=w64 (by omega)
  have w3:IntKind.i64.wrap (cf cur (i+k)+x*cf b k)=cf cur (i+k)+x*cf b k:=w64 (by omega)
  have w4:IntKind.i64.wrap ((k:Int)+1)=((k+1:Nat):Int):=by rw [w64 (by omega)]; omega
  refine bq ?_ (Jl hx hb hi hbl hn hn' m (k+1) (cur.set (i+k) (cf cur (i+k)+x*cf b k)) (by omega) (by simpa using hc) (fun j hj=>by rw [s9,if_neg (by omega)]; exact hs j (by omega)))
  simp -implicitDefEqProofs [Z16_L0,ao,hkl,hbk,w1,t1,t2,hik,hikc,hck,w2,w3,w4]
def uc (a b:List Int):Nat→Nat→List Int→List Int
 | 0,_,cur=>cur
 | m+1,i,cur=>uc a b m (i+1) (qh (cf a i) b i b.length 0 cur)
theorem zf (a b:List Int):∀(m i:Nat) (cur:List Int),(uc a b m i cur).length=cur.length
 | 0,_,_=>rfl
 | m+1,i,cur=>by rw [uc,zf,pr]
theorem Lc {x:Int} {b:List Int} {i:Nat} {cur:List Int} {M:Int} (hx:-1000≤x∧x≤1000) (hb:Small 1000 b) (hl:i+b.length≤cur.length) (h:∀j,-M≤cf cur j∧cf cur j≤M) (j:Nat) :
 -(M+1000000)≤cf (qh x b i b.length 0 cur) j∧cf (qh x b i b.length 0 cur) j≤M+1000000:=by
 rw [Eg _ _ _ _ _ _ _ (by omega)]
 have h1:=h j;have h2:=gw hx (hb.le (by omega) (j-i)) (by omega)
 split <;> omega
theorem W3 {O:ah} {p:Int} {a b:List Int} (ha:Small 1000 a) (hb:Small 1000 b) (hal:a.length<10000) (hbl:b.length<10000) (hb0:0<b.length) {n:Nat} (hn:n=a.length+b.length-1) :
 ∀(m i:Nat) (cur:List Int),i+m=a.length→cur.length=n→(∀j,-((i:Int)*1000000)≤cf cur j∧cf cur j≤(i:Int)*1000000) →
 dn O 0 (.loop Z16_L1) ⟨[(0,(.d (.int .i64 p))),(2,(.d (.sl .leaf (am .i64 b)))),(7,.sl 0 [] 0 n (some n)),(29,(.d (.sl .leaf (am .i64 a)))),(30,(.d (.int .i64 a.length))),(31,(.d (.int .i64 i)))],[.sl false .leaf (am .i64 cur)]⟩ =
  some (.exit 0,⟨[(0,(.d (.int .i64 p))),(2,(.d (.sl .leaf (am .i64 b)))),(7,.sl 0 [] 0 n (some n)),(29,(.d (.sl .leaf (am .i64 a)))),(30,(.d (.int .i64 a.length))),(31,(.d (.int .i64 a.length))),(32,(.d (.bool false)))],[.sl false .leaf (am .i64 (uc a b m i cur))]⟩):=by
 intro m
 induction m with
 | zero=>
  intro i cur hi hc hs;have:i=a.length:=by omega
  subst this;exact bv (by simp -implicitDefEqProofs [Z16_L1,ao,uc])
 | succ m ih=>
  intro i cur hi hc hs;have hil:i<a.length:=by omega
  have hai:a[i]=cf a i:=(e8 hil).symm;have gx:=ha.le (by omega) i
  have q1:i<10000:=by omega
  have q2:i+b.length≤n:=by omega
  have q3:n<1000000:=by omega
  have q4:∀j,i+0≤j→-9000000000000≤cf cur j∧cf cur j≤9000000000000:=fun j _=>by
   have h9:=hs j;omega
  have h0:=Jl (O:=O) (p:=p) (a:=a) (la:=a.length) (nb:=i) gx hb q1 hbl q2 q3 b.length 0 cur (bi _) hc q4;have e0:((0:Nat):Int)=0:=rfl;rw [e0] at h0;have w4:IntKind.i64.wrap ((i:Int)+1)=((i+1:Nat):Int):=(w64 (x:=(i:Int)+1) (by omega)).trans (by omega)
  have hnew:∀j,-(((i+1:Nat):Int)*1000000)≤cf (qh (cf a i) b i b.length 0 cur) j∧cf (qh (cf a i) b i b.length 0 cur) j≤((i+1:Nat):Int)*1000000:=by
   intro j;have:=Lc (x:=cf a i) (b:=b) (i:=i) (cur:=cur) gx hb (by omega) hs j
   omega
  refine bq ?_ (ih (i+1) (qh (cf a i) b i b.length 0 cur) (by omega) (by rw [pr]; exact hc) hnew)
  simp -implicitDefEqProofs [Z16_L1,ao,hil,hai,h0,w4]
theorem Jq {O:ah} {p:Int} {out:List Int} (hp:0<p) {n:Nat} (hn:n<1000000) (hout:out.length=n) (hpos:∀j,-9000000000000000≤cf out j∧cf out j≤9000000000000000) :
 ∀(m i:Nat) (cur:List Int),i+m=n→cur.length=n→(∀j,i≤j→cf cur j=cf out j) →
 dn O 0 (.loop Z16_L2) ⟨[(0,(.d (.int .i64 p))),(7,.sl 0 [] 0 n (some n)),(56,.sl 0 [] 0 n (some n)),(57,(.d (.int .i64 n))),(58,(.d (.int .i64 i)))],[.sl false .leaf (am .i64 cur)]⟩ =
  some (.exit 4,⟨[(0,(.d (.int .i64 p))),(7,.sl 0 [] 0 n (some n)),(56,.sl 0 [] 0 n (some n)),(57,(.d (.int .i64 n))),(58,(.d (.int .i64 n))),(59,(.d (.bool false)))],[.sl false .leaf (am .i64 (upd (fun j=>(cf out j).tmod p) m i cur))]⟩)
 | 0,i,cur,hi,hc,hs=>by
  have:i=n:=by omega
  subst this;exact bv (by simp -implicitDefEqProofs [Z16_L2,ao,upd])
 | m+1,i,cur,hi,hc,hs=>by
  have hp0:p≠0:=by omega
  have hin:i<n:=by omega
  have hic:i<cur.length:=by omega
  have hci:cur[i]=cf out i:=by rw [←e8 hic]; exact hs i (by omega)
  have w4:IntKind.i64.wrap ((i:Int)+1)=((i+1:Nat):Int):=by rw [w64 (by omega)]; omega
  refine bq ?_ (Jq hp hn hout hpos m (i+1) (cur.set i ((cf out i).tmod p)) (by omega) (by simpa using hc) (fun j hj=>by rw [s9,if_neg (by omega)]; exact hs j (by omega)))
  simp -implicitDefEqProofs [Z16_L2,ao,hin,hic,hci,hp0,w4]
def conv (a b:List Int):Nat→Nat→Int
 | 0,_=>0
 | m+1,j=>conv a b m j+if m≤j then cf a m*cf b (j-m) else 0
theorem Do (a b:List Int):∀(m i:Nat) (cur:List Int) (j:Nat),i+m=a.length→a.length+b.length≤cur.length+1→0<b.length→(cf cur j=conv a b i j)→(∀j',cf cur j'=conv a b i j')→cf (uc a b m i cur) j=conv a b (i+m) j
 | 0,i,cur,j,_,_,_,h,_=>h
 | m+1,i,cur,j,hi,hl,hb,h,hall=>by
  have step:∀j',cf (qh (cf a i) b i b.length 0 cur) j'=conv a b (i+1) j':=by
   intro j';rw [Eg _ _ _ _ _ _ _ (by omega),hall j',conv]
   by_cases h1:i+0≤j'∧j'<i+0+b.length
   ·rw [if_pos h1,if_pos (by omega)]
   ·rw [if_neg h1]
    by_cases h2:i≤j'
    ·rw [if_pos h2,m5 (l:=b) (by omega),Int.mul_zero]
    ·rw [if_neg h2]
  rw [uc,show i+(m+1)=(i+1)+m by omega]
  exact Do a b m (i+1) _ j (by omega) (by rw [pr]; exact hl) hb (step j) step
def Can (p:Int) (l:List Int):Prop:=∀x∈l,0≤x∧x<p
theorem Can.small {p:Int} {l:List Int} (h:Can p l) {b:Int} (hp:p≤b):Small b l:=fun x hx=>by have:=h x hx; omega
theorem Can.le {p:Int} {l:List Int} (h:Can p l) (hp:0<p) (i:Nat):0≤cf l i∧cf l i<p:=by
 by_cases hi:i<l.length
 ·rw [e8 hi]; exact h _ (bm hi)
 ·rw [m5 (by omega)]; omega
theorem v6 {p:Int} {a b:List Int} (hp:0<p) (ha:Can p a) (hb:Can p b):∀m j,0≤conv a b m j
 | 0,j=>by simp [conv]
 | m+1,j=>by
  have:=v6 hp ha hb m j;rw [conv]
  split
  ·have:=eg (ha.le hp m).1 (hb.le hp (j-m)).1
   omega
  ·omega
def mul (p:Int) (a b:List Int):List Int:=trim ((List.range (a.length+b.length-1)).map fun j=>conv a b a.length j%p)
theorem A9 {l:List Int}:∀n,(∀j,j<n→cf l j=0)→mw l n=0
 | 0,_=>rfl
 | n+1,h=>by
  rw [mw,if_pos (h n (by omega))]
  exact A9 n fun j hj=>h j (by omega)
theorem L6 (a:List Int):∀m j,conv a [] m j=0
 | 0,_=>rfl
 | m+1,j=>by rw [conv,L6 a m j,m5 (l:=[]) (by simp)]; simp
theorem km (f:Nat→Int) (n j:Nat) (hj:j<n):cf ((List.range n).map f) j=f j:=by
 rw [e8 (by simpa using hj)]; simp
theorem Ia (p:Int) (b:List Int):mul p [] b=[]:=by
 unfold mul trim;rw [A9,dy];intro j hj;rw [km _ _ _ (by simpa using hj)]
 simp [conv]
theorem Em (p:Int) (a:List Int):mul p a []=[]:=by
 unfold mul trim;rw [A9,dy];intro j hj;rw [km _ _ _ (by simpa using hj),L6]
 simp
def Hb (O:ah):Prop:=∀(p:Int) (a b:List Int),0<p→p<1000→Can p a→Can p b→a.length<10000→b.length<10000 →
 ask O F16 [(D.int .i64 p),(D.sl .leaf (am .i64 a)),(D.sl .leaf (am .i64 b))]=some ((D.sl .leaf (am .i64 (mul p a b))))
theorem a0z (hT:T F16=some Z16) (htr:pu (den T A)):Hb (den T A):=by
 intro p a b hp hp' ha hb hal hbl;refine bu hT rfl ?_
 by_cases h1:a=[]
 ·subst h1
  rw [Ia];simp -implicitDefEqProofs [Z16,Z16_B,ao,gd]
 ·by_cases h2:b=[]
  ·subst h2
   have hal0:a.length≠0:=by simpa using h1
   rw [Em];simp -implicitDefEqProofs [Z16,Z16_B,ao,gd,h1]
  ·have g1:0<a.length:=lm.2 h1
   have g2:0<b.length:=lm.2 h2
   have l1:=W3 (O:=den T A) (p:=p) (ha.small (b:=1000) (by omega)) (hb.small (b:=1000) (by omega)) hal hbl g2 rfl a.length 0 (List.replicate (a.length+b.length-1) 0) (bi _) (by simp) (fun j=>by
    have:cf (List.replicate (a.length+b.length-1) 0) j=0:=by
     by_cases hj:j<a.length+b.length-1
     ·rw [e8 (by simpa using hj)]; simp
     ·exact m5 (by simp; omega)
    rw [this]; simp)
   have hz:∀j,cf (List.replicate (a.length+b.length-1) (0:Int)) j=0:=fun j=>by
    by_cases hj:j<a.length+b.length-1
    ·rw [e8 (by simpa using hj)]; simp
    ·exact m5 (by simp; omega)
   have hrl:(uc a b a.length 0 (List.replicate (a.length+b.length-1) 0)).length=a.length+b.length-1:=by rw [zf]; simp
   have hrc:∀j,cf (uc a b a.length 0 (List.replicate (a.length+b.length-1) 0)) j=conv a b a.length j:=fun j=>by
    have:=Do a b a.length 0 (List.replicate (a.length+b.length-1) 0) j (bi _) (by simp; omega) g2 (by rw [hz]; rfl) (fun j'=>by rw [hz]; rfl)
    rwa [bi] at this
   have hcb:∀m j,conv a b m j≤(m:Int)*1000000:=by
    intro m
    induction m with
    | zero=>intro j; simp [conv]
    | succ m ih=>
     intro j;have h3:=ih j;have h4:=gw ((ha.small (b:=1000) (by omega)).le (by omega) m) ((hb.small (b:=1000) (by omega)).le (by omega) (j-m)) (by omega)
     rw [conv]
     split <;> omega
   have l2:=Jq (O:=den T A) (p:=p) (out:=uc a b a.length 0 (List.replicate (a.length+b.length-1) 0)) hp (n:=a.length+b.length-1) (by omega) hrl (fun j=>by
    rw [hrc];have h3:=v6 hp ha hb a.length j;have h4:=hcb a.length j;omega) (a.length+b.length-1) 0 (uc a b a.length 0 (List.replicate (a.length+b.length-1) 0)) (bi _) hrl (fun _ _=>rfl)
   rw [Iy _ _ _ hrl] at l2
   have hfun:(fun j=>(cf (uc a b a.length 0 (List.replicate (a.length+b.length-1) 0)) j).tmod p)=fun j=>conv a b a.length j%p:=by
    funext j
    rw [hrc,cd (v6 hp ha hb a.length j)]
   rw [hfun] at l2;have e0:((0:Nat):Int)=0:=rfl;rw [e0] at l1 l2;have e1:=htr ((List.range (a.length+b.length-1)).map fun j=>conv a b a.length j%p) (by simp; omega)
   have n1:a.length≠0:=by omega
   have n2:b.length≠0:=by omega
   have w1:IntKind.i64.wrap ((a.length:Int)+(b.length:Int))=(a.length:Int)+(b.length:Int):=w64 (by omega)
   have w2:IntKind.i64.wrap ((a.length:Int)+(b.length:Int)-1)=((a.length+b.length-1:Nat):Int):=(w64 (x:=(a.length:Int)+(b.length:Int)-1) (by omega)).trans (by omega)
   have h8:(a.length+b.length-1)*8≤1099511627776:=by omega
   unfold mul;generalize a.length+b.length-1=n at *;have htk:((List.range n).map fun j=>conv a b a.length j%p).take n=(List.range n).map fun j=>conv a b a.length j%p:=b5 (by simp)
   simp -implicitDefEqProofs [Z16,Z16_B,ao,h1,h2,w1,w2,h8,l1,l2,e1,htk]
end Pe

namespace Pe
open Go
variable {T:Nat→Option Fn} {A:ah}
def Ad (p n:Int):Nat→Int
 | 0=>1
 | m+1=>Ad p n m*n%p
def inv (p n:Int):Int:=Ad p n (p-2).toNat
theorem Qc {p n:Int} (hp:1<p):∀m,0≤Ad p n m∧Ad p n m<p
 | 0=>by simp [Ad]; omega
 | m+1=>⟨db _ (by omega),cl _ (by omega)⟩
theorem Gz {O:ah} {p n:Int} (hp:1<p) (hp':p<1000) (hn:0≤n∧n<p) {k:Nat} (hk:(k:Int)=p-2):∀(m i:Nat),i+m=k →
 dn O 0 (.loop Zx_L0) ⟨[(0,(.d (.int .i64 p))),(1,(.d (.int .i64 n))),(5,(.d (.int .i64 (Ad p n i)))),(7,(.d (.int .i64 k))),(8,(.d (.int .i64 i)))],[]⟩=some (.exit 0,⟨[(0,(.d (.int .i64 p))),(1,(.d (.int .i64 n))),(5,(.d (.int .i64 (Ad p n k)))),(7,(.d (.int .i64 k))),(8,(.d (.int .i64 k))),(9,(.d (.bool false)))],[]⟩)
 | 0,i,hi=>by
  have:i=k:=by omega
  subst this;exact bv (by simp -implicitDefEqProofs [Zx_L0,ao])
 | m+1,i,hi=>by
  have hik:i<k:=by omega
  have g:=Qc (n:=n) hp i;have hp0:p≠0:=by omega
  have gm:=gw (x:=Ad p n i) (y:=n) (b:=1000) (c:=1000) (by omega) (by omega) (by omega)
  have w1:IntKind.i64.wrap (Ad p n i*n)=Ad p n i*n:=w64 (by omega)
  have w2:(Ad p n i*n).tmod p=Ad p n (i+1):=cd (eg g.1 hn.1);have w4:IntKind.i64.wrap ((i:Int)+1)=((i+1:Nat):Int):=(w64 (x:=(i:Int)+1) (by omega)).trans (by omega)
  refine bq ?_ (Gz hp hp' hn hk m (i+1) (by omega))
  simp -implicitDefEqProofs [Zx_L0,ao,hik,hp0,w1,w2,w4]
def o7 (O:ah):Prop:=∀p n:Int,1<p→p<1000→0≤n→n<p→ask O Fx [(D.int .i64 p),(D.int .i64 n)]=some ((D.int .i64 (inv p n)))
theorem Ry (hT:T Fx=some Zx):o7 (den T A):=by
 intro p n hp hp' hn hn';have hk:(((p-2).toNat:Nat):Int)=p-2:=by omega
 have hl:=Gz (O:=den T A) hp hp' ⟨hn,hn'⟩ hk (p-2).toNat 0 (by omega)
 have w1:IntKind.i64.wrap (p-2)=(((p-2).toNat:Nat):Int):=(w64 (x:=p-2) (by omega)).trans (by omega)
 have e0:((0:Nat):Int)=0:=rfl;rw [e0] at hl;have e1:Ad p n 0=1:=rfl;rw [e1] at hl;refine bu hT rfl ?_;unfold inv;generalize (p-2).toNat=k at *;simp -implicitDefEqProofs [Zx,Zx_B,w1,hl]
def jy (O:ah):Prop:=∀l:List Int,l.length<1000000→ask O F1b [(D.sl .leaf (am .i64 l))]=some ((D.int .i64 ((l.length:Int)-1)))
theorem Vy (hT:T F1b=some Z1b):jy (den T A):=by
 intro l hl;have w1:IntKind.i64.wrap ((l.length:Int)-1)=(l.length:Int)-1:=w64 (by omega)
 refine bu hT rfl ?_;simp -implicitDefEqProofs [Z1b,Z1b_B,w1]
def Bh (l:List Int):Int:=cf l (l.length-1)
def v9 (O:ah):Prop:=∀l:List Int,l.length<1000000→ask O F1d [(D.sl .leaf (am .i64 l))]=some ((D.int .i64 (Bh l)))
theorem a4f (hT:T F1d=some Z1d):v9 (den T A):=by
 intro l hl;refine bu hT rfl ?_
 by_cases h:l=[]
 ·subst h
  simp -implicitDefEqProofs [Z1d,Z1d_B,ao,gd,Bh,cf]
 ·have h1:0<l.length:=lm.2 h
  have w1:IntKind.i64.wrap ((l.length:Int)-1)=((l.length-1:Nat):Int):=(w64 (x:=(l.length:Int)-1) (by omega)).trans (by omega)
  have h2:l.length-1<l.length:=by omega
  have h3:l[l.length-1]? = some (Bh l):=by
   rw [ac h2]; exact congrArg some (e8 h2).symm
  have h4:(l.length:Int)≠0:=by omega
  simp -implicitDefEqProofs [Z1d,Z1d_B,ao,h,w1,h3]
def Cm (O:ah):Prop:=∀n a b:Int,ask O F1i [(D.int .i64 n),(D.int .i64 a),(D.int .i64 b)]=some ((D.bool (decide (a≤n∧n≤b))))
theorem Uo (hT:T F1i=some Z1i):Cm (den T A):=by
 intro n a b;refine bu hT rfl ?_
 by_cases h:a≤n <;> simp -implicitDefEqProofs [Z1i,Z1i_B,h]
def isP (p:Int):Bool:=decide (p=2∨p=3∨p=5∨p=7)
def zy (O:ah):Prop:=∀p:Int,ask O Fm [(D.int .i64 p)]=some ((D.bool (isP p)))
theorem Tu (hT:T Fm=some Zm):zy (den T A):=by
 intro p;refine bu hT rfl ?_
 by_cases h2:p=2
 ·simp -implicitDefEqProofs [Zm,Zm_B,h2,isP]
 ·by_cases h3:p=3
  ·simp -implicitDefEqProofs [Zm,Zm_B,h3,isP]
  ·by_cases h5:p=5
   ·simp -implicitDefEqProofs [Zm,Zm_B,h5,isP]
   ·simp -implicitDefEqProofs [Zm,Zm_B,h2,h3,h5,isP]
def Hr (O:ah):Prop:=∀(p k:Int) (a:List Int),0<p→p<1000000→Small 1000000 a→-1000000≤k→k≤1000000→a.length<1000000 →
 ask O F14 [(D.int .i64 p),(D.sl .leaf (am .i64 a)),(D.int .i64 k)]=some ((D.sl .leaf (am .i64 (a0y p [] a k))))
theorem a0l (hT:T F14=some Z14) (hc:wq (den T A)):Hr (den T A):=by
 intro p k a hp hp' ha hk hk' hl;have e1:=hc p k [] a hp hp' (by intro x hx; simp at hx) ha hk hk' (by simp) hl
 rw [gd] at e1;refine bu hT rfl ?_;simp -implicitDefEqProofs [Z14,Z14_B,e1]
def yv (O:ah):Prop:=ask O Fo []=some ((D.sl .leaf (am .i64 ([0,1]))))
theorem V3 (hT:T Fo=some Zo):yv (den T A):=by
 refine bu hT rfl ?_;simp -implicitDefEqProofs [Zo,Zo_B,am,List.replicate]
end Pe

namespace Pe
open Go
variable {T:Nat→Option Fn} {A:ah}
def jp (p q:Int) (b:List Int) (i:Nat):Nat→Nat→List Int→List Int
 | 0,_,cur=>cur
 | m+1,k,cur=>jp p q b i m (k+1) (cur.set (i+k) ((cf cur (i+k)-q*cf b k)%p))
theorem jh (p q:Int) (b:List Int) (i:Nat):∀(m k:Nat) (cur:List Int),(jp p q b i m k cur).length=cur.length
 | 0,_,_=>rfl
 | m+1,k,cur=>by rw [jp,jh]; simp
theorem uy (p q:Int) (b:List Int) (i:Nat):∀(m k:Nat) (cur:List Int) (j:Nat),i+k+m≤cur.length→cf (jp p q b i m k cur) j=if i+k≤j∧j<i+k+m then (cf cur j-q*cf b (j-i))%p else cf cur j
 | 0,k,cur,j,_=>by rw [jp,if_neg (by omega)]
 | m+1,k,cur,j,h=>by
  rw [jp,uy p q b i m (k+1) _ j (by rw [br]; omega),s9]
  by_cases hj:j=i+k
  ·subst hj
   rw [if_neg (by omega),if_pos ⟨rfl,by omega⟩,if_pos (by omega),show i+k-i=k by omega]
  ·have e:(if j=i+k∧i+k<cur.length then (cf cur (i+k)-q*cf b k)%p else cf cur j)=cf cur j:=if_neg fun h=>hj h.1
   rw [e]
   by_cases h2:i+k+1≤j∧j<i+k+1+m
   ·rw [if_pos (by omega),if_pos (by omega)]
   ·rw [if_neg (by omega),if_neg (by omega)]
theorem Can.of_cf {p:Int} {l:List Int} (h:∀j,j<l.length→0≤cf l j∧cf l j<p):Can p l:=by
 intro x hx;obtain ⟨j,hj,rfl⟩:=gf hx;have:=h j hj
 rwa [e8 hj] at this
theorem Ak {p q:Int} {b:List Int} {i:Nat} (hp:0<p) {m k:Nat} {cur:List Int} (hl:i+k+m≤cur.length) (hc:Can p cur):Can p (jp p q b i m k cur):=by
 apply Can.of_cf;intro j hj;rw [uy _ _ _ _ _ _ _ _ hl]
 split
 ·exact ⟨db _ (by omega),cl _ hp⟩
 ·exact hc.le hp j
theorem T0 {O:ah} (hred:ri O) {p q by_:Int} {b quo:List Int} {i la nq:Nat} {cp:Option Nat} (hp:0<p) (hp':p<1000) (hq:0≤q∧q<p) (hb:Can p b) (hi:i<10000) (hbl:b.length<10000) (hn:i+b.length≤la) (hn':la<1000000) :
 ∀(m k:Nat) (cur:List Int),k+m=b.length→cur.length=la→Can p cur →
 dn O 0 (.loop Zt_L0) ⟨[(0,(.d (.int .i64 p))),(2,(.d (.sl .leaf (am .i64 b)))),(8,.sl 0 [] 0 la cp),(9,.sl 1 [] 0 nq (some nq)),(10,(.d (.int .i64 by_))),(11,(.d (.int .i64 i))),(12,(.d (.int .i64 q))),(57,(.d (.sl .leaf (am .i64 b)))),(58,(.d (.int .i64 b.length))),(59,(.d (.int .i64 k)))],[.sl false .leaf (am .i64 cur),.sl false .leaf (am .i64 quo)]⟩ =
  some (.exit 2,⟨[(0,(.d (.int .i64 p))),(2,(.d (.sl .leaf (am .i64 b)))),(8,.sl 0 [] 0 la cp),(9,.sl 1 [] 0 nq (some nq)),(10,(.d (.int .i64 by_))),(11,(.d (.int .i64 i))),(12,(.d (.int .i64 q))),(57,(.d (.sl .leaf (am .i64 b)))),(58,(.d (.int .i64 b.length))),(59,(.d (.int .i64 b.length))),(60,(.d (.bool false)))],[.sl false .leaf (am .i64 (jp p q b i m k cur)),.sl false .leaf (am .i64 quo)]⟩):=by
 intro m
 induction m with
 | zero=>
  intro k cur hk hc hcan;have:k=b.length:=by omega
  subst this;exact bv (by simp -implicitDefEqProofs [Zt_L0,ao,jp])
 | succ m ih=>
  intro k cur hk hc hcan;have hkl:k<b.length:=by omega
  have hbk:b[k]=cf b k:=(e8 hkl).symm;have hik:i+k<la:=by omega
  have hikc:i+k<cur.length:=by omega
  have hck:cur[i+k]=cf cur (i+k):=(e8 hikc).symm;have t1:(0:Int)≤(i:Int)+(k:Int):=by omega
  have t2:((i:Int)+(k:Int)).toNat=i+k:=by omega
  have w1:IntKind.i64.wrap ((i:Int)+(k:Int))=((i+k:Nat):Int):=(w64 (x:=(i:Int)+(k:Int)) (by omega)).trans (by omega)
  have gb:=hb.le hp k;have gc:=hcan.le hp (i+k);have gm:=gw (x:=q) (y:=cf b k) (b:=1000) (c:=1000) (by omega) (by omega) (by omega)
  have w2:IntKind.i64.wrap (q*cf b k)=q*cf b k:=w64 (by omega)
  have w3:IntKind.i64.wrap (cf cur (i+k)-q*cf b k)=cf cur (i+k)-q*cf b k:=w64 (by omega)
  have w4:IntKind.i64.wrap ((k:Int)+1)=((k+1:Nat):Int):=(w64 (x:=(k:Int)+1) (by omega)).trans (by omega)
  have e3:=hred p (cf cur (i+k)-q*cf b k) hp (by omega) (by omega) (by omega)
  have hcan':Can p (cur.set (i+k) ((cf cur (i+k)-q*cf b k)%p)):=by
   intro x hx;rcases dd hx with h | h
   ·exact hcan x h
   ·subst h; exact ⟨db _ (by omega),cl _ hp⟩
  refine bq ?_ (ih (k+1) (cur.set (i+k) ((cf cur (i+k)-q*cf b k)%p)) (by omega) (by simpa using hc) hcan')
  simp -implicitDefEqProofs [Zt_L0,ao,hkl,hbk,w1,t1,t2,hik,hikc,hck,w2,w3,w4,e3]
def dv (p by_:Int) (b:List Int):Nat→List Int×List Int→List Int×List Int
 | 0,r=>r
 | c+1,(cur,quo)=>
  let q:=cf cur (c+b.length-1)*by_%p
  dv p by_ b c (jp p q b c b.length 0 cur,quo.set c q)
theorem Tz {O:ah} (hred:ri O) {p by_:Int} {b:List Int} {la nq:Nat} {cp:Option Nat} (hp:0<p) (hp':p<1000) (hby:0≤by_∧by_<p) (hb:Can p b) (hb0:0<b.length) (hn:nq+b.length=la+1) (hn':la<10000) :
 ∀(c:Nat) (cur quo:List Int),c≤nq→cur.length=la→quo.length=nq→Can p cur →
 dn O 0 (.loop Zt_L1) ⟨[(0,(.d (.int .i64 p))),(2,(.d (.sl .leaf (am .i64 b)))),(8,.sl 0 [] 0 la cp),(9,.sl 1 [] 0 nq (some nq)),(10,(.d (.int .i64 by_))),(11,(.d (.int .i64 ((c:Int)-1))))],[.sl false .leaf (am .i64 cur),.sl false .leaf (am .i64 quo)]⟩ =
  some (.exit 0,⟨[(0,(.d (.int .i64 p))),(2,(.d (.sl .leaf (am .i64 b)))),(8,.sl 0 [] 0 la cp),(9,.sl 1 [] 0 nq (some nq)),(10,(.d (.int .i64 by_))),(11,(.d (.int .i64 (-1)))),(38,(.d (.bool false)))],[.sl false .leaf (am .i64 (dv p by_ b c (cur,quo)).1),.sl false .leaf (am .i64 (dv p by_ b c (cur,quo)).2)]⟩):=by
 intro c
 induction c with
 | zero=>
  intro cur quo hc h1 h2 hcan;exact bv (by simp -implicitDefEqProofs [Zt_L1,ao,dv])
 | succ c ih=>
  intro cur quo hc h1 h2 hcan;have hp0:p≠0:=by omega
  have t0:(((c+1:Nat):Int)-1)=(c:Int):=by omega
  rw [t0];have hil:c+b.length-1<cur.length:=by omega
  have hil2:c+b.length-1<la:=by omega
  have hci:cur[c+b.length-1]=cf cur (c+b.length-1):=(e8 hil).symm;have gc:=hcan.le hp (c+b.length-1);have w1:IntKind.i64.wrap ((c:Int)+(b.length:Int))=(c:Int)+(b.length:Int):=w64 (by omega)
  have w2:IntKind.i64.wrap ((c:Int)+(b.length:Int)-1)=((c+b.length-1:Nat):Int):=(w64 (x:=(c:Int)+(b.length:Int)-1) (by omega)).trans (by omega)
  have gm:=gw (x:=cf cur (c+b.length-1)) (y:=by_) (b:=1000) (c:=1000) (by omega) (by omega) (by omega)
  have w3:IntKind.i64.wrap (cf cur (c+b.length-1)*by_)=cf cur (c+b.length-1)*by_:=w64 (by omega)
  have w4:(cf cur (c+b.length-1)*by_).tmod p=cf cur (c+b.length-1)*by_%p:=cd (eg gc.1 hby.1);have w5:IntKind.i64.wrap ((c:Int)-1)=(c:Int)-1:=w64 (by omega)
  have hcq:c<quo.length:=by omega
  have hcn:c<nq:=by omega
  have hq:0≤cf cur (c+b.length-1)*by_%p∧cf cur (c+b.length-1)*by_%p<p:=⟨db _ hp0,cl _ hp⟩;have l0:=T0 (by_:=by_) (quo:=quo.set c (cf cur (c+b.length-1)*by_%p)) (nq:=nq) (cp:=cp) hred hp hp' hq hb (i:=c) (by omega) (by omega) (la:=la) (by omega) (by omega) b.length 0 cur (bi _) h1 hcan
  have e0:((0:Nat):Int)=0:=rfl;rw [e0] at l0;have ih':=ih (jp p (cf cur (c+b.length-1)*by_%p) b c b.length 0 cur) (quo.set c (cf cur (c+b.length-1)*by_%p)) (by omega) (by rw [jh]; exact h1) (by simpa using h2) (Ak hp (by omega) hcan)
  refine bq ?_ ih';simp -implicitDefEqProofs [Zt_L1,ao,hp0,w1,w2,hil,hil2,hci,w3,w4,w5,hcq,hcn,l0]
end Pe

namespace Gq
class CR (α:Type) extends Zero α,One α,Add α,Mul α,Neg α,Sub α where
 add_zero:∀a:α,a+0=a
 add_comm:∀a b:α,a+b=b+a
 add_assoc:∀a b c:α,a+b+c=a+(b+c)
 mul_one:∀a:α,a*1=a
 mul_comm:∀a b:α,a*b=b*a
 mul_assoc:∀a b c:α,a*b*c=a*(b*c)
 mul_add:∀a b c:α,a*(b+c)=a*b+a*c
 add_neg:∀a:α,a + -a=0
 sub_eq:∀a b:α,a-b=a + -b
section
variable {α:Type} [CR α]
theorem add_zero (a:α):a+0=a:=CR.add_zero a
theorem add_comm (a b:α):a+b=b+a:=CR.add_comm a b
theorem add_assoc (a b c:α):a+b+c=a+(b+c):=CR.add_assoc a b c
theorem mul_one (a:α):a*1=a:=CR.mul_one a
theorem mul_comm (a b:α):a*b=b*a:=CR.mul_comm a b
theorem mul_assoc (a b c:α):a*b*c=a*(b*c):=CR.mul_assoc a b c
theorem mul_add (a b c:α):a*(b+c)=a*b+a*c:=CR.mul_add a b c
theorem add_neg (a:α):a + -a=0:=CR.add_neg a
theorem sub_eq (a b:α):a-b=a + -b:=CR.sub_eq a b
end
instance:CR Int where
 add_zero:=Int.add_zero
 add_comm:=Int.add_comm
 add_assoc:=Int.add_assoc
 mul_one:=mu
 mul_comm:=gt
 mul_assoc:=sd
 mul_add:=pe
 add_neg:=Int.add_right_neg
 sub_eq:=fun _ _=>Int.sub_eq_add_neg
section
variable {α:Type} [CR α]
def pw (a:α):Nat→α
 | 0=>1
 | n+1=>pw a n*a
instance (priority:=100):HPow α Nat α:=⟨pw⟩
theorem pow_zero (a:α):a^0=1:=rfl
theorem pow_succ (a:α) (n:Nat):a^(n+1)=a^n*a:=rfl
theorem zero_add (a:α):0+a=a:=by rw [add_comm,add_zero]
theorem Qf (a:α):-a+a=0:=by rw [add_comm,add_neg]
theorem one_mul (a:α):1*a=a:=by rw [mul_comm,mul_one]
theorem add_mul (a b c:α):(a+b)*c=a*c+b*c:=by rw [mul_comm,mul_add,mul_comm c,mul_comm c]
theorem oq (a b c:α):a+(b+c)=b+(a+c):=by rw [←add_assoc,add_comm a,add_assoc]
theorem mul_left_comm (a b c:α):a*(b*c)=b*(a*c):=by rw [←mul_assoc,mul_comm a,mul_assoc]
theorem Dn {a b c:α} (h:a+b=a+c):b=c:=by
 have:-a+(a+b)=-a+(a+c):=by rw [h]
 rwa [←add_assoc,←add_assoc,Qf,zero_add,zero_add] at this
theorem mul_zero (a:α):a*0=0:=by
 apply Dn (a:=a*0);rw [←mul_add,add_zero,add_zero]
theorem zero_mul (a:α):0*a=0:=by rw [mul_comm,mul_zero]
theorem Aa {a b:α} (h:a+b=0):b=-a:=Dn (a:=a) (by rw [h,add_neg])
theorem wd (a b:α):-a*b=-(a*b):=Aa (by rw [←add_mul,add_neg,zero_mul])
theorem Yx (a:α):- -a=a:=(Aa (Qf a)).symm
theorem qv:-(0:α)=0:=(Aa (add_zero 0)).symm
theorem um (a b:α):-(a+b)=-a + -b:=by
 apply (Aa _).symm;rw [add_assoc,oq b,←add_assoc,add_neg,zero_add,add_neg]
def nc:Nat→α
 | 0=>0
 | n+1=>nc n+1
theorem yj (m n:Nat):nc (m+n)=(nc m+nc n:α):=by
 induction n with
 | zero=>exact (add_zero _).symm
 | succ n ih=>rw [←fa,nc,nc,ih,add_assoc]
theorem J6 (m n:Nat):nc (m*n)=(nc m*nc n:α):=by
 induction n with
 | zero=>exact (mul_zero _).symm
 | succ n ih=>rw [Nat.mul_succ,yj,nc,ih,mul_add,mul_one]
def ic:Int→α
 | .ofNat n=>nc n
 | .negSucc n=>-nc (n+1)
theorem Ha:ic 0=(0:α):=rfl
theorem Pz:ic 1=(1:α):=zero_add 1
theorem zz (m n:Nat):ic ((m:Int)-n)=(nc m + -nc n:α):=by
 by_cases h:n≤m
 ·obtain ⟨k,rfl⟩:=f8 h
  have:((n+k:Nat):Int)-n=(k:Nat):=by omega
  rw [this];show nc k=_;rw [yj,add_comm (nc n),add_assoc,add_neg,add_zero]
 ·obtain ⟨k,rfl⟩:=f8 (show m+1≤n by omega)
  have:(m:Int)-((m+1+k:Nat):Int)=Int.negSucc k:=by omega
  rw [this];show -nc (k+1)=_;rw [show m+1+k=m+(k+1) by omega,yj m,um,←add_assoc,add_neg,zero_add]
theorem C5 (j:Int):∃m n:Nat,j=(m:Int)-n:=by
 cases j with
 | ofNat m=>exact ⟨m,0,by simp⟩
 | negSucc n=>exact ⟨0,n+1,by omega⟩
theorem Oa (j k:Int):ic (j+k)=(ic j+ic k:α):=by
 obtain ⟨a,b,rfl⟩:=C5 j;obtain ⟨c,d,rfl⟩:=C5 k;rw [show ((a:Int)-b)+((c:Int)-d)=((a+c:Nat):Int)-((b+d:Nat):Int) by omega,zz,zz,zz,yj,yj,um,add_assoc,add_assoc,oq (nc c)]
theorem a47 (j:Int):ic (-j)=(-ic j:α):=Aa (by rw [←Oa,Int.add_right_neg]; rfl)
theorem a3x (j k:Int):ic (j*k)=(ic j*ic k:α):=by
 obtain ⟨a,b,rfl⟩:=C5 j;obtain ⟨c,d,rfl⟩:=C5 k
 have e:((a:Int)-b)*((c:Int)-d)=((a*c+b*d:Nat):Int)-((a*d+b*c:Nat):Int):=by
  simp only [Int.sub_mul,Int.mul_sub,Int.natCast_add,Int.natCast_mul]; omega
 rw [e,zz,zz,zz,yj,yj,J6,J6,J6,J6,add_mul,mul_add,mul_add,wd,wd,mul_comm (nc a) (-nc d),wd,mul_comm (nc b) (-nc d),wd,Yx,um,mul_comm (nc d) (nc a),mul_comm (nc d) (nc b)];simp only [add_assoc,oq,add_comm]
inductive RE where
 | zero | one
 | i (k:Int)
 | v (n:Nat)
 | add (a b:RE) | mul (a b:RE) | sub (a b:RE)
 | neg (a:RE)
 | pow (a:RE) (n:Nat)
def RE.ev (env:List α):RE→α
 | .zero=>0
 | .one=>1
 | .i k=>ic k
 | .v n=>(env[n]?).getD 0
 | .add a b=>a.ev env+b.ev env
 | .mul a b=>a.ev env*b.ev env
 | .sub a b=>a.ev env-b.ev env
 | .neg a=>-a.ev env
 | .pow a n=>pw (a.ev env) n
abbrev Mon:=List Nat
def Yw (n:Nat):Mon→Mon
 | []=>[n]
 | m::r=>if Nat.ble n m then n::m::r else m::Yw n r
def a19:Mon→Mon→Mon
 | [],b=>b
 | n::a,b=>Yw n (a19 a b)
def ltM:Mon→Mon→Bool
 | [],[]=>false
 | [],_::_=>true
 | _::_,[]=>false
 | a::r,b::s=>if Nat.beq a b then ltM r s else Nat.blt a b
def eqM:Mon→Mon→Bool
 | [],[]=>true
 | a::r,b::s=>Nat.beq a b&&eqM r s
 | _,_=>false
abbrev Pl:=List (Mon×Int)
def Nm (m:Mon) (k:Int):Pl→Pl
 | []=>if k=0 then [] else [(m,k)]
 | (m',k')::r=>if eqM m m' then (if k+k'=0 then r else (m,k+k')::r) else if ltM m m' then (if k=0 then (m',k')::r else (m,k)::(m',k')::r) else (m',k')::Nm m k r
def Sx:Pl→Pl→Pl
 | [],b=>b
 | (m,k)::a,b=>Nm m k (Sx a b)
def Ni (m:Mon) (k:Int):Pl→Pl
 | []=>[]
 | (m',k')::r=>Nm (a19 m m') (k*k') (Ni m k r)
def Vg:Pl→Pl→Pl
 | [],_=>[]
 | (m,k)::a,b=>Sx (Ni m k b) (Vg a b)
def a13 (a:Pl):Nat→Pl
 | 0=>[([],1)]
 | n+1=>Vg (a13 a n) a
def RE.nf:RE→Pl
 | .zero=>[]
 | .one=>[([],1)]
 | .i k=>Nm [] k []
 | .v n=>[([n],1)]
 | .add a b=>Sx a.nf b.nf
 | .mul a b=>Vg a.nf b.nf
 | .sub a b=>Sx a.nf (Ni [] (-1) b.nf)
 | .neg a=>Ni [] (-1) a.nf
 | .pow a n=>a13 a.nf n
def eqP:Pl→Pl→Bool
 | [],[]=>true
 | (m,k)::a,(m',k')::b=>eqM m m'&&decide (k=k')&&eqP a b
 | _,_=>false
def evM (env:List α):Mon→α
 | []=>1
 | n::m=>(env[n]?).getD 0*evM env m
def evP (env:List α):Pl→α
 | []=>0
 | (m,k)::r=>ic k*evM env m+evP env r
theorem Np:∀{a b:Mon},eqM a b=true→a=b
 | [],[],_=>rfl
 | x::a,y::b,h=>by
  simp only [eqM,af] at h;rw [Nat.eq_of_beq_eq_true h.1,Np h.2]
theorem Xf:∀{a b:Pl},eqP a b=true→a=b
 | [],[],_=>rfl
 | (m,k)::a,(m',k')::b,h=>by
  simp only [eqP,af,decide_eq_true_eq] at h;rw [Np h.1.1,h.1.2,Xf h.2]
theorem Qo (env:List α) (n:Nat):∀m,evM env (Yw n m)=(env[n]?).getD 0*evM env m
 | []=>rfl
 | m::r=>by
  unfold Yw
  split
  ·rfl
  ·rw [evM,evM,Qo env n r,mul_left_comm]
theorem Qz (env:List α):∀a b,evM env (a19 a b)=evM env a*evM env b
 | [],b=>(one_mul _).symm
 | n::a,b=>by rw [a19,Qo,Qz env a b,evM,mul_assoc]
theorem Cf (env:List α) (m:Mon) (k:Int):∀r,evP env (Nm m k r)=ic k*evM env m+evP env r
 | []=>by
  unfold Nm
  split
  ·rename_i h; rw [h,Ha,zero_mul,zero_add]
  ·rfl
 | (m',k')::r=>by
  unfold Nm
  split
  ·rename_i h
   obtain rfl:=Np h
   split
   ·rename_i h2
    rw [evP,←add_assoc,←add_mul,←Oa,h2,Ha,zero_mul,zero_add]
   ·rw [evP,evP,Oa,add_mul,add_assoc]
  ·split
   ·split
    ·rename_i h; rw [h,Ha,zero_mul,zero_add]
    ·rfl
   ·rw [evP,Cf env m k r,evP,oq]
theorem C0 (env:List α):∀a b,evP env (Sx a b)=evP env a+evP env b
 | [],b=>(zero_add _).symm
 | (m,k)::a,b=>by rw [Sx,Cf,C0 env a b,evP,add_assoc]
theorem H5 (env:List α) (m:Mon) (k:Int):∀r,evP env (Ni m k r)=ic k*evM env m*evP env r
 | []=>(mul_zero _).symm
 | (m',k')::r=>by
  rw [Ni,Cf,H5 env m k r,evP,mul_add,Qz,a3x,mul_assoc,mul_assoc,mul_left_comm (ic k')];simp only [mul_assoc]
theorem Ht (env:List α):∀a b,evP env (Vg a b)=evP env a*evP env b
 | [],b=>(zero_mul _).symm
 | (m,k)::a,b=>by rw [Vg,C0,H5,Ht env a b,evP,add_mul]
theorem Uh (env:List α):evP env [([],1)]=1:=by simp only [evP,evM,Pz,mul_one,add_zero]
theorem Rq (env:List α) (a:Pl):∀n,evP env (a13 a n)=pw (evP env a) n
 | 0=>Uh env
 | n+1=>by rw [a13,Ht,Rq env a n]; rfl
theorem a0a (a b:α):a * -b=-(a*b):=by rw [mul_comm,wd,mul_comm]
theorem Wy (env:List α) (a:Pl):evP env (Ni [] (-1) a)=-evP env a:=by
 rw [H5,evM,mul_one,a47,Pz,wd,one_mul]
theorem xj (env:List α):∀e:RE,evP env e.nf=e.ev env
 | .zero=>rfl
 | .one=>Uh env
 | .i k=>by rw [RE.nf,Cf,evM,mul_one,evP,add_zero]; rfl
 | .v n=>by simp only [RE.nf,evP,evM,Pz,one_mul,mul_one,add_zero]; rfl
 | .add a b=>by rw [RE.nf,C0,xj env a,xj env b]; rfl
 | .mul a b=>by rw [RE.nf,Ht,xj env a,xj env b]; rfl
 | .sub a b=>by rw [RE.nf,C0,Wy,xj env a,xj env b,←sub_eq]; rfl
 | .neg a=>by rw [RE.nf,Wy,xj env a]; rfl
 | .pow a n=>by rw [RE.nf,Rq,xj env a]; rfl
class Ix {α:Type} (env:List α) (x:α) (n:outParam Nat):Prop where
 h:env[n]? = some x
instance (priority:=1000) {l:List α} {x:α}:Ix (x::l) x 0:=⟨rfl⟩
instance (priority:=500) {l:List α} {x y:α} {n:Nat} [h:Ix l x n]:Ix (y::l) x (n+1):=⟨by simpa using h.h⟩
class Rf (env:List α) (x:α) (e:outParam RE):Prop where
 h:e.ev env=x
variable {env:List α} {x y:α} {a b:RE}
instance:Rf env (0:α) .zero:=⟨rfl⟩
instance:Rf env (1:α) .one:=⟨rfl⟩
instance {k:Int}:Rf env (ic k:α) (.i k):=⟨rfl⟩
instance [h:Rf env x a] [h':Rf env y b]:Rf env (x+y) (.add a b):=⟨by rw [RE.ev,h.h,h'.h]⟩
instance [h:Rf env x a] [h':Rf env y b]:Rf env (x*y) (.mul a b):=⟨by rw [RE.ev,h.h,h'.h]⟩
instance [h:Rf env x a] [h':Rf env y b]:Rf env (x-y) (.sub a b):=⟨by rw [RE.ev,h.h,h'.h]⟩
instance [h:Rf env x a]:Rf env (-x) (.neg a):=⟨by rw [RE.ev,h.h]⟩
instance {n:Nat} [h:Rf env x a]:Rf env (x^n) (.pow a n):=⟨by rw [RE.ev,h.h]; rfl⟩
instance (priority:=10) {n:Nat} [h:Ix env x n]:Rf env x (.v n):=⟨by rw [RE.ev,h.h]; rfl⟩
theorem bf (env:List α) {x y:α} {a b:RE} [h:Rf env x a] [h':Rf env y b] (e:eqP a.nf b.nf=true):x=y:=by
 rw [←h.h,←h'.h,←xj,←xj,Xf e]
end
end Gq

namespace Gq
section
variable {R:Type} [CR R]
def a49 (m:R):Setoid R where
 r a b:=∃c,a=b+m*c
 iseqv:={
  refl:=fun a=>⟨0,by rw [mul_zero,add_zero]⟩
  symm:=fun {a b} ⟨c,h⟩=>⟨-c,by rw [h]; exact bf [b,m,c] rfl⟩
  trans:=fun {a b c} ⟨u,h⟩ ⟨v,h'⟩=>⟨u+v,by rw [h,h']; exact bf [c,m,u,v] rfl⟩ }
def Quo (m:R):Type:=Quotient (a49 m)
variable {m:R}
def Quo.mk (m:R) (a:R):Quo m:=Quotient.mk (a49 m) a
theorem Quo.eq {a b:R}:Quo.mk m a=Quo.mk m b↔∃c,a=b+m*c:=⟨fun h=>Quotient.exact h,fun h=>Quotient.sound h⟩
theorem Quo.ind {P:Quo m→Prop} (h:∀a,P (Quo.mk m a)) (x:Quo m):P x:=Quotient.ind h x
instance:Zero (Quo m):=⟨Quo.mk m 0⟩
instance:One (Quo m):=⟨Quo.mk m 1⟩
instance:Add (Quo m):=⟨Quotient.lift₂ (fun a b=>Quo.mk m (a+b)) (fun a b a' b' ⟨c,h⟩ ⟨d,h'⟩=>Quo.eq.2 ⟨c+d,by rw [h,h']; exact bf [a',b',c,d,m] rfl⟩)⟩
instance:Mul (Quo m):=⟨Quotient.lift₂ (fun a b=>Quo.mk m (a*b)) (fun a b a' b' ⟨c,h⟩ ⟨d,h'⟩=>Quo.eq.2 ⟨c*b'+a'*d+m*c*d,by rw [h,h']; exact bf [a',b',c,d,m] rfl⟩)⟩
instance:Neg (Quo m):=⟨Quotient.lift (fun a=>Quo.mk m (-a)) (fun a a' ⟨c,h⟩=>Quo.eq.2 ⟨-c,by rw [h]; exact bf [a',c,m] rfl⟩)⟩
instance:Sub (Quo m):=⟨fun a b=>a + -b⟩
theorem Quo.mk_add (a b:R):Quo.mk m (a+b)=Quo.mk m a+Quo.mk m b:=rfl
theorem Quo.mk_mul (a b:R):Quo.mk m (a*b)=Quo.mk m a*Quo.mk m b:=rfl
theorem Quo.mk_neg (a:R):Quo.mk m (-a)=-Quo.mk m a:=rfl
theorem Quo.mk_zero:Quo.mk m 0=0:=rfl
theorem Quo.mk_one:Quo.mk m 1=1:=rfl
instance:CR (Quo m) where
 add_zero:=Quo.ind fun a=>congrArg (Quo.mk m) (add_zero a)
 add_comm:=Quo.ind fun a=>Quo.ind fun b=>congrArg (Quo.mk m) (add_comm a b)
 add_assoc:=Quo.ind fun a=>Quo.ind fun b=>Quo.ind fun c=>congrArg (Quo.mk m) (add_assoc a b c)
 mul_one:=Quo.ind fun a=>congrArg (Quo.mk m) (mul_one a)
 mul_comm:=Quo.ind fun a=>Quo.ind fun b=>congrArg (Quo.mk m) (mul_comm a b)
 mul_assoc:=Quo.ind fun a=>Quo.ind fun b=>Quo.ind fun c=>congrArg (Quo.mk m) (mul_assoc a b c)
 mul_add:=Quo.ind fun a=>Quo.ind fun b=>Quo.ind fun c=>congrArg (Quo.mk m) (mul_add a b c)
 add_neg:=Quo.ind fun a=>congrArg (Quo.mk m) (add_neg a)
 sub_eq:=fun _ _=>rfl
theorem Quo.mk_sub (a b:R):Quo.mk m (a-b)=Quo.mk m a-Quo.mk m b:=by rw [sub_eq,mk_add,mk_neg,←sub_eq]
theorem Quo.mk_pow (a:R):∀n,Quo.mk m (pw a n)=pw (Quo.mk m a) n
 | 0=>rfl
 | n+1=>by rw [pw,pw,mk_mul,mk_pow a n]
end
theorem sub_self {α:Type} [CR α] (a:α):a-a=0:=by rw [sub_eq,add_neg]
theorem o4 {α:Type} [CR α] {a b:α} (h:a-b=0):a=b:=by
 have:a=(a-b)+b:=bf [a,b] rfl;rw [this,h,zero_add]
class Fd (K:Type) extends CR K where
 one_ne:(1:K)≠0
 inv:K→K
 mul_inv:∀a:K,a≠0→a*inv a=1
theorem Fd.mul_ne {K:Type} [Fd K] {a b:K} (ha:a≠0) (hb:b≠0):a*b≠0:=fun h=>by
 have:(inv a*inv b)*(a*b)=1:=by
  rw [show (inv a*inv b)*(a*b)=(a*inv a)*(b*inv b) from bf [a,b,inv a,inv b] rfl,Fd.mul_inv a ha,Fd.mul_inv b hb,mul_one]
 rw [h,mul_zero] at this;exact Fd.one_ne this.symm
theorem Fd.zero_or {K:Type} [Fd K] {a b:K} (h:a*b=0):a=0∨b=0:=by
 by_cases ha:a=0
 ·exact .inl ha
 ·by_cases hb:b=0
  ·exact .inr hb
  ·exact absurd h (Fd.mul_ne ha hb)
theorem Fd.inv_ne {K:Type} [Fd K] {a:K} (ha:a≠0):inv a≠0:=fun h=>by
 have:=Fd.mul_inv a ha;rw [h,mul_zero] at this;exact Fd.one_ne this.symm
class IsP (p:Int):Prop where
 h:p=2∨p=3∨p=5∨p=7
theorem IsP.pos {p:Int} [h:IsP p]:0<p:=by have:=h.h; omega
theorem IsP.le {p:Int} [h:IsP p]:p≤7:=by have:=h.h; omega
theorem IsP.ge {p:Int} [h:IsP p]:2≤p:=by have:=h.h; omega
abbrev Zp (p:Int):Type:=Quo p
abbrev zp (p:Int) (n:Int):Zp p:=Quo.mk p n
theorem Eb {p a b:Int}:zp p a=zp p b↔a%p=b%p:=by
 rw [Quo.eq];constructor
 ·rintro ⟨c,rfl⟩
  rw [kg]
 ·intro h
  obtain ⟨c,hc⟩:=Int.dvd_of_emod_eq_zero (Int.emod_eq_emod_iff_emod_sub_eq_zero.1 h);exact ⟨c,by omega⟩
theorem te (p a:Int):zp p (a%p)=zp p a:=Eb.2 (ig _ (Int.dvd_refl p))
theorem Ns (p a b:Int):zp p (a+b)=zp p a+zp p b:=rfl
theorem xt (p a b:Int):zp p (a*b)=zp p a*zp p b:=rfl
theorem Hl (p a:Int):zp p (-a)=-zp p a:=rfl
theorem Wv (p a b:Int):zp p (a-b)=zp p a-zp p b:=rfl
theorem wa (p:Int):zp p 0=0:=rfl
theorem Hu (p:Int):zp p 1=1:=rfl
def rep {p:Int}:Zp p→Int:=Quotient.lift (fun a:Int=>a%p) fun a b h=>by
 have:=Eb.1 (Quotient.sound (s:=a49 p) h);exact this
theorem Ec (p a:Int):rep (zp p a)=a%p:=rfl
theorem ja {p:Int}:∀x:Zp p,zp p (rep x)=x:=Quo.ind fun a=>te p a
theorem ka {p:Int} [IsP p] (x:Zp p):0≤rep x∧rep x<p:=by
 rw [←ja x,Ec];have:=IsP.pos (p:=p);exact ⟨db _ (by omega),cl _ (by omega)⟩
theorem Rp {p:Int} {x y:Zp p} (h:rep x=rep y):x=y:=by rw [←ja x,←ja y,h]
theorem Ic {p a:Int} (h:0≤a∧a<p):rep (zp p a)=a:=by rw [Ec,ia h.1 h.2]
theorem n5 {p:Int}:rep (0:Zp p)=0:=by show (0:Int)%p=0; simp
theorem gv {p:Int} {x:Zp p}:rep x=0↔x=0:=⟨fun h=>Rp (by rw [h,n5]),fun h=>by rw [h,n5]⟩
theorem wc {p:Int} [IsP p]:rep (1:Zp p)=1:=by
 have:=IsP.ge (p:=p);exact Ic (a:=1) (by omega)
def a0s (p a:Int):Int:=(a^(p-2).toNat)%p
theorem a02 (p:Int) [h:IsP p] (a:Int) (h0:0<a) (h1:a<p):a*a0s p a%p=1:=by
 rcases h.h with rfl | rfl | rfl | rfl
 ·obtain rfl:a=1:=by omega
  decide
 ·have:a=1∨a=2:=by omega
  rcases this with rfl | rfl <;> decide
 ·have:a=1∨a=2∨a=3∨a=4:=by omega
  rcases this with rfl | rfl | rfl | rfl <;> decide
 ·have:a=1∨a=2∨a=3∨a=4∨a=5∨a=6:=by omega
  rcases this with rfl | rfl | rfl | rfl | rfl | rfl <;> decide
instance {p:Int} [IsP p]:Fd (Zp p) where
 one_ne:=fun h=>by
  have:=congrArg rep h;rw [wc,n5] at this;omega
 inv:=fun x=>zp p (a0s p (rep x))
 mul_inv:=fun x hx=>by
  have h0:=ka x;have h1:rep x≠0:=fun h=>hx (gv.1 h)
  have h2:zp p (rep x*a0s p (rep x))=1:=by
   rw [←te,a02 p _ (by omega) h0.2]; rfl
  have h3:zp p (rep x)*zp p (a0s p (rep x))=1:=h2
  rwa [ja] at h3
section
variable {K:Type} [CR K]
def cv:Nat→(Nat→K)→(Nat→K)→K
 | 0,f,g=>f 0*g 0
 | n+1,f,g=>f 0*g (n+1)+cv n (fun i=>f (i+1)) g
theorem Ln:∀(n:Nat) (f g:Nat→K),cv (n+1) f g=cv n f (fun i=>g (i+1))+f (n+1)*g 0
 | 0,f,g=>rfl
 | n+1,f,g=>by rw [cv,Ln n,cv]; simp only [add_assoc]
theorem xe:∀(n:Nat) (f g:Nat→K),cv n f g=cv n g f
 | 0,f,g=>mul_comm _ _
 | n+1,f,g=>by rw [cv,Ln,xe n,add_comm,mul_comm (f 0)]
theorem Ml:∀(n:Nat) (f f' g:Nat→K),cv n (fun i=>f i+f' i) g=cv n f g+cv n f' g
 | 0,f,f',g=>add_mul _ _ _
 | n+1,f,f',g=>by rw [cv,Ml n,cv,cv,add_mul]; exact bf [f 0*g (n+1),f' 0*g (n+1),cv n (fun i=>f (i+1)) g,cv n (fun i=>f' (i+1)) g] rfl
theorem Qm (k:K):∀(n:Nat) (f g:Nat→K),cv n (fun i=>k*f i) g=k*cv n f g
 | 0,f,g=>mul_assoc _ _ _
 | n+1,f,g=>by rw [cv,Qm k n,cv,mul_add,mul_assoc]
theorem In (n:Nat) (f g g':Nat→K):cv n f (fun i=>g i+g' i)=cv n f g+cv n f g':=by rw [xe,Ml,xe n g,xe n g']
theorem Ji:∀(n:Nat) (f g h:Nat→K),cv n (fun i=>cv i f g) h=cv n f (fun i=>cv i g h)
 | 0,f,g,h=>mul_assoc _ _ _
 | n+1,f,g,h=>by
  rw [cv,cv];show f 0*g 0*h (n+1)+cv n (fun i=>f 0*g (i+1)+cv i (fun i=>f (i+1)) g) h=f 0*cv (n+1) g h+cv n (fun i=>f (i+1)) (fun i=>cv i g h)
  rw [Ml,Qm,Ji n,cv,mul_add,mul_assoc,add_assoc]
theorem x8 {g:Nat→K}:∀(n:Nat) {f:Nat→K},(∀i,f i=0)→cv n f g=0
 | 0,f,h=>by rw [cv,h,zero_mul]
 | n+1,f,h=>by rw [cv,h,zero_mul,x8 n (fun i=>h _),add_zero]
theorem Mk {g:Nat→K} {b:Nat} (hg:∀i,b≤i→g i=0):∀(a n:Nat) {f:Nat→K},(∀i,a≤i→f i=0)→a+b≤n+1→cv n f g=0
 | 0,n,f,hf,_=>x8 n fun i=>hf i (jg i)
 | a+1,0,f,hf,h=>by
  have:b=0:=by omega
  subst this;rw [cv,hg 0 (b9 _),mul_zero]
 | a+1,n+1,f,hf,h=>by rw [cv,hg (n+1) (by omega),mul_zero,Mk hg a n (fun i hi=>hf _ (by omega)) (by omega),add_zero]
structure Pol (K:Type) [CR K] where
 c:Nat→K
 fin:∃n,∀i,n≤i→c i=0
theorem Pol.ext {a b:Pol K} (h:∀i,a.c i=b.c i):a=b:=by
 obtain ⟨f,hf⟩:=a;obtain ⟨g,hg⟩:=b;have:f=g:=funext h;subst this;rfl
def T9:Nat→K:=fun i=>if i=0 then 1 else 0
instance:Zero (Pol K):=⟨⟨fun _=>0,0,fun _ _=>rfl⟩⟩
instance:One (Pol K):=⟨⟨T9,1,fun i hi=>if_neg (by omega)⟩⟩
instance:Add (Pol K):=⟨fun a b=>⟨fun i=>a.c i+b.c i,by
 obtain ⟨n,hn⟩:=a.fin;obtain ⟨m,hm⟩:=b.fin;exact ⟨max n m,fun i hi=>by rw [hn i (by omega),hm i (by omega),add_zero]⟩⟩⟩
instance:Neg (Pol K):=⟨fun a=>⟨fun i=>-a.c i,by
 obtain ⟨n,hn⟩:=a.fin;exact ⟨n,fun i hi=>by rw [hn i hi,qv]⟩⟩⟩
instance:Sub (Pol K):=⟨fun a b=>a + -b⟩
instance:Mul (Pol K):=⟨fun a b=>⟨fun i=>cv i a.c b.c,by
 obtain ⟨n,hn⟩:=a.fin;obtain ⟨m,hm⟩:=b.fin;exact ⟨n+m,fun i hi=>Mk hm n i hn (by omega)⟩⟩⟩
theorem Pol.c_zero (i:Nat):(0:Pol K).c i=0:=rfl
theorem Pol.c_add (a b:Pol K) (i:Nat):(a+b).c i=a.c i+b.c i:=rfl
theorem Pol.c_neg (a:Pol K) (i:Nat):(-a).c i=-a.c i:=rfl
theorem Pol.c_mul (a b:Pol K) (i:Nat):(a*b).c i=cv i a.c b.c:=rfl
theorem Xl (n:Nat) (f:Nat→K):cv n T9 f=f n:=by
 cases n with
 | zero=>exact one_mul _
 | succ n=>
  have e:cv n (fun i=>T9 (i+1)) f=0:=x8 n (f:=fun i=>T9 (i+1)) (fun i=>if_neg (Nat.succ_ne_zero i))
  rw [cv,e,add_zero];exact one_mul _
instance:CR (Pol K) where
 add_zero:=fun a=>Pol.ext fun i=>add_zero _
 add_comm:=fun a b=>Pol.ext fun i=>add_comm _ _
 add_assoc:=fun a b c=>Pol.ext fun i=>add_assoc _ _ _
 mul_one:=fun a=>Pol.ext fun i=>by rw [Pol.c_mul,xe]; exact Xl i a.c
 mul_comm:=fun a b=>Pol.ext fun i=>xe _ _ _
 mul_assoc:=fun a b c=>Pol.ext fun i=>Ji _ _ _ _
 mul_add:=fun a b c=>Pol.ext fun i=>In _ _ _ _
 add_neg:=fun a=>Pol.ext fun i=>add_neg _
 sub_eq:=fun _ _=>rfl
theorem Pol.c_sub (a b:Pol K) (i:Nat):(a-b).c i=a.c i-b.c i:=by rw [sub_eq,c_add,c_neg,←sub_eq]
def Pol.C (k:K):Pol K:=⟨fun i=>if i=0 then k else 0,1,fun i hi=>if_neg (by omega)⟩
def Pol.X:Pol K:=⟨fun i=>if i=1 then 1 else 0,2,fun i hi=>if_neg (by omega)⟩
theorem Pol.c_C (k:K) (i:Nat):(Pol.C k).c i=if i=0 then k else 0:=rfl
theorem Pol.c_X (i:Nat):(Pol.X:Pol K).c i=if i=1 then 1 else 0:=rfl
theorem Pol.c_Cmul (k:K) (a:Pol K) (i:Nat):(Pol.C k*a).c i=k*a.c i:=by
 rw [c_mul];cases i with
 | zero=>rfl
 | succ n=>
  have e:cv n (fun i=>(Pol.C k).c (i+1)) a.c=0:=x8 n (f:=fun i=>(Pol.C k).c (i+1)) (fun i=>by rw [c_C,if_neg (Nat.succ_ne_zero i)])
  rw [cv,e,add_zero]; rfl
theorem Pol.c_Xmul (a:Pol K) (i:Nat):(Pol.X*a).c i=if i=0 then 0 else a.c (i-1):=by
 rw [c_mul];cases i with
 | zero=>exact zero_mul _
 | succ n=>
  have e:(fun i=>(Pol.X:Pol K).c (i+1))=T9:=funext fun i=>by
   rw [c_X]; unfold T9
   by_cases h:i=0
   ·rw [if_pos h,if_pos (by omega)]
   ·rw [if_neg h,if_neg (by omega)]
  rw [cv,e,Xl,c_X,if_neg (by omega),zero_mul,zero_add,if_neg (by omega)]; rfl
theorem Pol.C_zero:Pol.C (0:K)=0:=Pol.ext fun i=>by rw [c_C,c_zero]; split <;> rfl
theorem Pol.C_one:Pol.C (1:K)=1:=rfl
theorem Pol.C_add (a b:K):Pol.C (a+b)=Pol.C a+Pol.C b:=Pol.ext fun i=>by
 rw [c_add,c_C,c_C,c_C]; split
 ·rfl
 ·rw [add_zero]
theorem Pol.C_mul (a b:K):Pol.C (a*b)=Pol.C a*Pol.C b:=Pol.ext fun i=>by
 rw [c_Cmul,c_C,c_C]; split
 ·rfl
 ·rw [mul_zero]
theorem Pol.C_neg (a:K):Pol.C (-a)=-Pol.C a:=Aa (by rw [←C_add,add_neg,C_zero])
def Pol.lt (a:Pol K) (n:Nat):Prop:=∀i,n≤i→a.c i=0
theorem Pol.lt.mono {a:Pol K} {n m:Nat} (h:a.lt n) (hnm:n≤m):a.lt m:=fun i hi=>h i (by omega)
theorem Pol.lt_zero {a:Pol K}:a.lt 0↔a=0:=⟨fun h=>Pol.ext fun i=>h i (jg i),fun h=>by rw [h]; exact fun _ _=>rfl⟩
theorem Pol.lt_add {a b:Pol K} {n:Nat} (ha:a.lt n) (hb:b.lt n):(a+b).lt n:=fun i hi=>by rw [c_add,ha i hi,hb i hi,add_zero]
theorem Pol.lt_neg {a:Pol K} {n:Nat} (ha:a.lt n):(-a).lt n:=fun i hi=>by rw [c_neg,ha i hi,qv]
theorem Pol.lt_sub {a b:Pol K} {n:Nat} (ha:a.lt n) (hb:b.lt n):(a-b).lt n:=by rw [sub_eq]; exact lt_add ha (lt_neg hb)
theorem Pol.lt_mul {a b:Pol K} {n m:Nat} (ha:a.lt n) (hb:b.lt m):(a*b).lt (n+m-1):=fun i hi=>Mk hb n i ha (by omega)
theorem Pol.lt_Cmul {a:Pol K} {n:Nat} (k:K) (ha:a.lt n):(C k*a).lt n:=fun i hi=>by rw [c_Cmul,ha i hi,mul_zero]
theorem Pol.lt_one:(1:Pol K).lt 1:=fun i hi=>if_neg (by omega)
theorem Pol.lt_C (k:K):(C k).lt 1:=fun i hi=>if_neg (by omega)
theorem Pol.lt_X:(X:Pol K).lt 2:=fun i hi=>if_neg (by omega)
theorem Pol.eq_C {a:Pol K} (h:a.lt 1):a=C (a.c 0):=Pol.ext fun i=>by
 rw [c_C]; split
 ·rename_i h0; rw [h0]
 ·exact h i (by omega)
theorem Pol.len_ex (a:Pol K):∃n,a.lt n∧∀m,a.lt m→n≤m:=by
 obtain ⟨n,hn⟩:=a.fin
 have h:∀k,∀n,n≤k→a.lt n→∃n,a.lt n∧∀m,a.lt m→n≤m:=by
  intro k
  induction k with
  | zero=>exact fun n hk hn=>⟨n,hn,fun m _=>by omega⟩
  | succ k ih=>
   intro n hk hn
   by_cases h:∃m,m<n∧a.lt m
   ·obtain ⟨m,h1,h2⟩:=h
    exact ih m (by omega) h2
   ·exact ⟨n,hn,fun m hm=>by
     rcases cn m n with h1 | h1
     ·exact absurd ⟨m,h1,hm⟩ h
     ·exact h1⟩
 exact h n n (b9 n) hn
noncomputable def Pol.len (a:Pol K):Nat:=Classical.choose a.len_ex
theorem Pol.lt_len (a:Pol K):a.lt a.len:=(cj a.len_ex).1
theorem Pol.len_le {a:Pol K} {n:Nat} (h:a.lt n):a.len≤n:=(cj a.len_ex).2 n h
theorem Pol.lt_iff {a:Pol K} {n:Nat}:a.lt n↔a.len≤n:=⟨len_le,fun h=>a.lt_len.mono h⟩
theorem Pol.len_zero_iff {a:Pol K}:a.len=0↔a=0:=by rw [←lt_zero,lt_iff]; omega
theorem Pol.len_zero:(0:Pol K).len=0:=len_zero_iff.2 rfl
theorem Pol.len_pos {a:Pol K} (h:a≠0):0<a.len:=by
 have:a.len≠0:=fun h'=>h (len_zero_iff.1 h')
 omega
noncomputable def Pol.ld (a:Pol K):K:=a.c (a.len-1)
theorem Pol.ld_ne {a:Pol K} (h:a≠0):a.ld≠0:=fun h0=>by
 have hp:=len_pos h
 have:a.lt (a.len-1):=fun i hi=>by
  rcases cn i a.len with h1 | h1
  ·rw [show i=a.len-1 by omega]; exact h0
  ·exact a.lt_len i h1
 have:=len_le this;omega
theorem Pol.len_eq {a:Pol K} {n:Nat} (h:a.lt (n+1)) (h':a.c n≠0):a.len=n+1:=by
 have h1:=len_le h;rcases cn n a.len with h2 | h2
 ·omega
 ·exact absurd (a.lt_len n h2) h'
theorem P7 {g:Nat→K} {b:Nat} (hg:∀i,b+1≤i→g i=0):∀(a:Nat) {f:Nat→K},(∀i,a+1≤i→f i=0)→cv (a+b) f g=f a*g b
 | 0,f,hf=>by
  rw [bi];cases b with
  | zero=>rfl
  | succ b=>rw [cv,x8 b (fun i=>hf _ (by omega)),add_zero]
 | a+1,f,hf=>by
  rw [show a+1+b=(a+b)+1 by omega,cv,hg (a+b+1) (by omega),mul_zero,zero_add,P7 hg a (fun i hi=>hf _ (by omega))]
end
section
variable {K:Type} [Fd K]
theorem Pol.len_mul {a b:Pol K} (ha:a≠0) (hb:b≠0):(a*b).len+1=a.len+b.len:=by
 have h1:=len_pos ha;have h2:=len_pos hb
 have e:(a*b).c ((a.len-1)+(b.len-1))=a.ld*b.ld:=by
  rw [c_mul];exact P7 (f:=a.c) (fun i hi=>b.lt_len i (by omega)) _ (fun i hi=>a.lt_len i (by omega))
 have l:=len_eq (a:=a*b) (n:=(a.len-1)+(b.len-1)) ((lt_mul a.lt_len b.lt_len).mono (by omega)) (by rw [e]; exact Fd.mul_ne (ld_ne ha) (ld_ne hb))
 omega
theorem Pol.ld_mul {a b:Pol K} (ha:a≠0) (hb:b≠0):(a*b).ld=a.ld*b.ld:=by
 have h1:=len_pos ha;have h2:=len_pos hb
 have e:(a*b).c ((a.len-1)+(b.len-1))=a.ld*b.ld:=by
  rw [c_mul];exact P7 (f:=a.c) (fun i hi=>b.lt_len i (by omega)) _ (fun i hi=>a.lt_len i (by omega))
 have l:=len_mul ha hb;unfold ld at *;rw [←e]; congr 1; omega
theorem Pol.mul_ne {a b:Pol K} (ha:a≠0) (hb:b≠0):a*b≠0:=fun h=>by
 have l:=len_mul ha hb;have h1:=len_pos ha;have h2:=len_pos hb;rw [h,len_zero] at l;omega
theorem Pol.zero_or {a b:Pol K} (h:a*b=0):a=0∨b=0:=by
 by_cases ha:a=0
 ·exact .inl ha
 ·by_cases hb:b=0
  ·exact .inr hb
  ·exact absurd h (mul_ne ha hb)
theorem Pol.mul_cancel {a b c:Pol K} (ha:a≠0) (h:a*b=a*c):b=c:=by
 have:a*(b-c)=0:=by
  rw [show a*(b-c)=a*b-a*c from bf [a,b,c] rfl,h,sub_self]
 exact o4 ((zero_or this).resolve_left ha)
theorem Pol.one_ne:(1:Pol K)≠0:=fun h=>Fd.one_ne (K:=K) (congrArg (fun f=>Pol.c f 0) h)
theorem Pol.len_one:(1:Pol K).len=1:=len_eq lt_one Fd.one_ne
theorem Pol.ld_one:(1:Pol K).ld=1:=by unfold ld; rw [len_one]; rfl
theorem Pol.len_X:(X:Pol K).len=2:=len_eq lt_X Fd.one_ne
theorem Pol.len_C {k:K} (h:k≠0):(C k).len=1:=len_eq (lt_C k) h
theorem Pol.C_ne {k:K} (h:k≠0):C k≠0:=fun h'=>by have:=len_C h; rw [h',len_zero] at this; omega
theorem Pol.len_Cmul {k:K} (h:k≠0) (a:Pol K):(C k*a).len=a.len:=by
 by_cases ha:a=0
 ·rw [ha,mul_zero]
 ·have:=len_mul (C_ne h) ha
  rw [len_C h] at this;omega
def Pol.mo (k:K) (n:Nat):Pol K:=⟨fun i=>if i=n then k else 0,n+1,fun i hi=>if_neg (by omega)⟩
theorem a1t (k:K) (g:Nat→K):∀(n j:Nat),cv (n+j) (fun i=>if i=n then k else 0) g=k*g j
 | 0,0=>rfl
 | 0,j+1=>by
  rw [bi,cv,x8 j (fun i=>if_neg (by omega)),add_zero]; rfl
 | n+1,j=>by
  have e:(fun i=>if i+1=n+1 then k else 0)=(fun i=>if i=n then k else 0):=funext fun i=>by
   by_cases h:i=n
   ·rw [if_pos h,if_pos (by omega)]
   ·rw [if_neg h,if_neg (by omega)]
  rw [show n+1+j=(n+j)+1 by omega,cv,if_neg (by omega),zero_mul,zero_add,e,a1t k g n j]
theorem Pol.c_momul (k:K) (n:Nat) (a:Pol K) (i:Nat) (h:n≤i):(mo k n*a).c i=k*a.c (i-n):=by
 obtain ⟨j,rfl⟩:=f8 h;rw [c_mul,Nat.add_sub_cancel_left];exact a1t k a.c n j
theorem Pol.div_ex (b:Pol K) (hb:b≠0):∀(n:Nat) (a:Pol K),a.lt n→∃q r:Pol K,a=q*b+r∧r.len<b.len
 | 0,a,h=>⟨0,0,by rw [lt_zero.1 h,zero_mul,add_zero],by rw [len_zero]; exact len_pos hb⟩
 | n+1,a,h=>by
  rcases cn n (b.len-1) with h1 | h1
  ·exact ⟨0,a,by rw [zero_mul,zero_add],by have:=len_le h; omega⟩
  ·have hp:=len_pos hb
   have key:(a-mo (a.c n*Fd.inv b.ld) (n-(b.len-1))*b).lt n:=fun i hi=>by
    rw [c_sub,c_momul _ _ _ _ (by omega)]
    by_cases h2:i=n
    ·subst h2
     rw [show i-(i-(b.len-1))=b.len-1 by omega]
     have:=Fd.mul_inv b.ld (ld_ne hb);show a.c i-a.c i*Fd.inv b.ld*b.ld=0;rw [mul_assoc,mul_comm (Fd.inv b.ld),this,mul_one,sub_self]
    ·rw [h i (by omega),b.lt_len _ (by omega),mul_zero,sub_self]
   obtain ⟨q,r,h2,h3⟩:=div_ex b hb n _ key;refine ⟨mo (a.c n*Fd.inv b.ld) (n-(b.len-1))+q,r,?_,h3⟩
   revert h2
   generalize mo (a.c n*Fd.inv b.ld) (n-(b.len-1))=t;intro h2;have:a=(a-t*b)+t*b:=bf [a,t,b] rfl;rw [this,h2];exact bf [q,b,r,t] rfl
theorem Pol.div_unique {b q r q' r':Pol K} (h:q*b+r=q'*b+r') (hr:r.len<b.len) (hr':r'.len<b.len):q=q'∧r=r':=by
 have e:(q-q')*b=r'-r:=by
  have:(q-q')*b=(q*b+r)-(q'*b+r):=bf [q,q',b,r] rfl;rw [this,h];exact bf [q',b,r,r'] rfl
 have hb:b≠0:=fun h0=>by rw [h0,len_zero] at hr; omega
 by_cases hq:q-q'=0
 ·have hq':=o4 hq
  rw [hq,zero_mul] at e;exact ⟨hq',(o4 e.symm).symm⟩
 ·have l:=len_mul hq hb
  rw [e] at l;have h1:=len_le (lt_sub (Pol.lt_iff.2 (show r'.len≤b.len-1 by omega)) (Pol.lt_iff.2 (show r.len≤b.len-1 by omega)))
  have:=len_pos hq;omega
open Classical in
noncomputable def Pol.qr (a b:Pol K):Pol K×Pol K:=
 if hb:b=0 then (0,a) else ((Classical.choose (div_ex b hb a.len a a.lt_len)),Classical.choose (cj (div_ex b hb a.len a a.lt_len)))
noncomputable instance:Div (Pol K):=⟨fun a b=>(Pol.qr a b).1⟩
noncomputable instance:Mod (Pol K):=⟨fun a b=>(Pol.qr a b).2⟩
theorem Pol.div_mod (a b:Pol K):a=(a/b)*b+a%b:=by
 show a=(qr a b).1*b+(qr a b).2;unfold qr
 split
 ·rename_i h; rw [h,mul_zero,zero_add]
 ·rename_i h; exact (cj (cj (div_ex b h a.len a a.lt_len))).1
theorem Pol.len_mod (a:Pol K) {b:Pol K} (h:b≠0):(a%b).len<b.len:=by
 show (qr a b).2.len<_;unfold qr;rw [dif_neg h];exact (cj (cj (div_ex b h a.len a a.lt_len))).2
theorem Pol.div_mod_eq {a b q r:Pol K} (h:a=q*b+r) (hr:r.len<b.len):a/b=q∧a%b=r:=by
 have hb:b≠0:=fun h0=>by rw [h0,len_zero] at hr; omega
 exact div_unique ((div_mod a b).symm.trans h) (len_mod a hb) hr
end
end Gq

namespace Pe
open Go Gq
abbrev Fp (p:Int):Type:=Pol (Zp p)
noncomputable def row {p:Int} (a:Fp p):List Int:=(List.range a.len).map fun i=>rep (a.c i)
def pad (l:List Int):List Int:=(List.range 64).map (cf l)
section
variable {p:Int}
@[simp] theorem bp (a:Fp p):(row a).length=a.len:=by simp [row]
theorem fg (a:Fp p) (i:Nat):cf (row a) i=rep (a.c i):=by
 rcases cn i a.len with h | h
 ·exact km _ _ _ h
 ·rw [m5 (by rw [bp]; exact h),a.lt_len i h,n5]
theorem gh [IsP p] (a:Fp p):Can p (row a):=Can.of_cf fun j _=>by rw [fg]; exact ka _
theorem Ac [IsP p] (a:Fp p) {b:Int} (hb:7≤b):Small b (row a):=(gh a).small (by have:=IsP.le (p:=p); omega)
theorem dt:row (0:Fp p)=[]:=by
 apply pf;rw [bp,Pol.len_zero]
theorem a1m {a:Fp p}:row a=[]↔a=0:=by rw [←d5,bp,Pol.len_zero_iff]
theorem Gd (l:List Int):∀n,(∀i,mw l n≤i→i<n→cf l i=0)∧(mw l n=0∨cf l (mw l n-1)≠0)
 | 0=>⟨fun i _ h=>absurd h (Nat.not_lt_zero i),.inl rfl⟩
 | n+1=>by
  have ih:=Gd l n;unfold mw
  by_cases h:cf l n=0
  ·rw [if_pos h]
   refine ⟨fun i h1 h2=>?_,ih.2⟩
   by_cases hi:i=n
   ·rw [hi,h]
   ·exact ih.1 i h1 (by omega)
  ·rw [if_neg h]
   exact ⟨fun i h1 h2=>by omega,.inr h⟩
theorem uo {l:List Int} {f:Fp p} (h:∀i,cf l i=rep (f.c i)):trim l=row f:=by
 have ht:=Gd l l.length;have hl:=Ca l l.length
 have e:mw l l.length=f.len:=by
  apply Nat.le_antisymm
  ·rcases ht.2 with h0 | h0
   ·omega
   ·rw [h] at h0
    rcases cn (mw l l.length-1) f.len with h1 | h1
    ·omega
    ·exact absurd (by rw [f.lt_len _ h1,n5]) h0
  ·apply Pol.len_le
   intro i hi;apply gv.1;rw [←h];rcases cn i l.length with h1 | h1
   ·exact ht.1 i hi h1
   ·exact m5 h1
 apply lf
 ·rw [bp,←e]; unfold trim; rw [ba]; omega
 ·intro i h1 h2
  have e1:(trim l)[i]=cf l i:=by
   unfold trim at h1 ⊢;rw [nr,e8]
  have e2:(row f)[i]=cf (row f) i:=(e8 h2).symm;rw [e1,e2,fg,h]
def ep (p:Int) (l:List Int):Fp p:=⟨fun i=>zp p (cf l i),l.length,fun i hi=>by rw [m5 hi]; rfl⟩
theorem gn (l:List Int) (i:Nat):(ep p l).c i=zp p (cf l i):=rfl
theorem Ye (l:List Int):(ep p l).lt l.length:=fun i hi=>by rw [gn,m5 hi]; rfl
theorem sz (a:Fp p):ep p (row a)=a:=Pol.ext fun i=>by rw [gn,fg,ja]
theorem mc [IsP p] {l:List Int} (h:Can p l):trim l=row (ep p l):=uo fun i=>by
 have h1:=h.le IsP.pos i;rw [gn,Ic h1]
theorem a0b {a b:Fp p} (h:row a=row b):a=b:=by rw [←sz a,←sz b,h]
theorem a0f:pad []=List.replicate 64 0:=by decide +kernel
@[simp] theorem abl:z64=am .u8 (pad []):=by rw [a0f]; unfold am z64; rw [List.map_replicate]
theorem cu (l:List Int):(pad l).length=64:=by simp [pad]
theorem y9 {l:List Int} (h:l.length≤64) (i:Nat):cf (pad l) i=cf l i:=by
 rcases cn i 64 with h1 | h1
 ·exact km _ _ _ h1
 ·rw [m5 (by rw [cu]; exact h1),m5 (by omega)]
theorem ov (l:List Int) (i:Nat) (h:i<64):(pad l)[i]? = some (cf l i):=by
 rw [pad,ct,ff h]; rfl
theorem P5 {l m:List Int} (hl:m.length=64) (h:∀i,i<64→cf l i=cf m i):pad l=m:=by
 apply lf
 ·rw [cu,hl]
 ·intro i h1 h2
  rw [←e8 h2,←h i (by omega)]
  simp [pad]
theorem M5 [IsP p] (a b:Fp p) (k:Int):a0y p (row a) (row b) k=row (a+Pol.C (zp p k)*b):=by
 apply uo;intro i
 have e:rep ((a+Pol.C (zp p k)*b).c i)=(rep (a.c i)+k*rep (b.c i))%p:=by
  rw [Pol.c_add,Pol.c_Cmul,←Ec]
  congr 1
  rw [Ns,xt,ja,ja]
 rw [e];rcases cn i (max a.len b.len) with h | h
 ·rw [km _ _ _ (by simpa using h)]
  unfold lin;rw [fg,fg]
 ·rw [m5 (by simpa using h),a.lt_len i (by omega),b.lt_len i (by omega)]
  simp [n5]
def cvs {K:Type} [CR K] (f g:Nat→K):Nat→Nat→K
 | 0,_=>0
 | m+1,j=>cvs f g m j+if m≤j then f m*g (j-m) else 0
theorem Dg {K:Type} [CR K] (f g:Nat→K):∀m j,cvs f g (m+1) j=f 0*g j+if j=0 then 0 else cvs (fun i=>f (i+1)) g m (j-1)
 | 0,j=>by
  show 0+(if 0≤j then f 0*g (j-0) else 0)=_
  rw [if_pos (jg j),Nat.sub_zero,Gq.zero_add]
  split <;> exact (Gq.add_zero _).symm
 | m+1,j=>by
  rw [cvs,Dg f g m j]
  by_cases h:j=0
  ·subst h
   rw [if_pos rfl,if_neg (by omega),if_pos rfl,Gq.add_zero]
  ·rw [if_neg h,if_neg h,cvs]
   rw [Gq.add_assoc]
   congr 2
   by_cases h2:m+1≤j
   ·rw [if_pos h2,if_pos (by omega),show j-(m+1)=j-1-m by omega]
   ·rw [if_neg h2,if_neg (by omega)]
theorem Xk {K:Type} [CR K] (g:Nat→K):∀(j m:Nat) (f:Nat→K),j<m→cvs f g m j=cv j f g
 | 0,0,f,h=>by omega
 | 0,m+1,f,_=>by rw [Dg,if_pos rfl,Gq.add_zero]; rfl
 | j+1,0,f,h=>by omega
 | j+1,m+1,f,h=>by rw [Dg,if_neg (by omega),cv,Nat.add_sub_cancel,Xk g j m _ (by omega)]
theorem L2 {K:Type} [CR K] (f g:Nat→K) {m:Nat} (h:∀i,m≤i→f i=0) (j:Nat):∀k,cvs f g (m+k) j=cvs f g m j
 | 0=>rfl
 | k+1=>by
  rw [←fa,cvs,L2 f g h j k,h (m+k) (by omega),Gq.zero_mul]
  split <;> exact Gq.add_zero _
theorem Ro (l m:List Int):∀n j,zp p (conv l m n j)=cvs (ep p l).c (ep p m).c n j
 | 0,j=>rfl
 | n+1,j=>by
  rw [conv,cvs,←Ro l m n j]
  split
  ·rfl
  ·rfl
theorem a11 [IsP p] (a b:Fp p):mul p (row a) (row b)=row (a*b):=by
 apply uo;intro i
 have e:∀i,conv (row a) (row b) (row a).length i%p=rep ((a*b).c i):=fun i=>by
  rw [←Ec,Ro,sz,sz,bp,Pol.c_mul]
  congr 1
  rw [←L2 a.c b.c a.lt_len i (i+1),Xk];omega
 rcases cn i (a.len+b.len-1) with h | h
 ·rw [km _ _ _ (by simpa using h),e]
 ·rw [m5 (by simpa using h),Pol.lt_mul a.lt_len b.lt_len i h,n5]
end
end Pe

namespace Pe
open Go Gq
variable {T:Nat→Option Fn} {A:ah}
theorem X6 (p:Int) [h:IsP p] (a:Int) (h0:0<a) (h1:a<p):a*inv p a%p=1:=by
 rcases h.h with rfl | rfl | rfl | rfl
 ·obtain rfl:a=1:=by omega
  decide
 ·have:a=1∨a=2:=by omega
  rcases this with rfl | rfl <;> decide
 ·have:a=1∨a=2∨a=3∨a=4:=by omega
  rcases this with rfl | rfl | rfl | rfl <;> decide
 ·have:a=1∨a=2∨a=3∨a=4∨a=5∨a=6:=by omega
  rcases this with rfl | rfl | rfl | rfl | rfl | rfl <;> decide
theorem y0 (p:Int) [IsP p] (a:Int):0≤inv p a∧inv p a<p:=by
 have:=IsP.ge (p:=p);exact Qc (by omega) _
@[simp] theorem Wj {p:Int} (a:Fp p):(row a).take a.len=row a:=b5 (by simp)
def sx (O:ah):Prop:=∀(p:Int) [IsP p] (k:Int) (a b:Fp p),-1000000≤k→k≤1000000→a.len<1000000→b.len<1000000 →
 ask O Fs [(D.int .i64 p),(D.sl .leaf (am .i64 (row a))),(D.sl .leaf (am .i64 (row b))),(D.int .i64 k)]=some (D.sl .leaf (am .i64 (row (a+Pol.C (zp p k)*b))))
theorem Sf {O:ah} (h:wq O):sx O:=fun p i k a b h1 h2 h3 h4=>by
 have h5:=IsP.pos (p:=p);have h6:=IsP.le (p:=p);rw [h p k (row a) (row b) h5 (by omega) (Ac a (by omega)) (Ac b (by omega)) h1 h2 (by simpa using h3) (by simpa using h4),M5]
def ta (O:ah):Prop:=∀(p:Int) [IsP p] (a b:Fp p),a.len<10000→b.len<10000 →
 ask O F16 [(D.int .i64 p),(D.sl .leaf (am .i64 (row a))),(D.sl .leaf (am .i64 (row b)))]=some (D.sl .leaf (am .i64 (row (a*b))))
theorem Yt {O:ah} (h:Hb O):ta O:=fun p i a b h1 h2=>by
 have h5:=IsP.pos (p:=p);have h6:=IsP.le (p:=p);rw [h p (row a) (row b) h5 (by omega) (gh a) (gh b) (by simpa using h1) (by simpa using h2),a11]
def wb (O:ah):Prop:=∀(p:Int) [IsP p] (k:Int) (a:Fp p),-1000000≤k→k≤1000000→a.len<1000000 →
 ask O F14 [(D.int .i64 p),(D.sl .leaf (am .i64 (row a))),(D.int .i64 k)]=some (D.sl .leaf (am .i64 (row (Pol.C (zp p k)*a))))
theorem a1g {O:ah} (h:Hr O):wb O:=fun p i k a h1 h2 h3=>by
 have h5:=IsP.pos (p:=p);have h6:=IsP.le (p:=p);have e:=M5 (0:Fp p) a k;rw [dt,Gq.zero_add] at e;rw [h p k (row a) h5 (by omega) (Ac a (by omega)) h1 h2 (by simpa using h3),e]
theorem Wo {K:Type} [CR K] {g:Nat→K}:∀{i:Nat} {f:Nat→K},(∀j,j≤i→f j=0)→cv i f g=0
 | 0,f,h=>by rw [cv,h 0 (b9 0),Gq.zero_mul]
 | i+1,f,h=>by rw [cv,h 0 (jg _),Gq.zero_mul,Wo (fun j hj=>h (j+1) (by omega)),Gq.add_zero]
theorem Lq {K:Type} [Fd K] (k:K) (n:Nat) (a:Pol K) (i:Nat):(Pol.mo k n*a).c i=if n≤i then k*a.c (i-n) else 0:=by
 split
 ·rename_i h; exact Pol.c_momul k n a i h
 ·rename_i h
  rw [Pol.c_mul];exact Wo fun j hj=>if_neg (by omega)
section
variable {p:Int} [IsP p]
theorem Lp (q:Int) (b:Fp p) (c:Nat) (cur:List Int) (h:c+b.len≤cur.length):ep p (jp p q (row b) c b.len 0 cur)=ep p cur-Pol.mo (zp p q) c*b:=Pol.ext fun j=>by
 rw [Pol.c_sub,Lq,gn,gn,uy _ _ _ _ _ _ _ _ (by omega)]
 by_cases h1:c+0≤j∧j<c+0+b.len
 ·rw [if_pos h1,if_pos (by omega),te,Wv,xt,fg,ja]
 ·rw [if_neg h1]
  split
  ·rw [b.lt_len _ (by omega),Gq.mul_zero,sub_eq,qv,Gq.add_zero]
  ·rw [sub_eq,qv,Gq.add_zero]
theorem Tq (q:Int) (c:Nat) (quo:List Int) (h:c<quo.length) (h0:cf quo c=0):ep p (quo.set c q)=ep p quo+Pol.mo (zp p q) c:=Pol.ext fun j=>by
 rw [Pol.c_add,gn,gn,s9];show _=_+(if j=c then zp p q else 0)
 by_cases h1:j=c
 ·subst h1
  rw [if_pos ⟨rfl,h⟩,if_pos rfl,h0,wa,Gq.zero_add]
 ·rw [if_neg (by omega),if_neg h1,Gq.add_zero]
theorem J1 (b:Fp p) (hb:b≠0):∀(c:Nat) (cur quo:List Int),c+b.len≤cur.length+1→c≤quo.length→Can p cur→(∀j,j<c→cf quo j=0)→(∀j,c+b.len-1≤j→cf cur j=0)→Can p quo →
 let r:=dv p (inv p (rep b.ld)) (row b) c (cur,quo)
 ep p r.1+ep p r.2*b=ep p cur+ep p quo*b∧(∀j,b.len-1≤j→cf r.1 j=0)∧Can p r.1∧Can p r.2
 | 0,cur,quo,_,_,hcan,_,h,hq=>⟨rfl,fun j hj=>h j (by omega),hcan,hq⟩
 | c+1,cur,quo,hl,hlq,hcan,hq0,h,hq=>by
  have hp:=IsP.pos (p:=p);have hbl:=Pol.len_pos hb;have hr:=ka b.ld;have hld:rep b.ld≠0:=fun h0=>Pol.ld_ne hb (gv.1 h0)
  generalize hqd:cf cur (c+b.len-1)*inv p (rep b.ld)%p=q;have hqin:0≤q∧q<p:=by subst hqd; exact ⟨db _ (by omega),cl _ hp⟩
  have hlen:c+b.len≤cur.length:=by omega
  have e:dv p (inv p (rep b.ld)) (row b) (c+1) (cur,quo)=dv p (inv p (rep b.ld)) (row b) c (jp p q (row b) c b.len 0 cur,quo.set c q):=by
   rw [dv]; simp only [bp,hqd]
  rw [e]
  have key:(cf cur (c+b.len-1)-q*rep b.ld)%p=0:=by
   have h1:=X6 p (rep b.ld) (by omega) hr.2
   have h2:q*rep b.ld%p=cf cur (c+b.len-1)%p:=by
    subst hqd;rw [Int.mul_emod,ig _ (Int.dvd_refl p),←Int.mul_emod,sd,gt (inv p _),Int.mul_emod,h1,mu,ig _ (Int.dvd_refl p)]
   rw [Int.sub_emod,h2,←Int.sub_emod,Int.sub_self,Int.zero_emod]
  have ih:=J1 b hb c (jp p q (row b) c b.len 0 cur) (quo.set c q) (by rw [jh]; omega) (by simp; omega) (Ak hp (by omega) hcan)
   (fun j hj=>by rw [s9,if_neg (by omega)]; exact hq0 j (by omega))
   (fun j hj=>by
    rw [uy _ _ _ _ _ _ _ _ (by omega)]
    by_cases hj2:j=c+b.len-1
    ·subst hj2
     rw [if_pos (by omega),fg,show c+b.len-1-c=b.len-1 by omega]; exact key
    ·rw [if_neg (by omega)]; exact h j (by omega))
   (fun x hx=>by
    rcases dd hx with h1 | h1
    ·exact hq x h1
    ·subst h1; exact hqin)
  refine ⟨?_,ih.2⟩;rw [ih.1,Lp q b c cur hlen,Tq q c quo (by omega) (hq0 c (by omega))]
  exact bf [ep p cur,Pol.mo (zp p q) c,b,ep p quo] rfl
def R7 (O:ah):Prop:=∀l:List Int,l.length<1000000→O F1s [(.d (.sl .leaf (am .i64 l)))] []=some (.sl 0 [] 0 l.length none,[],[.sl false .leaf (am .i64 l)])
def qw (O:ah):Prop:=∀(p:Int) [IsP p] (a b:Fp p),b≠0→a.len<5000→b.len<5000 →
 ask O Ft [(D.int .i64 p),(D.sl .leaf (am .i64 (row a))),(D.sl .leaf (am .i64 (row b)))]=some (.tup [(D.sl .leaf (am .i64 (row (a/b)))),(D.sl .leaf (am .i64 (row (a%b))))])
end
section
variable {p:Int}
theorem Dj (b:Fp p):Bh (row b)=rep b.ld:=by unfold Bh Pol.ld; rw [fg,bp]
end
section
variable {p:Int} [IsP p]
theorem V6 (hT:T Ft=some Zt) (hcl:R7 (den T A)) (htr:pu (den T A)) (hld:v9 (den T A)) (hinv:o7 (den T A)) (hred:ri (den T A)):qw (den T A):=by
 intro p ip a b hb ha hbl;have hp:=IsP.ge (p:=p);have hp7:=IsP.le (p:=p);have e1:=hcl (row a) (by simpa using (show a.len<1000000 by omega))
 rw [bp] at e1;have hb0:=Pol.len_pos hb;refine bu hT rfl ?_
 by_cases hlt:a.len<b.len
 ·obtain ⟨h1,h2⟩:=Pol.div_mod_eq (a:=a) (b:=b) (q:=0) (r:=a) (by rw [Gq.zero_mul,Gq.zero_add]) hlt
  rw [h1,h2,dt];have h3:(a.len:Int)<(b.len:Int):=by omega
  simp -implicitDefEqProofs [Zt,Zt_B,ao,e1,h3,gd,Wj]
 ·have h3:¬ (a.len:Int)<(b.len:Int):=by omega
  have hr:=ka b.ld;have e2:=hld (row b) (by simpa using (show b.len<1000000 by omega))
  rw [Dj] at e2;have e3:=hinv p (rep b.ld) (by omega) (by omega) hr.1 hr.2
  have w1:IntKind.i64.wrap ((a.len:Int)-b.len)=(a.len:Int)-b.len:=w64 (by omega)
  have w2:IntKind.i64.wrap ((a.len:Int)-b.len+1)=((a.len-b.len+1:Nat):Int):=(w64 (x:=(a.len:Int)-b.len+1) (by omega)).trans (by omega)
  have w3:IntKind.i64.wrap (((a.len-b.len+1:Nat):Int)-1)=((a.len-b.len+1:Nat):Int)-1:=w64 (by omega)
  have h8:(a.len-b.len+1)*8≤1099511627776:=by omega
  have l1:=Tz (O:=den T A) (by_:=inv p (rep b.ld)) (b:=row b) (la:=a.len) (nq:=a.len-b.len+1) (cp:=none) hred (by omega) (by omega) (y0 p _) (gh b) (by rw [bp]; omega) (by rw [bp]; omega) (by omega)
   (a.len-b.len+1) (row a) (List.replicate (a.len-b.len+1) 0) (b9 _) (bp a) (by simp) (gh a)
  have hz:∀n j,cf (List.replicate n (0:Int)) j=0:=fun n j=>by
   by_cases hj:j<n
   ·rw [e8 (by simpa using hj)]; simp
   ·exact m5 (by simp; omega)
  have sp:=J1 b hb (a.len-b.len+1) (row a) (List.replicate (a.len-b.len+1) 0) (by rw [bp]; omega) (by simp) (gh a) (fun j _=>hz _ j) (fun j hj=>by rw [m5]; rw [bp]; omega) (fun x hx=>by
   obtain rfl:=(List.mem_replicate.1 hx).2; omega)
  have hl1:∀(c:Nat) (x y:List Int),(dv p (inv p (rep b.ld)) (row b) c (x,y)).1.length=x.length∧(dv p (inv p (rep b.ld)) (row b) c (x,y)).2.length=y.length:=by
   intro c
   induction c with
   | zero=>exact fun x y=>⟨rfl,rfl⟩
   | succ c ih=>
    intro x y;rw [dv];obtain ⟨i1,i2⟩:=ih (jp p (cf x (c+(row b).length-1)*inv p (rep b.ld)%p) (row b) c (row b).length 0 x) (y.set c (cf x (c+(row b).length-1)*inv p (rep b.ld)%p));exact ⟨by rw [i1,jh],by rw [i2,br]⟩
  obtain ⟨l2,l3⟩:=hl1 (a.len-b.len+1) (row a) (List.replicate (a.len-b.len+1) 0);generalize dv p (inv p (rep b.ld)) (row b) (a.len-b.len+1) (row a,List.replicate (a.len-b.len+1) 0)=r at *;obtain ⟨s1,s2,s3,s4⟩:=sp;have z0:ep p (List.replicate (a.len-b.len+1) 0)=0:=Pol.ext fun j=>by rw [gn,hz]; rfl
  rw [z0,Gq.zero_mul,Gq.add_zero,sz,Gq.add_comm] at s1
  have hrl:(ep p r.1).len<b.len:=by
   have:(ep p r.1).lt (b.len-1):=fun i hi=>by rw [gn,s2 i hi]; rfl
   have:=Pol.len_le this;omega
  obtain ⟨h1,h2⟩:=Pol.div_mod_eq s1.symm hrl;rw [h1,h2,←mc s3,←mc s4];have t1:=htr r.1 (by rw [l2,bp]; omega)
  have t2:=htr r.2 (by rw [l3,ce]; omega)
  have k1:r.1.take a.len=r.1:=b5 (by rw [l2,bp]; omega)
  have k2:r.2.take (a.len-b.len+1)=r.2:=b5 (by rw [l3,ce]; omega)
  rw [ce] at l3;rw [bp] at l2;generalize a.len-b.len+1=n at *;simp -implicitDefEqProofs [Zt,Zt_B,ao,e1,h3,w1,w2,w3,h8,e2,e3,l1,t1,t2,l2,l3,k1,k2]
end
end Pe

/-
 Functions of the program in the small form,printed by a program.
-/
namespace Pe
open Go
def Z1w_L0:Cd:=
 .seq (.region [Ll 9 (.bin .lss (.t 8) (.t 7))] [0,1,7,8,9])
 (.seq (.cond (.t 9)
 (.skip)
 (.exit 0))
 (.seq (.block 1 (.seq (.region [Lw 10 8,
 Lw 5 10] [0,1,5,7,8])
 (.seq (.region [Lw 11 1,
 Lw 12 0,
 Lw 13 5,
 Ll 14 (.idxA none Sx6 (.t 12) (.t 13)),
 Ipx 15 14,
 Ll 16 (.call .flat [] (.t 11) [(.t 15)])] [0,1,5,7,8,16])
 (.cond (.t 16)
 (.seq (.region [Lw 17 5,
 Lw 4 17] [4])
 (.ret))
 (.skip)))))
 (.region [Ll 18 (.bin .add (.t 8) (Acx 1)),
 Lw 8 18] [0,1,7,8])))
def Z1w_B:Cd:=
 .seq (.region [Ll 4 (.mv (Acx 0))] [0,1])
 (.seq (.seq (.region [Lw 6 0,
 Ll 7 (.len false (.t 6)),
 Ll 8 (.mv (Acx 0))] [0,1,7,8])
 (.block 0 (.loop (Z1w_L0))))
 (.seq (.region [Ll 4 (.mv (Acx (-1)))] [4])
 (.ret)))
def Z1w:Fn:=
 { nparams:=2,nblk:=0,results:=[.tmp 4],body:=Z1w_B }
def Z1u_B:Cd:=
 .seq (.region [Ll 4 (.mv (.c (.bool false)))] [0,1])
 (.seq (.region [Lw 5 0,
 Lw 6 1,
 Ll 7 (Ofx F1w [(.t 5),(.t 6)]),
 Ll 8 (.bin .geq (.t 7) (Acx 0)),
 Lw 4 8] [4])
 (.ret))
def Z1u:Fn:=
 { nparams:=2,nblk:=0,results:=[.tmp 4],body:=Z1u_B }
def Z1v_L0:Cd:=
 .seq (.region [Ll 9 (.bin .lss (.t 8) (.t 7))] [0,1,7,8,9])
 (.seq (.cond (.t 9)
 (.skip)
 (.exit 0))
 (.seq (.block 1 (.seq (.region [Lw 10 8,
 Lw 5 10] [0,1,5,7,8])
 (.seq (.region [Lw 11 1,
 Lw 12 0,
 Lw 13 5,
 Ll 14 (.idxA none .leaf (.t 12) (.t 13)),
 Ilx 15 14,
 Ll 16 (.call .flat [] (.t 11) [(.t 15)])] [0,1,5,7,8,16])
 (.cond (.t 16)
 (.seq (.region [Lw 17 5,
 Lw 4 17] [4])
 (.ret))
 (.skip)))))
 (.region [Ll 18 (.bin .add (.t 8) (Acx 1)),
 Lw 8 18] [0,1,7,8])))
def Z1v_B:Cd:=
 .seq (.region [Ll 4 (.mv (Acx 0))] [0,1])
 (.seq (.seq (.region [Lw 6 0,
 Ll 7 (.len false (.t 6)),
 Ll 8 (.mv (Acx 0))] [0,1,7,8])
 (.block 0 (.loop (Z1v_L0))))
 (.seq (.region [Ll 4 (.mv (Acx (-1)))] [4])
 (.ret)))
def Z1v:Fn:=
 { nparams:=2,nblk:=0,results:=[.tmp 4],body:=Z1v_B }
def Z1t_B:Cd:=
 .seq (.region [Ll 4 (.mv (.c (.bool false)))] [0,1])
 (.seq (.region [Lw 5 0,
 Lw 6 1,
 Ll 7 (Ofx F1v [(.t 5),(.t 6)]),
 Ll 8 (.bin .geq (.t 7) (Acx 0)),
 Lw 4 8] [4])
 (.ret))
def Z1t:Fn:=
 { nparams:=2,nblk:=0,results:=[.tmp 4],body:=Z1t_B }
def Z21_L0:Cd:=
 .seq (.seq (.region [Lw 18 9,
 Lw 19 1,
 Ll 20 (.bin .gtr (.t 18) (.t 19)),
 Lw 21 20,
 Lx 22 3 21 true,
 Lx 23 0 21 true,
 Lx 24 9 21 true,
 Lg 25 (.idxA none (.st [.leaf,.leaf]) (.t 23) (.t 24)) 21 true,
 Lg 26 (.load (.st [.leaf,.leaf]) (.t 25)) 21 true,
 Lx 27 0 21 true,
 Lx 28 9 21 true,
 Lg 29 (.bin .sub (.t 28) (Acx 1)) 21 true,
 Lg 30 (.idxA none (.st [.leaf,.leaf]) (.t 27) (.t 29)) 21 true,
 Lg 31 (.load (.st [.leaf,.leaf]) (.t 30)) 21 true,
 Lg 32 (.call .flat [] (.t 22) [(.t 26),(.t 31)]) 21 true,
 Lg 33 (.bin .lss (.t 32) (Acx 0)) 21 true,
 Ll 34 (.pick (.t 21) (.t 33) (.c (.bool false)))] [0,1,2,3,8,9,34])
 (.cond (.t 34)
 (.skip)
 (.exit 2)))
 (.seq (.block 3 (.region [Lw 37 0,
 Lw 38 9,
 Lw 39 0,
 Lw 40 9,
 Ll 41 (.bin .sub (.t 40) (Acx 1)),
 Lw 42 0,
 Lw 43 9,
 Ll 44 (.bin .sub (.t 43) (Acx 1)),
 Ll 45 (.idxA none (.st [.leaf,.leaf]) (.t 42) (.t 44)),
 Ll 46 (.load (.st [.leaf,.leaf]) (.t 45)),
 Lw 47 0,
 Lw 48 9,
 Ll 49 (.idxA none (.st [.leaf,.leaf]) (.t 47) (.t 48)),
 Ll 50 (.load (.st [.leaf,.leaf]) (.t 49)),
 Ll 51 (.idxA none (.st [.leaf,.leaf]) (.t 37) (.t 38)),
 Ls (.store false (.st [.leaf,.leaf]) (.t 51) (.t 46)),
 Ll 52 (.idxA none (.st [.leaf,.leaf]) (.t 39) (.t 41)),
 Ls (.store false (.st [.leaf,.leaf]) (.t 52) (.t 50))] [0,1,2,3,8,9]))
 (.region [Lw 35 9,
 Ll 36 (.bin .sub (.t 35) (Acx 1)),
 Lw 9 36] [0,1,2,3,8,9]))
def Z21_L1:Cd:=
 .seq (.seq (.region [Lw 12 8,
 Lw 13 2,
 Ll 14 (.bin .lss (.t 12) (.t 13))] [0,1,2,3,8,14])
 (.cond (.t 14)
 (.skip)
 (.exit 0)))
 (.seq (.block 1 (.seq (.region [Lw 17 8,
 Lw 9 17] [0,1,2,3,8,9])
 (.block 2 (.loop (Z21_L0)))))
 (.region [Lw 15 8,
 Ll 16 (.bin .add (.t 15) (Acx 1)),
 Lw 8 16] [0,1,2,3,8]))
def Z21_B:Cd:=
 .seq (.region [Lw 10 1,
 Ll 11 (.bin .add (.t 10) (Acx 1)),
 Lw 8 11] [0,1,2,3,8])
 (.block 0 (.loop (Z21_L1)))
def Z21:Fn:=
 { nparams:=4,nblk:=0,results:=[],body:=Z21_B }
def Z1r_B:Cd:=
 .seq (.region [Ll 2 (.mv (Acx 0))] [0,2])
 (.seq (.seq (.region [Lw 3 0,
 Ll 4 (.bin .geq (.t 3) (.c (.int .u64 4294967296)))] [0,2,4])
 (.cond (.t 4)
 (.seq (.region [Lw 5 0,
 Ll 6 (.bin .shr (.t 5) (.c (.int .u64 32))),
 Lw 0 6] [0])
 (.region [Ll 2 (.mv (Acx 32))] [0,2]))
 (.skip)))
 (.seq (.seq (.region [Lw 7 0,
 Ll 8 (.bin .geq (.t 7) (.c (.int .u64 65536)))] [0,2,8])
 (.cond (.t 8)
 (.seq (.region [Lw 9 0,
 Ll 10 (.bin .shr (.t 9) (.c (.int .u64 16))),
 Lw 0 10] [0,2])
 (.region [Lw 11 2,
 Ll 12 (.bin .add (.t 11) (Acx 16)),
 Lw 2 12] [0,2]))
 (.skip)))
 (.seq (.seq (.region [Lw 13 0,
 Ll 14 (.bin .geq (.t 13) (.c (.int .u64 256)))] [0,2,14])
 (.cond (.t 14)
 (.seq (.region [Lw 15 0,
 Ll 16 (.bin .shr (.t 15) (.c (.int .u64 8))),
 Lw 0 16] [0,2])
 (.region [Lw 17 2,
 Ll 18 (.bin .add (.t 17) (Acx 8)),
 Lw 2 18] [0,2]))
 (.skip)))
 (.seq (.region [Lw 19 2,
 Lw 20 0,
 Ll 21 (.conv .u8 (.t 20)),
 Ll 22 (.idx none .leaf (.c (.str (ByteArray.mk #[0,1,2,2,3,3,3,3,4,4,4,4,4,4,4,4,5,5,5,5,5,5,5,5,5,5,5,5,5,5,5,5,6,6,6,6,6,6,6,6,6,6,6,6,6,6,6,6,6,6,6,6,6,6,6,6,6,6,6,6,6,6,6,6,7,7,7,7,7,7,7,7,7,7,7,7,7,7,7,7,7,7,7,7,7,7,7,7,7,7,7,7,7,7,7,7,7,7,7,7,7,7,7,7,7,7,7,7,7,7,7,7,7,7,7,7,7,7,7,7,7,7,7,7,7,7,7,7,8,8,8,8,8,8,8,8,8,8,8,8,8,8,8,8,8,8,8,8,8,8,8,8,8,8,8,8,8,8,8,8,8,8,8,8,8,8,8,8,8,8,8,8,8,8,8,8,8,8,8,8,8,8,8,8,8,8,8,8,8,8,8,8,8,8,8,8,8,8,8,8,8,8,8,8,8,8,8,8,8,8,8,8,8,8,8,8,8,8,8,8,8,8,8,8,8,8,8,8,8,8,8,8,8,8,8,8,8,8,8,8,8,8,8,8,8,8,8,8,8,8,8,8,8,8,8,8]))) (.t 21)),
 Ll 23 (.conv .i64 (.t 22)),
 Ll 24 (.bin .add (.t 19) (.t 23)),
 Lw 2 24] [2])
 (.ret)))))
def Z1r:Fn:=
 { nparams:=1,nblk:=0,results:=[.tmp 2],body:=Z1r_B }
def Z1p_B:Cd:=
 .seq (.region [Ll 2 (.mv (Acx 0))] [0])
 (.seq (.cond (.c (.bool false))
 (.seq (.region [Lw 3 0,
 Ll 4 (.conv .u32 (.t 3)),
 Ll 5 (Ofx F1q [(.t 4)]),
 Lw 2 5] [2])
 (.ret))
 (.skip))
 (.seq (.region [Lw 6 0,
 Ll 7 (Ofx F1r [(.t 6)]),
 Lw 2 7] [2])
 (.ret)))
def Z1p:Fn:=
 { nparams:=1,nblk:=0,results:=[.tmp 2],body:=Z1p_B }
def Z29_L0:Cd:=
 .block 1 (.seq (.region [Lw 21 2,
 Lw 22 1,
 Ll 23 (.bin .sub (.t 21) (.t 22)),
 Lw 12 23] [0,1,2,3,4,10,11,12])
 (.seq (.seq (.region [Lw 24 12,
 Ll 25 (.bin .leq (.t 24) (Acx 12))] [0,1,2,3,4,10,11,12,25])
 (.cond (.t 25)
 (.seq (.region [Lw 26 0,
 Lw 27 1,
 Lw 28 2,
 Lw 29 4,
 Ll 30 (.call .heap [] (.f F21) [(.t 26),(.t 27),(.t 28),(.t 29)])] [])
 (.ret))
 (.skip)))
 (.seq (.seq (.region [Lw 31 3,
 Ll 32 (.bin .eql (.t 31) (Acx 0))] [0,1,2,3,4,10,11,12,32])
 (.cond (.t 32)
 (.seq (.region [Lw 33 0,
 Lw 34 1,
 Lw 35 2,
 Lw 36 4,
 Ll 37 (.call .heap [] (.f F20) [(.t 33),(.t 34),(.t 35),(.t 36)])] [])
 (.ret))
 (.skip)))
 (.seq (.seq (.region [Lw 38 10,
 Ll 39 (.un .not (.t 38))] [0,1,2,3,4,10,11,12,39])
 (.cond (.t 39)
 (.seq (.region [Lw 40 0,
 Lw 41 1,
 Lw 42 2,
 Lw 43 4,
 Ll 44 (.call .heap [] (.f F1y) [(.t 40),(.t 41),(.t 42),(.t 43)])] [0,1,2,3,4,10,11,12])
 (.region [Lw 45 3,
 Ll 46 (.bin .sub (.t 45) (Acx 1)),
 Lw 3 46] [0,1,2,3,4,10,11,12]))
 (.skip)))
 (.seq (.region [Lw 48 0,
 Lw 49 1,
 Lw 50 2,
 Lw 51 4,
 Ll 52 (Ofx F1z [(.t 48),(.t 49),(.t 50),(.t 51)]),
 Lw 47 52,
 Iex 53 47 0,
 Iex 54 47 1,
 Lw 13 53,
 Lw 14 54] [0,1,2,3,4,10,11,12,13,14])
 (.seq (.seq (.region [Lw 55 14,
 Ll 56 (.bin .eql (.t 55) (Acx 2))] [0,1,2,3,4,10,11,12,13,14,56])
 (.cond (.t 56)
 (.seq (.region [Lw 57 0,
 Lw 58 1,
 Lw 59 2,
 Lw 60 4,
 Ll 61 (.call .heap [] (.f F2a) [(.t 57),(.t 58),(.t 59),(.t 60)])] [0,1,2,3,4,10,11,12,13])
 (.seq (.region [Lw 62 2,
 Ll 63 (.bin .sub (.t 62) (Acx 1)),
 Lw 64 13,
 Lw 65 1,
 Ll 66 (.bin .sub (.t 64) (.t 65)),
 Ll 67 (.bin .sub (.t 63) (.t 66)),
 Lw 13 67] [0,1,2,3,4,10,11,12,13])
 (.region [Ll 14 (.mv (Acx 1))] [0,1,2,3,4,10,11,12,13,14])))
 (.skip)))
 (.seq (.seq (.region [Lw 68 10,
 Lw 69 68,
 Lx 70 11 69 true,
 Ll 71 (.pick (.t 69) (.t 70) (.c (.bool false))),
 Lw 72 71,
 Lx 73 14 72 true,
 Lg 74 (.bin .eql (.t 73) (Acx 1)) 72 true,
 Ll 75 (.pick (.t 72) (.t 74) (.c (.bool false)))] [0,1,2,3,4,10,11,12,13,75])
 (.cond (.t 75)
 (.seq (.region [Lw 76 0,
 Lw 77 1,
 Lw 78 2,
 Lw 79 4,
 Ll 80 (.call .heap [] (.f F26) [(.t 76),(.t 77),(.t 78),(.t 79)])] [0,1,2,3,4,10,11,12,13,80])
 (.cond (.t 80)
 (.ret)
 (.skip)))
 (.skip)))
 (.seq (.seq (.region [Lw 81 1,
 Ll 82 (.bin .gtr (.t 81) (Acx 0)),
 Lw 83 82,
 Lx 84 4 83 true,
 Lx 85 0 83 true,
 Lx 86 1 83 true,
 Lg 87 (.bin .sub (.t 86) (Acx 1)) 83 true,
 Lg 88 (.idxA none (.st [.leaf,.leaf]) (.t 85) (.t 87)) 83 true,
 Lg 89 (.load (.st [.leaf,.leaf]) (.t 88)) 83 true,
 Lx 90 0 83 true,
 Lx 91 13 83 true,
 Lg 92 (.idxA none (.st [.leaf,.leaf]) (.t 90) (.t 91)) 83 true,
 Lg 93 (.load (.st [.leaf,.leaf]) (.t 92)) 83 true,
 Lg 94 (.call .flat [] (.t 84) [(.t 89),(.t 93)]) 83 true,
 Lg 95 (.bin .lss (.t 94) (Acx 0)) 83 true,
 Lg 96 (.un .not (.t 95)) 83 true,
 Ll 97 (.pick (.t 83) (.t 96) (.c (.bool false)))] [0,1,2,3,4,10,11,12,13,97])
 (.cond (.t 97)
 (.seq (.region [Lw 98 0,
 Lw 99 1,
 Lw 100 2,
 Lw 101 13,
 Lw 102 4,
 Ll 103 (.call .heap [] (.f F28) [(.t 98),(.t 99),(.t 100),(.t 101),(.t 102)]),
 Lw 15 103] [0,2,3,4,10,11,15])
 (.seq (.region [Lw 104 15,
 Lw 1 104] [0,1,2,3,4,10,11])
 (.exit 1)))
 (.skip)))
 (.seq (.region [Lw 106 0,
 Lw 107 1,
 Lw 108 2,
 Lw 109 13,
 Lw 110 4,
 Ll 111 (.call .heap [] (.f F27) [(.t 106),(.t 107),(.t 108),(.t 109),(.t 110)]),
 Lw 105 111,
 Iex 112 105 0,
 Iex 113 105 1,
 Lw 16 112,
 Lw 17 113] [0,1,2,3,4,12,16,17])
 (.seq (.region [Lw 114 17,
 Lw 11 114] [0,1,2,3,4,11,12,16])
 (.seq (.region [Lw 115 16,
 Lw 116 1,
 Ll 117 (.bin .sub (.t 115) (.t 116)),
 Lw 118 2,
 Lw 119 16,
 Ll 120 (.bin .sub (.t 118) (.t 119)),
 Lw 18 117,
 Lw 19 120] [0,1,2,3,4,11,12,16,18,19])
 (.seq (.region [Lw 121 12,
 Ll 122 (.bin .quo (.t 121) (Acx 8)),
 Lw 20 122] [0,1,2,3,4,11,16,18,19,20])
 (.seq (.region [Lw 123 18,
 Lw 124 19,
 Ll 125 (.bin .lss (.t 123) (.t 124))] [0,1,2,3,4,11,16,18,19,20,125])
 (.cond (.t 125)
 (.seq (.region [Lw 126 18,
 Lw 127 20,
 Ll 128 (.bin .geq (.t 126) (.t 127)),
 Lw 10 128] [0,1,2,3,4,10,11,16])
 (.seq (.region [Lw 129 0,
 Lw 130 1,
 Lw 131 16,
 Lw 132 3,
 Lw 133 4,
 Ll 134 (.call .heap [] (.f F29) [(.t 129),(.t 130),(.t 131),(.t 132),(.t 133)])] [0,2,3,4,10,11,16])
 (.region [Lw 135 16,
 Ll 136 (.bin .add (.t 135) (Acx 1)),
 Lw 1 136] [0,1,2,3,4,10,11])))
 (.seq (.region [Lw 137 19,
 Lw 138 20,
 Ll 139 (.bin .geq (.t 137) (.t 138)),
 Lw 10 139] [0,1,2,3,4,10,11,16])
 (.seq (.region [Lw 140 0,
 Lw 141 16,
 Ll 142 (.bin .add (.t 141) (Acx 1)),
 Lw 143 2,
 Lw 144 3,
 Lw 145 4,
 Ll 146 (.call .heap [] (.f F29) [(.t 140),(.t 142),(.t 143),(.t 144),(.t 145)])] [0,1,3,4,10,11,16])
 (.region [Lw 147 16,
 Lw 2 147] [0,1,2,3,4,10,11])))))))))))))))))
def Z29_B:Cd:=
 .seq (.region [Ll 10 (.mv (.c (.bool true)))] [0,1,2,3,4,10])
 (.seq (.region [Ll 11 (.mv (.c (.bool true)))] [0,1,2,3,4,10,11])
 (.block 0 (.loop (Z29_L0))))
def Z29:Fn:=
 { nparams:=5,nblk:=0,results:=[],body:=Z29_B }
def Z1x_B:Cd:=
 .seq (.region [Lw 5 0,
 Ll 6 (.len false (.t 5)),
 Lw 4 6] [0,1,4])
 (.region [Lw 7 0,
 Lw 8 4,
 Lw 9 4,
 Ll 10 (.conv .u64 (.t 9)),
 Ll 11 (Ofx F1p [(.t 10)]),
 Lw 12 1,
 Ll 13 (.call .heap [] (.f F29) [(.t 7),(Acx 0),(.t 8),(.t 11),(.t 12)])] [])
def Z1x:Fn:=
 { nparams:=2,nblk:=0,results:=[],body:=Z1x_B }
def Z2_B:Cd:=
 .seq (.region [Ll 2 (.mv (.c (.bool false)))] [0])
 (.seq (.region [Lw 3 0,
 Lw 4 0,
 Ll 5 (.bin .neq (.t 3) (.t 4)),
 Lw 2 5] [2])
 (.ret))
def Z2:Fn:=
 { nparams:=1,nblk:=0,results:=[.tmp 2],body:=Z2_B }
def Z0_B:Cd:=
 .seq (.region [Ll 4 (.mv (Acx 0))] [0,1])
 (.seq (.region [Lw 7 0,
 Ll 8 (Ofx F2 [(.t 7)]),
 Lw 5 8] [0,1,5])
 (.seq (.region [Lw 9 1,
 Ll 10 (Ofx F2 [(.t 9)]),
 Lw 6 10] [0,1,5,6])
 (.seq (.seq (.region [Lw 11 5] [0,1,6,11])
 (.cond (.t 11)
 (.seq (.seq (.region [Lw 12 6] [12])
 (.cond (.t 12)
 (.seq (.region [Ll 4 (.mv (Acx 0))] [4])
 (.ret))
 (.skip)))
 (.seq (.region [Ll 4 (.mv (Acx (-1)))] [4])
 (.ret)))
 (.skip)))
 (.seq (.seq (.region [Lw 13 6] [0,1,13])
 (.cond (.t 13)
 (.seq (.region [Ll 4 (.mv (Acx 1))] [4])
 (.ret))
 (.skip)))
 (.seq (.seq (.region [Lw 14 0,
 Lw 15 1,
 Ll 16 (.bin .lss (.t 14) (.t 15))] [0,1,16])
 (.cond (.t 16)
 (.seq (.region [Ll 4 (.mv (Acx (-1)))] [4])
 (.ret))
 (.skip)))
 (.seq (.seq (.region [Lw 17 0,
 Lw 18 1,
 Ll 19 (.bin .gtr (.t 17) (.t 18))] [19])
 (.cond (.t 19)
 (.seq (.region [Ll 4 (.mv (Acx 1))] [4])
 (.ret))
 (.skip)))
 (.seq (.region [Ll 4 (.mv (Acx 0))] [4])
 (.ret))))))))
def Z0:Fn:=
 { nparams:=2,nblk:=0,results:=[.tmp 4],body:=Z0_B }
def Z3_B:Cd:=
 .seq (.region [Ll 2 (.mv (.c (.bool false)))] [0])
 (.seq (.region [Lw 3 0,
 Lw 4 0,
 Ll 5 (.bin .neq (.t 3) (.t 4)),
 Lw 2 5] [2])
 (.ret))
def Z3:Fn:=
 { nparams:=1,nblk:=0,results:=[.tmp 2],body:=Z3_B }
def Z1_B:Cd:=
 .seq (.region [Ll 4 (.mv (Acx 0))] [0,1])
 (.seq (.region [Lw 7 0,
 Ll 8 (Ofx F3 [(.t 7)]),
 Lw 5 8] [0,1,5])
 (.seq (.region [Lw 9 1,
 Ll 10 (Ofx F3 [(.t 9)]),
 Lw 6 10] [0,1,5,6])
 (.seq (.seq (.region [Lw 11 5] [0,1,6,11])
 (.cond (.t 11)
 (.seq (.seq (.region [Lw 12 6] [12])
 (.cond (.t 12)
 (.seq (.region [Ll 4 (.mv (Acx 0))] [4])
 (.ret))
 (.skip)))
 (.seq (.region [Ll 4 (.mv (Acx (-1)))] [4])
 (.ret)))
 (.skip)))
 (.seq (.seq (.region [Lw 13 6] [0,1,13])
 (.cond (.t 13)
 (.seq (.region [Ll 4 (.mv (Acx 1))] [4])
 (.ret))
 (.skip)))
 (.seq (.seq (.region [Lw 14 0,
 Lw 15 1,
 Ll 16 (.bin .lss (.t 14) (.t 15))] [0,1,16])
 (.cond (.t 16)
 (.seq (.region [Ll 4 (.mv (Acx (-1)))] [4])
 (.ret))
 (.skip)))
 (.seq (.seq (.region [Lw 17 0,
 Lw 18 1,
 Ll 19 (.bin .gtr (.t 17) (.t 18))] [19])
 (.cond (.t 19)
 (.seq (.region [Ll 4 (.mv (Acx 1))] [4])
 (.ret))
 (.skip)))
 (.seq (.region [Ll 4 (.mv (Acx 0))] [4])
 (.ret))))))))
def Z1:Fn:=
 { nparams:=2,nblk:=0,results:=[.tmp 4],body:=Z1_B }
end Pe

namespace Pe
open Go Gq
variable {T:Nat→Option Fn} {A:ah}
def ue (ds:List D):Prop:=∀x∈ds,x.isTup=false
theorem jr (h:Heap):∀{ds:List D},ue ds→ku h (ds.map .d)=some ds
 | [],_=>rfl
 | d::ds,hn=>by
  have h1:d.isTup=false:=hn d (by simp)
  have h2:=jr h (ds:=ds) fun x hx=>hn x (by simp [hx])
  simp [h1,h2]
theorem rh (h:Heap):∀{a b:List V} {x y:List D},ku h a=some x→ku h b=some y→ku h (a++b)=some (x++y)
 | [],b,x,y,h1,h2=>by simp at h1; subst h1; simpa using h2
 | v::a,b,x,y,h1,h2=>by
  simp only [Sd] at h1;obtain ⟨d,hd,h1⟩:=a5.1 h1;simp only [a48] at h1
  split at h1
  ·cases h1
  ·rename_i hn
   obtain ⟨z,hz,rfl⟩:=a9.1 h1;have:=rh h hz h2;simp [hd,hn,this]
theorem Bt {O:ah} {np:Nat} {h:Heap} {news:List Nat} {g:Nat} {first caps:List D} {x r:D} (h1:ue first) (h2:ue caps) (hx:x.isTup=false) (ha:ask O g (first++[x]++caps)=some r) (hr:r.flat=true) :
 za O np h .flat news (g,first.map .d,caps.map .d) [.d x]=some (.d r,h):=by
 have e:ku h (first.map .d++[.d x]++caps.map .d)=some (first++[x]++caps):=
  rh h (rh h (jr h h1) (jr h (ds:=[x]) (by intro y hy; simp at hy; subst hy; exact hx))) (jr h h2)
 rw [yh,e,aa,Cr,ha,aa,A3,hr,if_pos rfl]
def sc (P:D→Bool):List D→Nat→Int
 | [],_=>-1
 | d::ds,i=>if P d then i else sc P ds (i+1)
theorem Ik (P:D→Bool):∀(ds:List D) (i:Nat),(0≤sc P ds i)↔ds.any P=true
 | [],i=>by simp [sc]
 | d::ds,i=>by
  rw [sc];cases h:P d
  ·simp [h,Ik P ds (i+1)]
  ·simp [h]
def re (O:ah) (g:Nat) (first caps cs:List D) (P:D→Bool):Prop:=ue first∧ue caps∧ue cs∧∀x∈cs,ask O g (first++[x]++caps)=some (D.bool (P x))
def B6 (s:Sh) (cs:List D):Prop:=∀x∈cs,x.sh=s
theorem Jd {O:ah} {g:Nat} {first caps cs:List D} {P:D→Bool} (hF:re O g first caps cs P) (hs:B6 .leaf cs) (hl:cs.length<2000000):∀(m i:Nat),i+m=cs.length →
 dn O 0 (.loop Z1v_L0) ⟨[(0,.d (.sl .leaf cs)),(1,.d (.fn g first caps)),(7,(.d (.int .i64 cs.length))),(8,(.d (.int .i64 i)))],[]⟩ =
  if (cs.drop i).any P then some (.ret,⟨[(4,(.d (.int .i64 (sc P (cs.drop i) i))))],[]⟩) else some (.exit 0,⟨[(0,.d (.sl .leaf cs)),(1,.d (.fn g first caps)),(7,(.d (.int .i64 cs.length))),(8,(.d (.int .i64 cs.length))),(9,(.d (.bool false)))],[]⟩)
 | 0,i,hi=>by
  have:i=cs.length:=by omega
  subst this;rw [ol];exact bv (by simp -implicitDefEqProofs [Z1v_L0,ao])
 | m+1,i,hi=>by
  have hlt:i<cs.length:=by omega
  have h1:(i:Int)<cs.length:=by omega
  have hx:cs[i]? = some cs[i]:=ac hlt;have hm:cs[i]∈cs:=bm hlt;have hc:=Bt (O:=O) (np:=0) (h:=[]) (news:=[]) hF.1 hF.2.1 (hF.2.2.1 _ hm) (hF.2.2.2 _ hm) rfl;have hsh:=hs _ hm;have w4:IntKind.i64.wrap ((i:Int)+1)=((i+1:Nat):Int):=(w64 (x:=(i:Int)+1) (by omega)).trans (by omega)
  rw [c9 hlt];cases hp:P cs[i]
  ·rw [hp] at hc
   refine bq (s1:=⟨[(0,.d (.sl .leaf cs)),(1,.d (.fn g first caps)),(7,(.d (.int .i64 cs.length))),(8,(.d (.int .i64 ((i+1:Nat)))))],[]⟩) ?_ ?_
   ·simp -implicitDefEqProofs [Z1v_L0,ao,h1,hx,hsh,hc,w4]
   ·rw [Jd hF hs hl m (i+1) (by omega)]
    simp only [ox,hp,Bool.false_or,sc,aq,if_false]
  ·rw [hp] at hc
   have e:sc P (cs[i]::cs.drop (i+1)) i=i:=by simp [sc,hp]
   rw [e];simp only [ox,hp,Bool.true_or,if_true];exact oo (by simp -implicitDefEqProofs [Z1v_L0,ao,h1,hx,hsh,hc])
theorem Ma {O:ah} {g:Nat} {first caps cs:List D} {P:D→Bool} (hF:re O g first caps cs P) (hs:B6 (.arr 64 .leaf) cs) (hl:cs.length<2000000):∀(m i:Nat),i+m=cs.length →
 dn O 0 (.loop Z1w_L0) ⟨[(0,.d (.sl (.arr 64 .leaf) cs)),(1,.d (.fn g first caps)),(7,(.d (.int .i64 cs.length))),(8,(.d (.int .i64 i)))],[]⟩ =
  if (cs.drop i).any P then some (.ret,⟨[(4,(.d (.int .i64 (sc P (cs.drop i) i))))],[]⟩) else some (.exit 0,⟨[(0,.d (.sl (.arr 64 .leaf) cs)),(1,.d (.fn g first caps)),(7,(.d (.int .i64 cs.length))),(8,(.d (.int .i64 cs.length))),(9,(.d (.bool false)))],[]⟩)
 | 0,i,hi=>by
  have:i=cs.length:=by omega
  subst this;rw [ol];exact bv (by simp -implicitDefEqProofs [Z1w_L0,ao])
 | m+1,i,hi=>by
  have hlt:i<cs.length:=by omega
  have h1:(i:Int)<cs.length:=by omega
  have hx:cs[i]? = some cs[i]:=ac hlt;have hm:cs[i]∈cs:=bm hlt;have hc:=Bt (O:=O) (np:=0) (h:=[]) (news:=[]) hF.1 hF.2.1 (hF.2.2.1 _ hm) (hF.2.2.2 _ hm) rfl;have hsh:=hs _ hm;have w4:IntKind.i64.wrap ((i:Int)+1)=((i+1:Nat):Int):=(w64 (x:=(i:Int)+1) (by omega)).trans (by omega)
  rw [c9 hlt];cases hp:P cs[i]
  ·rw [hp] at hc
   refine bq (s1:=⟨[(0,.d (.sl (.arr 64 .leaf) cs)),(1,.d (.fn g first caps)),(7,(.d (.int .i64 cs.length))),(8,(.d (.int .i64 ((i+1:Nat)))))],[]⟩) ?_ ?_
   ·simp -implicitDefEqProofs [Z1w_L0,ao,h1,hx,hsh,hc,w4]
   ·rw [Ma hF hs hl m (i+1) (by omega)]
    simp only [ox,hp,Bool.false_or,sc,aq,if_false]
  ·rw [hp] at hc
   have e:sc P (cs[i]::cs.drop (i+1)) i=i:=by simp [sc,hp]
   rw [e];simp only [ox,hp,Bool.true_or,if_true];exact oo (by simp -implicitDefEqProofs [Z1w_L0,ao,h1,hx,hsh,hc])
def q9 (O:ah) (F:Nat) (s:Sh):Prop:=∀(g:Nat) (first caps cs:List D) (P:D→Bool),re O g first caps cs P→B6 s cs→cs.length<2000000 →
 ask O F [.sl s cs,.fn g first caps]=some (D.int .i64 (sc P cs 0))
theorem V8 (hT:T F1v=some Z1v):q9 (den T A) F1v .leaf:=by
 intro g first caps cs P hF hs hl;have h:=Jd hF hs hl cs.length 0 (bi _);rw [fb] at h;have e0:((0:Nat):Int)=0:=rfl;rw [e0] at h;refine bu hT rfl ?_
 by_cases ha:cs.any P=true
 ·rw [if_pos ha] at h
  simp -implicitDefEqProofs [Z1v,Z1v_B,h]
 ·rw [if_neg ha] at h
  have hn:sc P cs 0=-1:=by
   have hi:∀(ds:List D) (i:Nat),ds.any P=false→sc P ds i=-1:=by
    intro ds
    induction ds with
    | nil=>intro i _; rfl
    | cons d ds ih=>intro i hd; simp at hd; rw [sc,hd.1]; simpa using ih (i+1) (by simpa using hd.2)
   exact hi cs 0 (by simpa using ha)
  simp -implicitDefEqProofs [Z1v,Z1v_B,h,hn]
theorem Xg (hT:T F1w=some Z1w):q9 (den T A) F1w (.arr 64 .leaf):=by
 intro g first caps cs P hF hs hl;have h:=Ma hF hs hl cs.length 0 (bi _);rw [fb] at h;have e0:((0:Nat):Int)=0:=rfl;rw [e0] at h;refine bu hT rfl ?_
 by_cases ha:cs.any P=true
 ·rw [if_pos ha] at h
  simp -implicitDefEqProofs [Z1w,Z1w_B,h]
 ·rw [if_neg ha] at h
  have hn:sc P cs 0=-1:=by
   have hi:∀(ds:List D) (i:Nat),ds.any P=false→sc P ds i=-1:=by
    intro ds
    induction ds with
    | nil=>intro i _; rfl
    | cons d ds ih=>intro i hd; simp at hd; rw [sc,hd.1]; simpa using ih (i+1) (by simpa using hd.2)
   exact hi cs 0 (by simpa using ha)
  simp -implicitDefEqProofs [Z1w,Z1w_B,h,hn]
def vw (O:ah) (F:Nat) (s:Sh):Prop:=∀(g:Nat) (first caps cs:List D) (P:D→Bool),re O g first caps cs P→B6 s cs→cs.length<2000000 →
 ask O F [.sl s cs,.fn g first caps]=some (D.bool (cs.any P))
theorem Lh (hT:T F1t=some Z1t) (hi:q9 (den T A) F1v .leaf):vw (den T A) F1t .leaf:=by
 intro g first caps cs P hF hs hl;have h:=hi g first caps cs P hF hs hl;have e:decide (0≤sc P cs 0)=cs.any P:=by rw [Bool.eq_iff_iff]; simpa using Ik P cs 0
 refine bu hT rfl ?_;simp -implicitDefEqProofs [Z1t,Z1t_B,h,e]
theorem Ju (hT:T F1u=some Z1u) (hi:q9 (den T A) F1w (.arr 64 .leaf)):vw (den T A) F1u (.arr 64 .leaf):=by
 intro g first caps cs P hF hs hl;have h:=hi g first caps cs P hF hs hl;have e:decide (0≤sc P cs 0)=cs.any P:=by rw [Bool.eq_iff_iff]; simpa using Ik P cs 0
 refine bu hT rfl ?_;simp -implicitDefEqProofs [Z1u,Z1u_B,h,e]
end Pe

namespace Pe
open Go Gq
variable {T:Nat→Option Fn} {A:ah}
def D.num:D→Int
 | .int _ n=>n
 | _=>0
def i5 (l:List Int):Prop:=∀x∈l,0≤x∧x<256
abbrev ee (l:List Int):D:=(D.arr 64 .leaf (am .u8 l))
def x9 (O:ah) (F:Nat) (s:Sh):Prop:=∀(g:Nat) (first caps cs:List D) (P:D→Bool),re O g first caps cs P→B6 s cs→cs.length<2000000 →
 ask O F [.sl s cs,.fn g first caps]=some (D.bool (cs.all P))
theorem Rj (P:D→Bool) (cs:List D):(!cs.any fun x=>!P x)=cs.all P:=by
 induction cs with
 | nil=>rfl
 | cons c cs ih=>simp [←ih]
theorem a3p {g:Nat} {first caps cs:List D} {P:D→Bool} (hT:T F8=some Z8) (hF:re (den T A) g first caps cs P):re (den T A) F8 [] [.ip (.fn g first caps)] cs fun x=>!P x:=by
 refine ⟨fun x hx=>by simp at hx,fun x hx=>by simp at hx; subst hx; rfl,hF.2.2.1,fun x hx=>?_⟩
 have hc:=Bt (O:=den T A) (np:=0) (h:=[]) (news:=[]) hF.1 hF.2.1 (hF.2.2.1 _ hx) (hF.2.2.2 _ hx) rfl;refine bu hT rfl ?_;simp -implicitDefEqProofs [Z8,Z8_B,hc]
theorem S2 (hT:T F7=some Z7) (hT1:T F8=some Z8) (hc:vw (den T A) F1t .leaf):x9 (den T A) F7 .leaf:=by
 intro g first caps cs P hF hs hl;have e:=hc _ _ _ _ _ (a3p hT1 hF) hs hl;have e2:=Rj P cs;have t1:=jr [.box false (.fn g first caps)] hF.1;have t2:=jr [.box false (.fn g first caps)] hF.2.1;rw [←e2];generalize (cs.any fun x=>!P x)=r at *
 refine bu hT rfl ?_;simp -implicitDefEqProofs [Z7,Z7_B,e]
theorem a4a {g:Nat} {first caps cs:List D} {P:D→Bool} (hT:T Fa=some Za) (hs:B6 (.arr 64 .leaf) cs) (hF:re (den T A) g first caps cs P):re (den T A) Fa [] [.ip (.fn g first caps)] cs fun x=>!P x:=by
 refine ⟨fun x hx=>by simp at hx,fun x hx=>by simp at hx; subst hx; rfl,hF.2.2.1,fun x hx=>?_⟩
 have hc:=Bt (O:=den T A) (np:=0) (h:=[.box false x]) (news:=[]) hF.1 hF.2.1 (hF.2.2.1 _ hx) (hF.2.2.2 _ hx) rfl;have h1:=hF.2.2.1 _ hx;have h2:=hs _ hx;refine bu hT rfl ?_;simp -implicitDefEqProofs [Za,Za_B,hc,h1,h2]
theorem Tw (hT:T F9=some Z9) (hT1:T Fa=some Za) (hc:vw (den T A) F1u (.arr 64 .leaf)):x9 (den T A) F9 (.arr 64 .leaf):=by
 intro g first caps cs P hF hs hl;have e:=hc _ _ _ _ _ (a4a hT1 hs hF) hs hl;have e2:=Rj P cs;rw [←e2];generalize (cs.any fun x=>!P x)=r at *
 refine bu hT rfl ?_;simp -implicitDefEqProofs [Z9,Z9_B,e]
def rl (p:Int) (l:List Int):Bool:=l.all fun x=>decide (x<p)
def yw (O:ah):Prop:=∀(p:Int) (l:List Int),i5 l→l.length=64→ask O Fk [(D.int .i64 p),(D.arr 64 .leaf (am .u8 l))]=some (D.bool (rl p l))
theorem V7 (p:Int) (l:List Int):((am .u8 l).all fun x=>decide (x.num<p))=rl p l:=by
 unfold am rl;rw [List.all_map];rfl
theorem Vj (hT:T Fk=some Zk) (hT1:T Fl=some Zl) (ha:x9 (den T A) F7 .leaf):yw (den T A):=by
 intro p l hb hl
 have hF:re (den T A) Fl [] [.ip (D.int .i64 p)] (am .u8 l) fun x=>decide (x.num<p):=by
  refine ⟨fun x hx=>by simp at hx,fun x hx=>by simp at hx; subst hx; rfl,fun x hx=>?_,fun x hx=>?_⟩
  ·obtain ⟨n,_,rfl⟩:=cg.1 hx; rfl
  ·obtain ⟨n,hn,rfl⟩:=cg.1 hx
   have h1:=hb n hn;have w1:IntKind.i64.wrap n=n:=w64 (by omega)
   refine bu hT1 rfl ?_;simp -implicitDefEqProofs [Zl,Zl_B,w1,D.num];exact decide_eq_decide.2 nj
 have e:=ha _ _ _ _ _ hF (fun x hx=>by obtain ⟨n,_,rfl⟩:=cg.1 hx; rfl) (by simp [hl])
 rw [V7] at e;have ht:l.take 64=l:=b5 (by omega)
 refine bu hT rfl ?_;simp -implicitDefEqProofs [Zk,Zk_B,e,hl,ht]
def Ve (p:Int) (ls:List (List Int)):Int:=if isP p∧ls.all (rl p) then 0 else 1
def Bp (ls:List (List Int)):Prop:=∀l∈ls,l.length=64∧i5 l
def D.nums:D→List Int
 | .arr _ _ cs=>cs.map D.num
 | _=>[]
theorem Eu (l:List Int):(ee l).nums=l:=by
 simp only [D.nums,am,kz];have:(D.num ∘ D.int .u8)=id:=rfl;rw [this,List.map_id]
end Pe

namespace Pe
open Go
abbrev tyN:Ty:=.int .i64
abbrev tyP:Ty:=.arr 64 (.int .u8)
theorem a66 {d:D} (h:tyN.has d):∃n:Int,d=(D.int .i64 n)∧-9223372036854775808≤n∧n≤9223372036854775807:=by
 cases d <;> simp only [Ty.has] at h
 obtain ⟨rfl,h⟩:=h;exact ⟨_,rfl,bounds_i64 h⟩
theorem Gb:∀(xs:List D),(∀x∈xs,(Ty.int .u8).has x)→∃l:List Int,xs=am .u8 l∧i5 l
 | [],_=>⟨[],rfl,fun _ h=>by cases h⟩
 | x::xs,h=>by
  obtain ⟨l,rfl,hb⟩:=Gb xs fun y hy=>h y (pc _ hy)
  have h1:=h x (by simp)
  cases x <;> simp only [Ty.has] at h1
  obtain ⟨rfl,h1⟩:=h1;refine ⟨_::l,rfl,fun y hy=>?_⟩
  rcases d9.1 hy with rfl | hy
  ·have:=bounds_u8 h1; omega
  ·exact hb y hy
theorem a1w {d:D} (h:tyP.has d):∃l:List Int,d=(D.arr 64 .leaf (am .u8 l))∧i5 l∧l.length=64:=by
 cases d <;> simp only [Ty.has] at h
 obtain ⟨rfl,rfl,h1,h2⟩:=h;obtain ⟨l,rfl,hb⟩:=Gb _ h2;exact ⟨l,rfl,hb,by simpa [am] using h1⟩
theorem P9 {xs:List D} (h:Ty.hasAll [] xs):xs=[]:=by
 cases xs <;> simp only [Ty.hasAll] at h; rfl
theorem uw {T:Ty} {Ts:List Ty} {xs:List D} (h:Ty.hasAll (T::Ts) xs):∃x r,xs=x::r∧T.has x∧Ty.hasAll Ts r:=by
 cases xs <;> simp only [Ty.hasAll] at h; exact ⟨_,_,rfl,h⟩
def dj (P:Program) (num:Nat→Nat) (g:Nat) (fn:Fn):Bool:=match P.funcs[g]? with
 | some x=>Bm P num fn x
 | none=>false
def a25 (P:Program) (num:Nat→Nat):List (Nat×Fn)→Prop
 | []=>True
 | e::r=>dj P num (num e.1) e.2=true∧a25 P num r
theorem Et {P:Program} {num:Nat→Nat}:∀{l:List (Nat×Fn)},a25 P num l→∀f fn,l.lookup f=some fn→∃g,P.funcs[num f]? = some g∧Bm P num fn g=true
 | [],_,f,fn,h=>by cases h
 | (a,b)::r,⟨h1,h2⟩,f,fn,h=>by
  rw [List.lookup_cons] at h
  split at h
  ·rename_i e
   obtain rfl:=al h;have:f=a:=by simpa using e
   subst this;unfold dj at h1
   split at h1
   ·rename_i g hg; exact ⟨g,hg,h1⟩
   ·cases h1
  ·exact Et h2 f fn h
end Pe

namespace Pe
open Go
variable {P:Program} {num:Nat→Nat}
theorem O9 {C:Cx} {φ:Loc} {s:St} {a:Act} {ops:Array Oper} {N np:Nat} {o:Oper} {j d:Nat} {v:V} {K:Act→World→Prop} {Q:Exit→Act→World→Prop}
 (hs:SR C φ s a.tmps) (hN:N≤a.tmps.size) (hd:o.dst=some d) (hdN:d<N) (hg:o.guard=none) (hj:ops[j]? = some o) (hop:OpWp P o a C φ s.h v s.h (fun _=>False))
 (hK:∀C' φ' u,Runs np C C' φ φ' s.h s.h→SR C' φ' ⟨(d,v)::s.e,s.h⟩ (a.put o.dst u).tmps→K (a.put o.dst u) C'.w):wpOp P ops Q j K a C.w:=by
 have hw:Region.wanted o (yielded ops a.tmps)=true:=by unfold Region.wanted; rw [hg]
 unfold wpOp;simp only [hj];rw [hw,if_pos rfl];left;refine hop K Q fun C' φ' u st hx k=>hK C' φ' u ⟨st,k.mono fun _ h=>h.elim⟩ ⟨st.hr,st.bd,fun n w hn=>?_⟩
 simp only [Env.get] at hn;rw [hd,Id (jn hdN hN)]
 by_cases hdn:d=n
 ·subst hdn
  simp only [if_true,a8] at hn;subst hn;refine ⟨u,if_pos rfl,?_⟩;rcases hx with hx | hx
  ·rw [hd] at hx; cases hx
  ·exact hx
 ·rw [if_neg hdn] at hn
  rw [if_neg (eh hdn)];obtain ⟨u0,h1,h2⟩:=hs.env n w hn;exact ⟨u0,h1,k w u0 (fun _ _ h=>h.elim) h2⟩
theorem Uy {C:Cx} {φ:Loc} {s:St} {a:Act} {o:Oper} (hs:SR C φ s a.tmps) {x:Arg} {x' y':Operand} {t yt e:TypeId} (ho:o.op=.binOp .eql t x' y' yt) (hx:c5 C.num x x'=true) (ht:P.underlying t=some (.slice e)) (hy:a.eval y'=.slice none 0 0)
 {sh:Sh} {cs:List D} (hv:s.e.arg x=some (.d (.sl sh cs))):∃b,OpGood P o a C φ s.h (.d (.bool b)) s.h (fun _=>False):=by
 obtain ⟨ad,c,e1,_,_⟩:=Gf (bg hs hx hv);refine ⟨decide (ad=none),bt hs (u:=.bool (decide (ad=none))) ?_ (fy ..)⟩
 have hq:(Go.Op.equal t (.slice ad cs.length c) (.slice none 0 0)).run P C.w=.ok (decide (ad=none)) C.w:=by
  show (Go.Op.equalIn (9999+1) t (.slice ad cs.length c) (.slice none 0 0)).run P C.w=.ok (decide (ad=none)) C.w;generalize 9999=d;cases ad <;> simp [Go.Op.equalIn,Sem.run_bind,run_underlying ht,Result.andThen_ok,Sem.run_pure]
 have hb:binOp .eql t (.slice ad cs.length c) (.slice none 0 0)=(do pure (.bool (←Go.Op.equal t (.slice ad cs.length c) (.slice none 0 0)))):=rfl;simp [execOp,ho,e1,hy,eqGuard,hb,hq]
theorem Tt {x:Arg} {o:Oper} (h:Sl P num (.nilq false x) o=true):∃t x' y' yt e,o.op=.binOp .eql t x' y' yt∧c5 num x x'=true∧k9 y'=true∧P.underlying t=some (.slice e):=by
 cases hq:o.op with
 | binOp op t x' y' yt=>
  simp only [Sl,hq,af,decide_eq_true_eq] at h;obtain ⟨⟨⟨h3,h4⟩,h5⟩,h6⟩:=h
  split at h6
  ·rename_i e he
   exact ⟨t,x',y',yt,e,by rw [h3]; rfl,h4,h5,he⟩
  ·cases h6
 | _=>simp only [Sl,hq,aq] at h
def Hf (s:Sh) (z:D) (bytes:Nat):Cd:=
 .seq (.region [⟨some 2,.nilOwn 0 s,none,[]⟩] [0])
 (.seq (.seq (.region [⟨some 3,.mv (.t 0),none,[]⟩,
  ⟨some 4,.nilq false (.t 3),none,[]⟩] [0,4])
  (.cond (.t 4)
   (.seq (.region [⟨some 2,.nilOwn 2 s,none,[]⟩] [2])
    (.ret))
   (.skip)))
  (.seq (.region [⟨some 5,.buildSl false 2 s z 0 [],none,[]⟩,
   ⟨some 6,.mv (.t 0),none,[]⟩,
   ⟨some 7,.append s 3 bytes (.t 5) (.t 6),none,[]⟩,
   ⟨some 2,.mv (.t 7),none,[]⟩] [2])
   (.ret)))
def ro (s:Sh) (z:D) (bytes:Nat):Fn:={ nparams:=1,nblk:=4,results:=[.tmp 2],body:=Hf s z bytes }
def od:Code→Bool
 | .seq _ (.seq (.seq (.region _ _ false) _) _)=>true
 | _=>false
theorem xv {N:Nat} {a b:Cd} {x:Code} (h:g8 P num N (.seq a b) x=true):∃y z,x=.seq y z∧g8 P num N a y=true∧g8 P num N b z=true:=by
 cases x <;> simp only [g8,aq,af] at h
 exact ⟨_,_,rfl,h⟩
def sm (s:Sh):St:=⟨[(2,.sl 2 [] 0 0 none)],[.hole,.hole,.sl false s [],.hole]⟩
theorem Qg:jk P num (fun _ _ _=>none):=fun f vs bs ans h=>by cases h
theorem Lr {s:Sh} {z:D} {bytes N:Nat} (hm:P.follows .mixedOrders=true) {x:Code} (hok:g8 P num N (Hf s z bytes) x=true) (hshape:od x=true) (hbeq:Sh.beq s s=true)
 (C:Cx) (φ:Loc) (a:Act) (hC:C.num=num) (hs:SR C φ ⟨params 0 [.d (.sl s [])],[]++List.replicate 4 .hole⟩ a.tmps) (hN:N≤a.tmps.size)
 (Q:Exit→Act→World→Prop) (hQ:Ys num 0 Q .ret C φ ([]++List.replicate 4 .hole) (sm s) a):x.wp P Q a C.w:=by
 obtain ⟨x1,x2,rfl,ok1,ok2⟩:=xv hok;obtain ⟨x3,x4,rfl,ok3,ok4⟩:=xv ok2;obtain ⟨x5,x6,rfl,ok5,ok6⟩:=xv ok3;have nc:jk P num (fun _ _ _=>none):=Qg
 -- ahead
 refine wp_seq (qe (O:=fun _ _ _=>none) (np:=0) (N:=N) nc hm 1 _ _ ok1 C φ _ ⟨[(0,.d (.sl s []))],[.hole,.hole,.hole,.hole]⟩ a .normal hC hs hN rfl _ ?_)
 intro C1 φ1 a1 k1 r1 hs1 z1 d1;refine wp_seq (wp_seq ?_)
 -- the question
 cases x5 <;> simp only [g8,aq,af] at ok5
 rename_i id ops draw
 cases draw with
 | true=>simp [od] at hshape
 | false=>
 have hops:=ok5.1;obtain ⟨hl,hget⟩:=qq hops;have hl2:ops.size=2:=by simpa using hl.symm
 have g0:ops.toList[0]? = some ops[0]:=by simp [hl2]
 have g1:ops.toList[1]? = some ops[1]:=by simp [hl2]
 have i0:=hget 0 _ _ rfl g0;have i1:=hget 1 _ _ rfl g1;have N1:N≤a1.tmps.size:=by rw [z1]; exact hN
 refine wp_region ?_;rw [hl2];show wpOps P ops _ [0,1] a1 C1.w;rw [wpOps_cons];refine A6 (O:=fun _ _ _=>none) (np:=0) (k1▸nc) hs1 N1 (k1▸i0) (by simp) (s':=⟨[(3,.d (.sl s [])),(0,.d (.sl s []))],[.hole,.hole,.hole,.hole]⟩) rfl fun C2 φ2 u2 rn2 hs2=>?_
 have k2:C2.num=num:=rn2.st.le.num.trans k1;rw [wpOps_cons];unfold Gy at i1;simp only [af,decide_eq_true_eq] at i1;obtain ⟨⟨⟨hdst,hdN⟩,hop⟩,hguard⟩:=i1;have hdst':ops[1].dst=some 4:=hdst.symm;have hdN':4<N:=by simpa [hdst'] using hdN
 have hg:ops[1].guard=none:=by
  cases hq:ops[1].guard with
  | none=>rfl
  | some q=>rw [hq] at hguard; simp at hguard
 have N2:N≤(a1.put ops[0].dst u2).tmps.size:=by rw [p8]; exact N1
 have key:∃b,OpGood P ops[1] (a1.put ops[0].dst u2) C2 φ2 [.hole,.hole,.hole,.hole] (.d (.bool b)) [.hole,.hole,.hole,.hole] (fun _=>False):=by
  obtain ⟨t,x',y',yt,e,h1,h2,h3,h4⟩:=Tt hop;refine Uy hs2 h1 (k2▸h2) h4 ?_ (x:=.t 3) (sh:=s) (cs:=[]) rfl;unfold k9 at h3
  split at h3
  ·rfl
  ·cases h3
 obtain ⟨b,key⟩:=key;refine O9 (np:=0) hs2 N2 hdst' hdN' hg (by simp) key.wp fun C3 φ3 u3 rn3 hs3=>?_
 have k3:C3.num=num:=rn3.st.le.num.trans k2;show (Exit.then _ _) .normal _ _;obtain ⟨rn4,hs4⟩:=Du 0 hs3 [0,4];have N4:N≤((a1.put ops[0].dst u2).put ops[1].dst u3).tmps.size:=by rw [p8]; exact N2
 have d4:((a1.put ops[0].dst u2).put ops[1].dst u3).defers=a.defers:=by
  rw [←d1];cases ops[0].dst <;> cases ops[1].dst <;> rfl
 have z4:((a1.put ops[0].dst u2).put ops[1].dst u3).tmps.size=a.tmps.size:=by rw [p8,p8,z1]
 have back:Runs 0 C C3 φ φ3 ([]++List.replicate 4 .hole) [.hole,.hole,.hole,.hole]:=(r1.trans (rn2.trans rn3)).trans rn4;generalize ((a1.put ops[0].dst u2).put ops[1].dst u3)=a3 at *;have hs5:SR C3 φ3 ⟨[(0,.d (.sl s [])),(4,.d (.bool b))],[.hole,.hole,.hole,.hole]⟩ a3.tmps:=hs4;cases b with
 | true=>
  have ev:cx (fun _ _ _=>none) 0 1 (.cond (.t 4) (.seq (.region [⟨some 2,.nilOwn 2 s,none,[]⟩] [2]) (.ret)) (.skip)) ⟨[(0,.d (.sl s [])),(4,.d (.bool true))],[.hole,.hole,.hole,.hole]⟩=some (.ret,⟨[(2,.sl 2 [] 0 0 (some 0))],[.hole,.hole,.sl false s [],.hole]⟩):=rfl
  refine qe (O:=fun _ _ _=>none) (np:=0) (N:=N) nc hm 1 _ _ ok6 C3 φ3 _ _ a3 .ret k3 hs5 N4 ev _ ?_
  intro C6 φ6 a6 k6 r6 hs6 z6 d6;refine hQ C6 φ6 a6 k6 (back.trans r6) ⟨hs6.hr,hs6.bd,fun n v hn=>?_⟩ (z6.trans z4) (d6.trans d4)
  simp only [sm,Env.get] at hn
  split at hn
  ·rename_i h2
   subst h2;obtain rfl:=al hn;obtain ⟨u,h5,h6⟩:=hs6.env 2 (.sl 2 [] 0 0 (some 0)) rfl;refine ⟨u,h5,?_⟩;simp only [RX] at h6 ⊢;obtain ⟨B,base,sh,m,ad,c,e1,e2,e3,e4,e5,e6,e7⟩:=h6;exact ⟨B,base,sh,m,ad,c,e1,e2,e3,e4,e5,(fun k hk=>by cases hk),e7⟩
  ·cases hn
 | false=>
  have ev:cx (fun _ _ _=>none) 0 1 (.cond (.t 4) (.seq (.region [⟨some 2,.nilOwn 2 s,none,[]⟩] [2]) (.ret)) (.skip)) ⟨[(0,.d (.sl s [])),(4,.d (.bool false))],[.hole,.hole,.hole,.hole]⟩=some (.normal,⟨[(0,.d (.sl s [])),(4,.d (.bool false))],[.hole,.hole,.hole,.hole]⟩):=rfl
  refine qe (O:=fun _ _ _=>none) (np:=0) (N:=N) nc hm 1 _ _ ok6 C3 φ3 _ _ a3 .normal k3 hs5 N4 ev _ ?_
  intro C6 φ6 a6 k6 r6 hs6 z6 d6
  have ev2:cx (fun _ _ _=>none) 0 1 (.seq (.region [⟨some 5,.buildSl false 2 s z 0 [],none,[]⟩,⟨some 6,.mv (.t 0),none,[]⟩,⟨some 7,.append s 3 bytes (.t 5) (.t 6),none,[]⟩,⟨some 2,.mv (.t 7),none,[]⟩] [2]) (.ret)) ⟨[(0,.d (.sl s [])),(4,.d (.bool false))],[.hole,.hole,.hole,.hole]⟩=some (.ret,sm s):=by
   simp [cx,ew,n6,ji,Ins.side,Ins.on,ap,fw,mn,freezeIf,dl,ek,Env.arg,Env.get,Env.putO,Env.kill,Op.kill,toE,hbeq,Env.keep,pb,Env.refd,V.refs,sm,Env.clear]
  refine qe (O:=fun _ _ _=>none) (np:=0) (N:=N) nc hm 1 _ _ ok4 C6 φ6 _ _ a6 .ret k6 hs6 (by rw [z6]; exact N4) ev2 _ ?_
  intro C7 φ7 a7 k7 r7 hs7 z7 d7;exact hQ C7 φ7 a7 k7 ((back.trans r6).trans r7) hs7 (z7.trans (z6.trans z4)) (d7.trans (d6.trans d4))
theorem M6 {s:Sh} {z:D} {bytes:Nat} (hm:P.follows .mixedOrders=true) {f:Nat} {g:Func} (hg:P.funcs[num f]? = some g) (hok:Bm P num (ro s z bytes) g=true) (hshape:(match g.body with | some x=>od x | none=>false)=true) (hbeq:Sh.beq s s=true)
 {cs:List D} (hl:cs.length*bytes≤1099511627776) {C:Cx} {φ:Loc} {us:List Value} (hC:C.num=num) (hr:HR C φ []) (hb:∀b,C.I b→b<C.w.heap.size) (hv:RXs C φ [] [.d (.sl s cs)] us) :
 O7 P (num f) us C φ [] [.sl false s cs] (.sl 0 [] 0 cs.length none):=by
 cases cs with
 | cons c cs=>
  have hl':(cs.length+1)*bytes≤1099511627776:=hl
  have hrun:run (fun _ _ _=>none) 1 (ro s z bytes) [.d (.sl s (c::cs))] []=some (.sl 0 [] 0 (c::cs).length none,[],[.sl false s (c::cs)]):=by
   simp [hl',run,ro,Hf,cx,ew,n6,ji,Ins.side,Ins.on,ap,fw,mn,freezeIf,dl,ek,Env.arg,Env.get,Env.putO,Env.kill,Op.kill,toE,hbeq,Env.keep,pb,Env.refd,V.refs,Env.clear,params,ub,O0,iw,ph,Heap.pick,V.ren,List.idxOf,List.findIdx,List.findIdx.go]
  exact (Gm Qg hm hg hok hrun hC hr hb hv).2
 | nil=>
  unfold Bm at hok;simp only [af,bne_iff_ne,ne_eq,decide_eq_true_eq] at hok;obtain ⟨⟨⟨hname,hnp⟩,hres⟩,hbody⟩:=hok;cases hcode:g.body with
  | none=>rw [hcode] at hbody; cases hbody
  | some code=>
   rw [hcode] at hbody hshape;simp only at hbody hshape;refine (Uk (ro s z bytes) hg hname hnp hres hcode (vs:=[.d (.sl s [])]) (bs:=[]) (ans:=(.sl 0 [] 0 0 none,[],[.sl false s []])) .ret (sm s) rfl ?_ (fun C φ a hC hs hN Q hQ=>Lr hm hbody hshape hbeq C φ a hC hs hN Q hQ) hC hr hb hv).2
   simp [ro,sm,ub,O0,Env.get,iw,ph,V.refs,Heap.pick,V.ren,List.idxOf,List.findIdx,List.findIdx.go]
def Am (ids:Nat→Option (Sh×D×Nat)):ah:=fun f vs bs=>
 match ids f with
 | some (s,_,bytes)=>match vs with
  | [.d (.sl t cs)]=>match bs with
   | []=>if Sh.beq t s=true∧cs.length*bytes≤1099511627776 then some (.sl 0 [] 0 cs.length none,[],[.sl false t cs]) else none
   | _=>none
  | _=>none
 | none=>none
theorem T8 {ids:Nat→Option (Sh×D×Nat)} {f:Nat} {s:Sh} {z:D} {bytes:Nat} {cs:List D} (h1:ids f=some (s,z,bytes)) (h0:Sh.beq s s=true) (h2:cs.length*bytes≤1099511627776) :
 Am ids f [.d (.sl s cs)] []=some (.sl 0 [] 0 cs.length none,[],[.sl false s cs]):=by
 simp [Am,h1,h0,h2]
theorem Iz {ids:Nat→Option (Sh×D×Nat)} (hm:P.follows .mixedOrders=true)
 (hids:∀f s z bytes,ids f=some (s,z,bytes)→Sh.beq s s=true∧∃g,P.funcs[num f]? = some g∧Bm P num (ro s z bytes) g=true∧(match g.body with | some x=>od x | none=>false)=true):jk P num (Am ids):=by
 intro f vs bs ans h C φ us hC hr hb hv;unfold Am at h
 split at h
 ·rename_i s z bytes hi
  split at h
  ·rename_i t cs
   split at h
   ·split at h
    ·rename_i hc
     obtain rfl:=al h;obtain ⟨hbeq,g,hg,hok,hshape⟩:=hids f s z bytes hi;obtain rfl:=Sh.beq_eq _ _ hc.1;exact ⟨rfl,M6 hm hg hok hshape hbeq hc.2 hC hr hb hv⟩
    ·cases h
   ·cases h
  ·cases h
 ·cases h
end Pe

/-
 Functions of the laws in the small form,printed by a program.
-/
namespace Pe
open Go
def Z1n_L0:Cd:=
 .seq (.seq (.region [Lw 5 4,
 Ll 6 (.bin .lss (.t 5) (Acx 64))] [1,2,3,4,6])
 (.cond (.t 6)
 (.skip)
 (.exit 0)))
 (.seq (.block 1 (.region [Lw 9 4,
 Lw 10 4,
 Ll 11 (.idxA (some 64) .leaf (.t 1) (.t 10)),
 Ilx 12 11,
 Ll 13 (.idxA (some 64) .leaf (.t 3) (.t 9)),
 Ls (.store false .leaf (.t 13) (.t 12))] [1,2,3,4]))
 (.region [Lw 7 4,
 Ll 8 (.bin .add (.t 7) (Acx 1)),
 Lw 4 8] [1,2,3,4]))
def Z1n_B:Cd:=
 .seq (.region [Ll 1 (.box false 0 (.t 0)),
 Ll 2 (.box false 1 (.c (.arr 64 .leaf z64)))] [1,2])
 (.seq (.region [Ll 3 (.box false 2 (.c (.arr 64 .leaf z64)))] [1,2,3])
 (.seq (.seq (.region [Ll 4 (.mv (Acx 0))] [1,2,3,4])
 (.block 0 (.loop (Z1n_L0))))
 (.seq (.region [Ipx 14 3,
 Ls (.store false Sx6 (.t 2) (.t 14))] [2])
 (.ret))))
def Z1n:Fn:=
 { nparams:=1,nblk:=3,results:=[.cell 2 Sx6],body:=Z1n_B }
end Pe

/-
 Functions of the laws in the small form,printed by a program.
-/
namespace Pe
open Go
def Z1k_L0:Cd:=
 .seq (.seq (.region [Lw 6 5,
 Ll 7 (.bin .lss (.t 6) (Acx 64))] [2,3,5,7])
 (.cond (.t 7)
 (.skip)
 (.exit 0)))
 (.seq (.block 1 (.seq (.region [Lw 10 5,
 Ll 11 (.idxA (some 64) .leaf (.t 2) (.t 10)),
 Ilx 12 11,
 Lw 13 5,
 Ll 14 (.idxA (some 64) .leaf (.t 3) (.t 13)),
 Ilx 15 14,
 Ll 16 (.bin .neq (.t 12) (.t 15))] [2,3,5,16])
 (.cond (.t 16)
 (.seq (.region [Ll 4 (.mv (.c (.bool false)))] [4])
 (.ret))
 (.skip))))
 (.region [Lw 8 5,
 Ll 9 (.bin .add (.t 8) (Acx 1)),
 Lw 5 9] [2,3,5]))
def Z1k_B:Cd:=
 .seq (.region [Ll 2 (.box false 0 (.t 0)),
 Ll 3 (.box false 1 (.t 1)),
 Ll 4 (.mv (.c (.bool false)))] [2,3])
 (.seq (.seq (.region [Ll 5 (.mv (Acx 0))] [2,3,5])
 (.block 0 (.loop (Z1k_L0))))
 (.seq (.region [Ll 4 (.mv (.c (.bool true)))] [4])
 (.ret)))
def Z1k:Fn:=
 { nparams:=2,nblk:=2,results:=[.tmp 4],body:=Z1k_B }
end Pe

/-
 Functions of the laws in the small form,printed by a program.
-/
namespace Pe
open Go
def Z1m_B:Cd:=
 .seq (.region [Ll 4 (.mv (Acx 0))] [0,1])
 (.seq (.region [Lw 5 1,
 Lw 6 0,
 Ll 7 (.len false (.t 6)),
 Ll 8 (.bin .sub (.t 5) (.t 7)),
 Lw 1 8] [1])
 (.seq (.seq (.region [Lw 9 1,
 Ll 10 (.bin .lss (.t 9) (Acx 0))] [1,10])
 (.cond (.t 10)
 (.seq (.region [Ll 4 (.mv (Acx (-1)))] [4])
 (.ret))
 (.skip)))
 (.seq (.region [Lw 11 1,
 Lw 4 11] [4])
 (.ret))))
def Z1m:Fn:=
 { nparams:=2,nblk:=0,results:=[.tmp 4],body:=Z1m_B }
def Z1o_L0:Cd:=
 .seq (.seq (.region [Lw 8 4,
 Lw 9 0,
 Ll 10 (.len false (.t 9)),
 Ll 11 (.bin .lss (.t 8) (.t 10))] [0,3,4,11])
 (.cond (.t 11)
 (.skip)
 (.exit 0)))
 (.seq (.block 1 (.region [Lw 14 3,
 Lw 15 4,
 Lw 16 0,
 Lw 17 4,
 Ll 18 (.idxA none Sx6 (.t 16) (.t 17)),
 Ipx 19 18,
 Ll 20 (Ofx F1n [(.t 19)]),
 Ll 21 (.idxA none Sx6 (.t 14) (.t 15)),
 Ls (.store false Sx6 (.t 21) (.t 20))] [0,3,4]))
 (.region [Lw 12 4,
 Ll 13 (.bin .add (.t 12) (Acx 1)),
 Lw 4 13] [0,3,4]))
def Z1o_B:Cd:=
 .seq (.region [Ll 2 (.mv (.c (.sl Sx6 [])))] [0])
 (.seq (.region [Lw 5 0,
 Ll 6 (.len false (.t 5)),
 Ll 7 (.mkSl 0 Sx6 (.arr 64 .leaf z64) 64 (.t 6) (.t 6)),
 Lw 3 7] [0,3])
 (.seq (.seq (.region [Ll 4 (.mv (Acx 0))] [0,3,4])
 (.block 0 (.loop (Z1o_L0))))
 (.seq (.region [Lw 22 3,
 Lw 2 22] [2])
 (.ret))))
def Z1o:Fn:=
 { nparams:=1,nblk:=1,results:=[.tmp 2],body:=Z1o_B }
def Z1l_L0:Cd:=
 .seq (.seq (.region [Lw 11 5,
 Lw 12 0,
 Ll 13 (.len false (.t 12)),
 Ll 14 (.bin .lss (.t 11) (.t 13))] [0,1,5,14])
 (.cond (.t 14)
 (.skip)
 (.exit 0)))
 (.seq (.block 1 (.seq (.region [Lw 17 0,
 Lw 18 5,
 Ll 19 (.idxA none Sx6 (.t 17) (.t 18)),
 Ipx 20 19,
 Lw 21 1,
 Lw 22 5,
 Ll 23 (.idxA none Sx6 (.t 21) (.t 22)),
 Ipx 24 23,
 Ll 25 (Ofx F1k [(.t 20),(.t 24)]),
 Ll 26 (.un .not (.t 25))] [0,1,5,26])
 (.cond (.t 26)
 (.seq (.region [Ll 4 (.mv (.c (.bool false)))] [4])
 (.ret))
 (.skip))))
 (.region [Lw 15 5,
 Ll 16 (.bin .add (.t 15) (Acx 1)),
 Lw 5 16] [0,1,5]))
def Z1l_B:Cd:=
 .seq (.region [Ll 4 (.mv (.c (.bool false)))] [0,1])
 (.seq (.seq (.region [Lw 6 0,
 Ll 7 (.len false (.t 6)),
 Lw 8 1,
 Ll 9 (.len false (.t 8)),
 Ll 10 (.bin .neq (.t 7) (.t 9))] [0,1,10])
 (.cond (.t 10)
 (.seq (.region [Ll 4 (.mv (.c (.bool false)))] [4])
 (.ret))
 (.skip)))
 (.seq (.seq (.region [Ll 5 (.mv (Acx 0))] [0,1,5])
 (.block 0 (.loop (Z1l_L0))))
 (.seq (.region [Ll 4 (.mv (.c (.bool true)))] [4])
 (.ret))))
def Z1l:Fn:=
 { nparams:=2,nblk:=0,results:=[.tmp 4],body:=Z1l_B }
end Pe

/-
 Functions of the program in the small form,printed by a program.
-/
namespace Pe
open Go
def Zg_B:Cd:=
 .seq (.region [Ll 2 (.box false 0 (.t 0)),
 Ll 3 (.box false 1 (.t 1)),
 Ll 4 (.mv (.c (.bool false)))] [2,3])
 (.seq (.region [Ll 5 (.fldA [.leaf,.leaf] (.t 2) 0),
 Ilx 6 5,
 Ipx 7 3,
 Ll 8 (Ofx Fk [(.t 6),(.t 7)]),
 Lw 9 8,
 Lg 10 (.load Sx6 (.t 3)) 9 true,
 Lg 11 (Opx F19 [(.t 10)]) 9 true,
 Lg 12 (Ofx F1b [(.t 11)]) 9 true,
 Lg 13 (.fldA [.leaf,.leaf] (.t 2) 1) 9 true,
 Lg 14 (.load .leaf (.t 13)) 9 true,
 Lg 15 (Ofx F1b [(.t 14)]) 9 true,
 Lg 16 (.bin .lss (.t 12) (.t 15)) 9 true,
 Ll 17 (.pick (.t 9) (.t 16) (.c (.bool false))),
 Lw 4 17] [4])
 (.ret))
def Zg:Fn:=
 { nparams:=2,nblk:=2,results:=[.tmp 4],body:=Zg_B }
def Zc_B:Cd:=
 .seq (.region [Ll 3 (.box false 0 (.t 1)),
 Ll 4 (.box false 1 (.c (.st [.leaf,.leaf] [(.int .i64 0),(.sl .leaf [])])))] [0,3,4])
 (.seq (.region [Lw 5 0,
 Ipx 6 3,
 Ll 7 (Opx F19 [(.t 6)]),
 Ll 8 (.build false (.st [.leaf,.leaf] [(.int .i64 0),(.sl .leaf [])]) [(0,(.t 5)),(1,(.t 7))]),
 Ls (.store false (.st [.leaf,.leaf]) (.t 4) (.t 8))] [4])
 (.ret))
def Zc:Fn:=
 { nparams:=2,nblk:=2,results:=[.cell 4 (.st [.leaf,.leaf])],body:=Zc_B }
def Zj_B:Cd:=
 .seq (.region [Ll 3 (.box false 0 (.t 1)),
 Ll 4 (.mv (.c (.bool false)))] [0,3])
 (.seq (.region [Ipx 6 3,
 Ll 7 (Opx F19 [(.t 6)]),
 Lw 5 7] [0,3,5])
 (.seq (.region [Lw 8 0,
 Ipx 9 3,
 Ll 10 (Ofx F4 [(.t 8),(.t 9)]),
 Lw 11 10,
 Lx 12 5 11 true,
 Lg 13 (Ofx F1b [(.t 12)]) 11 true,
 Lg 14 (Ofx F1i [(.t 13),(Acx 1),(Acx 4)]) 11 true,
 Ll 15 (.pick (.t 11) (.t 14) (.c (.bool false))),
 Lw 16 15,
 Lx 17 0 16 true,
 Lx 18 5 16 true,
 Lg 19 (Ofx Fy [(.t 17),(.t 18)]) 16 true,
 Ll 20 (.pick (.t 16) (.t 19) (.c (.bool false))),
 Lw 4 20] [4])
 (.ret)))
def Zj:Fn:=
 { nparams:=2,nblk:=1,results:=[.tmp 4],body:=Zj_B }
def Zi_B:Cd:=
 .seq (.region [Ll 3 (.box false 0 (.t 0)),
 Ll 6 (.mv (.c (.sl .leaf [])))] [1,2,3])
 (.seq (.region [Ll 7 (.fldA [.leaf,.leaf] (.t 3) 0),
 Ilx 8 7,
 Ll 9 (.fldA [.leaf,.leaf] (.t 3) 0),
 Ilx 10 9,
 Lw 11 1,
 Lw 12 2,
 Ll 13 (Opx F16 [(.t 10),(.t 11),(.t 12)]),
 Ll 14 (.fldA [.leaf,.leaf] (.t 3) 1),
 Ilx 15 14,
 Ll 16 (Opx F13 [(.t 8),(.t 13),(.t 15)]),
 Lw 6 16] [6])
 (.ret))
def Zi:Fn:=
 { nparams:=3,nblk:=1,results:=[.tmp 6],body:=Zi_B }
def Zf_L0:Cd:=
 .seq (.region [Ll 13 (.bin .lss (.t 12) (.t 11))] [1,3,11,12,13])
 (.seq (.cond (.t 13)
 (.skip)
 (.exit 0))
 (.seq (.block 1 (.region [Ll 14 (.fldA [.leaf,.leaf] (.t 3) 0),
 Ilx 15 14,
 Lw 16 1,
 Ll 17 (.fldA [.leaf,.leaf] (.t 3) 0),
 Ilx 18 17,
 Ll 19 (.fldA [.leaf,.leaf] (.t 3) 1),
 Ilx 20 19,
 Ll 21 (Opx F11 [(.t 15),(.t 16),(.t 18),(.t 20)]),
 Lw 1 21] [1,3,11,12]))
 (.region [Ll 22 (.bin .add (.t 12) (Acx 1)),
 Lw 12 22] [1,3,11,12])))
def Zf_B:Cd:=
 .seq (.region [Ll 3 (.box false 0 (.t 0)),
 Ll 6 (.mv (.c (.sl .leaf [])))] [1,2,3])
 (.seq (.seq (.region [Lw 7 2,
 Ll 8 (.fldA [.leaf,.leaf] (.t 3) 1),
 Ilx 9 8,
 Ll 10 (Ofx F1b [(.t 9)]),
 Ll 11 (.bin .rem (.t 7) (.t 10)),
 Ll 12 (.mv (Acx 0))] [1,3,11,12])
 (.block 0 (.loop (Zf_L0))))
 (.seq (.region [Lw 23 1,
 Lw 6 23] [6])
 (.ret)))
def Zf:Fn:=
 { nparams:=3,nblk:=1,results:=[.tmp 6],body:=Zf_B }
def Z18_B:Cd:=
 .seq (.region [Ll 4 (.box false 0 (.t 1)),
 Ll 6 (.mv (Acx 0))] [0,2,4])
 (.seq (.seq (.region [Lw 7 0,
 Ipx 8 4,
 Ll 9 (Ofx Fj [(.t 7),(.t 8)]),
 Ll 10 (.un .not (.t 9)),
 Lw 11 10,
 Lx 12 2 11 false,
 Lx 13 0 11 false,
 Lg 14 (.load Sx6 (.t 4)) 11 false,
 Lg 15 (Opx Fc [(.t 13),(.t 14)]) 11 false,
 Lg 16 (.mkFn Fg [(.t 15)] []) 11 false,
 Lg 17 (Ofx F9 [(.t 12),(.t 16)]) 11 false,
 Lg 18 (.un .not (.t 17)) 11 false,
 Ll 19 (.pick (.t 11) (.c (.bool true)) (.t 18))] [19])
 (.cond (.t 19)
 (.seq (.region [Ll 6 (.mv (Acx 1))] [6])
 (.ret))
 (.skip)))
 (.seq (.region [Ll 6 (.mv (Acx 0))] [6])
 (.ret)))
def Z18:Fn:=
 { nparams:=3,nblk:=1,results:=[.tmp 6],body:=Z18_B }
end Pe

/-
 Functions of the program in the small form,printed by a program.
-/
namespace Pe
open Go
def Z1g_L0:Cd:=
 .seq (.region [Ll 9 (.bin .lss (.t 8) (.t 7))] [3,6,7,8,9])
 (.seq (.cond (.t 9)
 (.skip)
 (.exit 0))
 (.seq (.block 1 (.seq (.region [Ll 10 (.idxA none Sx6 (.t 6) (.t 8)),
 Ipx 11 10,
 Ll 5 (.box false 1 (.c (.arr 64 .leaf z64))),
 Ls (.store false Sx6 (.t 5) (.t 11))] [3,5,6,7,8])
 (.region [Lw 12 3,
 Ipx 13 5,
 Ll 14 (Opx F19 [(.t 13)]),
 Ll 15 (.buildSl false 2 .leaf (.sl .leaf []) 1 [(0,(.t 14))]),
 Ll 16 (.append .leaf 3 24 (.t 12) (.t 15)),
 Lw 3 16] [3,6,7,8])))
 (.region [Ll 17 (.bin .add (.t 8) (Acx 1)),
 Lw 8 17] [3,6,7,8])))
def Z1g_B:Cd:=
 .seq (.region [Ll 2 (.mv (.c (.sl .leaf [])))] [0])
 (.seq (.region [Ll 3 (.nilOwn 0 .leaf)] [0,3])
 (.seq (.seq (.region [Lw 6 0,
 Ll 7 (.len false (.t 6)),
 Ll 8 (.mv (Acx 0))] [3,6,7,8])
 (.block 0 (.loop (Z1g_L0))))
 (.seq (.region [Lw 18 3,
 Lw 2 18] [2])
 (.ret))))
def Z1g:Fn:=
 { nparams:=1,nblk:=4,results:=[.tmp 2],body:=Z1g_B }
end Pe

/-
 Functions of the program in the small form,printed by a program.
-/
namespace Pe
open Go
def Zq_B:Cd:=
 .seq (.region [Ll 6 (.box false 0 (.t 1)),
 Ll 10 (.mv (Acx 0))] [0,2,3,4,6])
 (.seq (.seq (.region [Lw 12 0,
 Ipx 13 6,
 Lw 14 2,
 Ll 15 (Ofx F18 [(.t 12),(.t 13),(.t 14)]),
 Lw 11 15] [2,3,4,11])
 (.seq (.region [Lw 16 11,
 Ll 17 (.bin .neq (.t 16) (Acx 0))] [2,3,4,11,17])
 (.cond (.t 17)
 (.seq (.region [Lw 18 11,
 Lw 10 18] [10])
 (.ret))
 (.skip))))
 (.seq (.seq (.region [Lw 19 2,
 Ll 20 (.len false (.t 19)),
 Lw 21 3,
 Ll 22 (.bin .lss (.t 20) (.t 21)),
 Lw 23 22,
 Lx 24 2 23 false,
 Lg 25 (.len false (.t 24)) 23 false,
 Lx 26 4 23 false,
 Lg 27 (.bin .gtr (.t 25) (.t 26)) 23 false,
 Ll 28 (.pick (.t 23) (.c (.bool true)) (.t 27))] [28])
 (.cond (.t 28)
 (.seq (.region [Ll 10 (.mv (Acx 2))] [10])
 (.ret))
 (.skip)))
 (.seq (.region [Ll 10 (.mv (Acx 0))] [10])
 (.ret))))
def Zq:Fn:=
 { nparams:=5,nblk:=1,results:=[.tmp 10],body:=Zq_B }
def Ze_L0:Cd:=
 .seq (.region [Ll 26 (.bin .lss (.t 25) (.t 24))] [1,2,5,6,7,8,16,17,18,23,24,25,26])
 (.seq (.cond (.t 26)
 (.skip)
 (.exit 2))
 (.seq (.block 3 (.seq (.region [Lw 27 25,
 Ll 28 (.idxA none .leaf (.t 23) (.t 25)),
 Ilx 29 28,
 Lw 9 27,
 Lw 10 29] [1,2,5,6,7,8,9,10,16,17,18,23,24,25])
 (.seq (.region [Lw 30 9,
 Lw 31 6,
 Ll 32 (.bin .neq (.t 30) (.t 31))] [1,2,5,6,7,8,10,16,17,18,23,24,25,32])
 (.cond (.t 32)
 (.region [Lw 33 8,
 Lw 34 10,
 Ll 35 (.cut none .leaf (.t 34) (some (Acx 1)) none none),
 Ll 36 (.buildSl false 3 .leaf (.sl .leaf []) 1 [(0,(.t 35))]),
 Ll 37 (.append .leaf 4 24 (.t 33) (.t 36)),
 Lw 8 37] [1,2,5,6,7,8,16,17,18,23,24,25])
 (.skip)))))
 (.region [Ll 38 (.bin .add (.t 25) (Acx 1)),
 Lw 25 38] [1,2,5,6,7,8,16,17,18,23,24,25])))
def Ze_L1:Cd:=
 .seq (.region [Ll 19 (.bin .lss (.t 18) (.t 17))] [1,2,5,16,17,18,19])
 (.seq (.cond (.t 19)
 (.skip)
 (.exit 0))
 (.seq (.block 1 (.seq (.region [Lw 20 18,
 Ll 21 (.idxA none .leaf (.t 16) (.t 18)),
 Ilx 22 21,
 Lw 6 20,
 Lw 7 22] [1,2,5,6,7,16,17,18])
 (.seq (.region [Ll 8 (.nilOwn 2 .leaf)] [1,2,5,6,7,8,16,17,18])
 (.seq (.seq (.region [Lw 23 1,
 Ll 24 (.len false (.t 23)),
 Ll 25 (.mv (Acx 0))] [1,2,5,6,7,8,16,17,18,23,24,25])
 (.block 2 (.loop (Ze_L0))))
 (.seq (.region [Ll 39 (.load (.st [.leaf,.leaf]) (.t 2)),
 Lw 40 7,
 Ll 41 (.idxA none .leaf (.t 40) (Acx 0)),
 Ilx 42 41,
 Ll 43 (.load (.st [.leaf,.leaf]) (.t 2)),
 Lw 44 8,
 ⟨some 45,.call .data [] (.f Fe) [(.t 43),(.t 44)],none,[2,40,41]⟩,
 Ll 46 (Opx Fi [(.t 39),(.t 42),(.t 45)]),
 Lw 11 46] [1,2,5,6,11,16,17,18])
 (.region [Ll 47 (.fldA [.leaf,.leaf] (.t 2) 0),
 Ilx 48 47,
 Lw 49 5,
 Lw 50 11,
 Lw 51 6,
 Ll 52 (.bin .rem (.t 51) (Acx 2)),
 Ll 53 (.bin .mul (Acx 2) (.t 52)),
 Ll 54 (.bin .sub (Acx 1) (.t 53)),
 Ll 55 (Opx Fs [(.t 48),(.t 49),(.t 50),(.t 54)]),
 Lw 5 55] [1,2,5,16,17,18]))))))
 (.region [Ll 56 (.bin .add (.t 18) (Acx 1)),
 Lw 18 56] [1,2,5,16,17,18])))
def Ze_B:Cd:=
 .seq (.region [Ll 2 (.box false 0 (.t 0)),
 Ll 4 (.mv (.c (.sl .leaf [])))] [1,2])
 (.seq (.seq (.region [Lw 12 1,
 Ll 13 (.len false (.t 12)),
 Ll 14 (.bin .eql (.t 13) (Acx 0))] [1,2,14])
 (.cond (.t 14)
 (.seq (.region [Ll 15 (.buildSl false 1 .leaf (.int .i64 0) 1 [(0,(Acx 1))]),
 Lw 4 15] [4])
 (.ret))
 (.skip)))
 (.seq (.region [Ll 5 (.mv (.c (.sl .leaf [])))] [1,2,5])
 (.seq (.seq (.region [Lw 16 1,
 Ll 17 (.len false (.t 16)),
 Ll 18 (.mv (Acx 0))] [1,2,5,16,17,18])
 (.block 0 (.loop (Ze_L1))))
 (.seq (.region [Lw 57 5,
 Lw 4 57] [4])
 (.ret)))))
def Ze:Fn:=
 { nparams:=2,nblk:=5,results:=[.tmp 4],body:=Ze_B }
def Zh_L0:Cd:=
 .seq (.region [Ll 18 (.bin .lss (.t 17) (.t 16))] [1,2,5,6,7,11,12,15,16,17,18])
 (.seq (.cond (.t 18)
 (.skip)
 (.exit 2))
 (.seq (.block 3 (.seq (.region [Ll 19 (.idxA none .leaf (.t 15) (.t 17)),
 Ilx 20 19,
 Lw 9 20] [1,2,5,6,7,9,11,12,15,16,17])
 (.region [Lw 21 7,
 Ll 22 (.load (.st [.leaf,.leaf]) (.t 2)),
 Lw 23 9,
 Lw 24 6,
 Ll 25 (Opx Ff [(.t 22),(.t 23),(.t 24)]),
 Ll 26 (.buildSl false 3 .leaf (.sl .leaf []) 1 [(0,(.t 25))]),
 Ll 27 (.append .leaf 4 24 (.t 21) (.t 26)),
 Lw 7 27] [1,2,5,6,7,11,12,15,16,17])))
 (.region [Ll 28 (.bin .add (.t 17) (Acx 1)),
 Lw 17 28] [1,2,5,6,7,11,12,15,16,17])))
def Zh_L1:Cd:=
 .seq (.region [Ll 13 (.bin .lss (.t 12) (.t 11))] [1,2,5,11,12,13])
 (.seq (.cond (.t 13)
 (.skip)
 (.exit 0))
 (.seq (.block 1 (.seq (.region [Lw 14 12,
 Lw 6 14] [1,2,5,6,11,12])
 (.seq (.region [Ll 7 (.nilOwn 2 .leaf)] [1,2,5,6,7,11,12])
 (.seq (.seq (.region [Lw 15 1,
 Ll 16 (.len false (.t 15)),
 Ll 17 (.mv (Acx 0))] [1,2,5,6,7,11,12,15,16,17])
 (.block 2 (.loop (Zh_L0))))
 (.region [Lw 29 5,
 Lw 30 7,
 Ll 31 (.buildSl true 5 .leaf (.sl .leaf []) 1 [(0,(.t 30))]),
 Ll 32 (.append .leaf 6 24 (.t 29) (.t 31)),
 Lw 5 32] [1,2,5,11,12])))))
 (.region [Ll 33 (.bin .add (.t 12) (Acx 1)),
 Lw 12 33] [1,2,5,11,12])))
def Zh_B:Cd:=
 .seq (.region [Ll 2 (.box false 0 (.t 0)),
 Ll 4 (.mv (.c (.sl .leaf [])))] [1,2])
 (.seq (.region [Ll 5 (.nilOwn 1 .leaf)] [1,2,5])
 (.seq (.seq (.region [Lw 10 1,
 Ll 11 (.len false (.t 10)),
 Ll 12 (.mv (Acx 0))] [1,2,5,11,12])
 (.block 0 (.loop (Zh_L1))))
 (.seq (.region [Lw 34 5,
 Lw 4 34] [4])
 (.ret))))
def Zh:Fn:=
 { nparams:=2,nblk:=7,results:=[.tmp 4],body:=Zh_B }
def Z5_B:Cd:=
 .seq (.region [Ll 4 (.box false 0 (.t 1)),
 Ll 6 (.box false 1 (.c (.arr 64 .leaf z64))),
 Ll 7 (.mv (Acx 0))] [0,2,4,6])
 (.seq (.seq (.region [Lw 10 0,
 Ipx 11 4,
 Lw 12 2,
 Ll 13 (Ofx Fq [(.t 10),(.t 11),(.t 12),(Acx 0),(Acx 4)]),
 Lw 8 13] [0,2,4,6,8])
 (.seq (.region [Lw 14 8,
 Ll 15 (.bin .neq (.t 14) (Acx 0))] [0,2,4,6,8,15])
 (.cond (.t 15)
 (.seq (.region [Ll 16 (.build false (.arr 64 .leaf z64) []),
 Lw 17 8,
 Ls (.store false Sx6 (.t 6) (.t 16)),
 Lw 7 17] [6,7])
 (.ret))
 (.skip))))
 (.seq (.region [Lw 18 0,
 Ipx 19 4,
 Ll 20 (Opx Fc [(.t 18),(.t 19)]),
 Ll 9 (.box false 2 (.c (.st [.leaf,.leaf] [(.int .i64 0),(.sl .leaf [])]))),
 Ls (.store false (.st [.leaf,.leaf]) (.t 9) (.t 20))] [2,6,9])
 (.seq (.region [Ll 21 (.load (.st [.leaf,.leaf]) (.t 9)),
 Ll 22 (.load (.st [.leaf,.leaf]) (.t 9)),
 Lw 23 2,
 Ll 24 (Opx F1g [(.t 23)]),
 Ll 25 (Opx Fh [(.t 22),(.t 24)]),
 Ll 26 (Opx Fe [(.t 21),(.t 25)]),
 Ll 27 (Ofx F1h [(.t 26)]),
 Iex 28 27 0,
 Iex 29 27 1,
 Ls (.store false Sx6 (.t 6) (.t 28)),
 Lw 7 29] [6,7])
 (.ret))))
def Z5:Fn:=
 { nparams:=3,nblk:=3,results:=[.cell 6 Sx6,.tmp 7],body:=Z5_B }
end Pe
