/-
  A part of the proof: an evaluator for a small form of the code, its soundness, and contracts of functions over it.
-/
import Derived.IntWalk
import Derived.Carry
import Derived.OpenShut
import GoSem.Core.View
import Derived.Test.YtbhdhgbmgfokoaaGreatW1
import Derived.Test.YtbhdhgbmgfokoaaGreatW2

namespace Pe
open Go
def a58 (np:Nat) (ks:List Nat) (s:St):Out×St:=(.normal,⟨s.e.keep ks,ox (s.e.keep ks) np 0 s.h⟩)
@[simp] theorem a8u (np:Nat) (ks:List Nat) (e:Env) (h:Heap):a58 np ks ⟨e,h⟩=(.normal,⟨e.keep ks,ox (e.keep ks) np 0 h⟩):=rfl
@[simp] theorem aa9 {O:af} {np:Nat} {s:St} (is:List Ins) (ks:List Nat):dn O np (.region is ks) s=(ep O np is s).map (a58 np ks):=Tf is ks
def a59 (e:Env) (i:Ins) (r:V×Heap):St:=⟨(e.kill (i.op.kill e r.1)).putO i.dst r.1,r.2⟩
@[simp] theorem a90 (e:Env) (i:Ins) (v:V) (h:Heap):a59 e i (v,h)=⟨(e.kill (i.op.kill e v)).putO i.dst v,h⟩:=rfl
def a0y (O:af) (np:Nat) (s:St) (i:Ins):Option Bool→Option St
 | some true=>(aq O np s.e s.h i.op).map (a59 s.e i)
 | some false=>some ⟨s.e.putO i.dst (.tup []),s.h⟩
 | none=>none
@[simp] theorem a3b (O:af) (np:Nat) (s:St) (i:Ins):jk O np s i=a0y O np s i (i.on s.e):=rfl
section
variable {O:af} {np:Nat} {e:Env} {h:Heap}
def kNt (x:D):Option D:=if x.isTup then none else some x
def kEl (p:List Nat) (b:Blk):Option (Sh×List D):=b.elems p
def Bd (p:List Nat) (b:Blk):Option D:=b.get p
def slD (off len:Nat):Option (Sh×List D)→Option D
 | some (s,cs)=>if off+len≤cs.length then some (.sl s ((cs.drop off).take len)) else none
 | none=>none
@[simp] theorem aaf (x:D):kNt x=if x.isTup then none else some x:=rfl
@[simp] theorem aa3 (p:List Nat) (b:Blk):kEl p b=b.elems p:=rfl
@[simp] theorem a9g (p:List Nat) (b:Blk):Bd p b=b.get p:=rfl
@[simp] theorem a7g (off len:Nat) (s:Sh) (cs:List D):slD off len (some (s,cs))=if off+len≤cs.length then some (.sl s ((cs.drop off).take len)) else none:=rfl
@[simp] theorem a88 (v:V):ur h v=(toD h v).bind kNt:=rfl
@[simp] theorem ab4 (x:D):toD h (.d x)=some x:=by simp [toD]
def a2l (p:List Nat) (b:Blk):Option (Sh×List D):=b.dels p
@[simp] theorem a9c (p:List Nat) (b:Blk):a2l p b=b.dels p:=rfl
@[simp] theorem a9d (fr:Bool) (s:Sh) (cs:List D) (p:List Nat):(Blk.sl fr s cs).dels p=(Blk.sl fr s cs).elems p:=rfl
@[simp] theorem a6v (fr:Bool) (d:D) (p:List Nat):(Blk.box fr d).dels p=(Blk.box fr d).elems p:=rfl
@[simp] theorem a5a (fr:Bool) (s:Sh) (idx:List Nat) (rows:List (List D)):(Blk.tb fr s idx rows).dels [0]=(rx s rows idx).map (Prod.mk .leaf):=rfl
@[simp] theorem a5y (fr:Bool) (s:Sh) (idx:List Nat) (rows:List (List D)) (r:Nat):(Blk.tb fr s idx rows).dels [r+1]=(rows[r]?).map (Prod.mk s):=rfl
@[simp] theorem aal (i:Nat) (p:List Nat) (off len:Nat) (cap:Option Nat):toD h (.sl i p off len cap)=slD off len ((h[i]?).bind (a2l p)):=by
 have:(a2l p)=(Blk.dels · p):=rfl
 rw [this];simp only [toD];cases (h[i]?).bind (Blk.dels · p) <;> rfl
@[simp] theorem ab3 (x:D):toE h (.d x)=some x:=rfl
@[simp] theorem a9n (i:Nat) (p:List Nat) (off len:Nat) (cap:Option Nat):toE h (.sl i p off len cap)=slD off len ((h[i]?).bind (kEl p)):=by
 have:(kEl p)=(Blk.elems · p):=rfl
 rw [this];simp only [toE];cases (h[i]?).bind (Blk.elems · p) <;> rfl
@[simp] theorem a9a (i:Nat) (p:List Nat):toD h (.ptr i p)=((h[i]?).bind (Bd p)).map .ip:=by simp only [toD]; rfl
def kFn (h:Heap) (f:Nat) (caps:List V) (a:List D):Option D:=(kj h caps).map (.fn f a)
@[simp] theorem aai (f:Nat) (caps:List V) (a:List D):kFn h f caps a=(kj h caps).map (.fn f a):=rfl
@[simp] theorem aag (f:Nat) (first caps:List V):toD h (.fn f first caps)=(kj h first).bind (kFn h f caps):=by simp only [toD]; rfl
@[simp] theorem a8g (vs:List V):toD h (.tup vs)=(kj h vs).map .tup:=by simp only [toD]
def kDs (h:Heap) (vs:List V) (x:D):Option (List D):=if x.isTup then none else (kj h vs).map (List.cons x)
@[simp] theorem a3j (vs:List V) (x:D):kDs h vs x=if x.isTup then none else (kj h vs).map (List.cons x):=rfl
@[simp] theorem a6h:kj h []=some []:=by simp [kj]
@[simp] theorem Tp (v:V) (vs:List V):kj h (v::vs)=(toD h v).bind (kDs h vs):=by simp only [kj]; rfl
def a1f (e:Env) (as:List Arg) (v:V):Option (List V):=(e.args as).map (List.cons v)
@[simp] theorem a7a (as:List Arg) (v:V):a1f e as v=(e.args as).map (List.cons v):=rfl
@[simp] theorem a63:e.args []=some []:=rfl
@[simp] theorem a4o (a:Arg) (as:List Arg):e.args (a::as)=(e.arg a).bind (a1f e as):=rfl
def kMv (h:Heap) (v:V):V×Heap:=(v,h)
@[simp] theorem aa7 (v:V):kMv h v=(v,h):=rfl
@[simp] theorem ab6 (x:Arg):aq O np e h (.mv x)=(e.arg x).map (kMv h):=rfl
def a24 (h:Heap):V→Option (V×Heap)
 | .d (.ip y)=>some (.d (.ip y),h)
 | .ptr i p=>some (.ptr i p,h)
 | _=>none
@[simp] theorem a9u (y:D):a24 h (.d (.ip y))=some (.d (.ip y),h):=rfl
@[simp] theorem a9y (i:Nat) (p:List Nat):a24 h (.ptr i p)=some (.ptr i p,h):=rfl
@[simp] theorem aa8 (x:Arg):aq O np e h (.chk x)=(e.arg x).bind (a24 h):=by
 simp only [aq];cases e.arg x with
 | none=>rfl
 | some v=>cases v <;> try rfl
           rename_i d; cases d <;> rfl
def a1b (e:Env) (h:Heap) (a b:Arg):V→Option (V×Heap)
 | .d (.bool t)=>(e.arg (if t then a else b)).map (kMv h)
 | _=>none
@[simp] theorem a92 (a b:Arg) (t:Bool):a1b e h a b (.d (.bool t))=(e.arg (if t then a else b)).map (kMv h):=rfl
@[simp] theorem a83 (c a b:Arg):aq O np e h (.pick c a b)=(e.arg c).bind (a1b e h a b):=by
 simp only [aq];cases e.arg c with
 | none=>rfl
 | some v=>cases v <;> try rfl
           rename_i d; cases d <;> rfl
def Uv (i:Nat) (d:D) (h:Heap):Option (V×Heap):=(eh h i (.box false d)).map (Prod.mk (.ptr i []))
@[simp] theorem a6p (i:Nat) (d:D):Uv i d h=(eh h i (.box false d)).map (Prod.mk (.ptr i [])):=rfl
def Xn (np:Nat) (h:Heap) (fz:Bool) (i:Nat) (rs:List Nat) (d:D):Option (V×Heap):=(freezeIf fz h rs).bind (Uv (np+i) d)
@[simp] theorem a66 (fz:Bool) (i:Nat) (rs:List Nat) (d:D):Xn np h fz i rs d=(freezeIf fz h rs).bind (Uv (np+i) d):=rfl
def a68 (np:Nat) (h:Heap) (fz:Bool) (i:Nat) (v:V):Option (V×Heap):=(ur h v).bind (Xn np h fz i v.refs)
@[simp] theorem a8h (fz:Bool) (i:Nat) (v:V):a68 np h fz i v=(ur h v).bind (Xn np h fz i v.refs):=rfl
@[simp] theorem aar (fz:Bool) (i:Nat) (x:Arg):aq O np e h (.box fz i x)=(e.arg x).bind (a68 np h fz i):=rfl
def Cu (h:Heap) (s:Sh) (x:D):Option (V×Heap):=if Sh.beq x.sh s then some (.d x,h) else none
@[simp] theorem a44 (s:Sh) (x:D):Cu h s x=if Sh.beq x.sh s then some (.d x,h) else none:=rfl
def Wx (h:Heap) (s:Sh):V→Option (V×Heap)
 | .d (.ip x)=>Cu h s x
 | .ptr i p=>((h[i]?).bind (Bd p)).bind (Cu h s)
 | _=>none
@[simp] theorem a7s (s:Sh) (x:D):Wx h s (.d (.ip x))=Cu h s x:=rfl
@[simp] theorem a98 (s:Sh) (i:Nat) (p:List Nat):Wx h s (.ptr i p)=((h[i]?).bind (Bd p)).bind (Cu h s):=rfl
@[simp] theorem a81 (s:Sh) (x:Arg):aq O np e h (.load s x)=(e.arg x).bind (Wx h s):=by
 simp only [aq];cases e.arg x with
 | none=>rfl
 | some v=>cases v <;> try rfl
           rename_i d; cases d <;> rfl
def Yd (h:Heap) (o:BinOp):V→V→Option (V×Heap)
 | .d a,.d b=>(sd o a b).map fun r=>(.d r,h)
 | _,_=>none
def kD (h:Heap) (r:D):V×Heap:=(.d r,h)
@[simp] theorem ab8 (r:D):kD h r=(.d r,h):=rfl
@[simp] theorem aaa (o:BinOp) (a b:D):Yd h o (.d a) (.d b)=(sd o a b).map (kD h):=rfl
def Ra (e:Env) (h:Heap) (o:BinOp) (y:Arg) (v:V):Option (V×Heap):=(e.arg y).bind (Yd h o v)
@[simp] theorem a78 (o:BinOp) (y:Arg) (v:V):Ra e h o y v=(e.arg y).bind (Yd h o v):=rfl
@[simp] theorem a9r (o:BinOp) (x y:Arg):aq O np e h (.bin o x y)=(e.arg x).bind (Ra e h o y):=by
 simp only [aq];cases e.arg x with
 | none=>rfl
 | some v=>
  cases hy:e.arg y with
  | none=>cases v <;> simp [Ra,hy]
  | some w=>cases v <;> cases w <;> simp [Ra,hy,Yd]
theorem two {α:Type} {x y:Option V} {f:V→V→Option α} {g:Option α} (h1:∀v w,x=some v→y=some w→g=f v w) (h2:x=none∨y=none→g=none):g=x.bind fun v=>y.bind (f v):=by
 cases hx:x with
 | none=>exact h2 (.inl hx)
 | some v=>
  cases hy:y with
  | none=>exact h2 (.inr hy)
  | some w=>exact h1 v w hx hy
def kUn (h:Heap) (o:UnOp):V→Option (V×Heap)
 | .d a=>(unD o a).map (kD h)
 | _=>none
@[simp] theorem abb (o:UnOp) (a:D):kUn h o (.d a)=(unD o a).map (kD h):=rfl
@[simp] theorem ab2 (o:UnOp) (x:Arg):aq O np e h (.un o x)=(e.arg x).bind (kUn h o):=by
 simp only [aq];cases e.arg x with
 | none=>rfl
 | some v=>cases v <;> rfl
def a0x (h:Heap) (k:IntKind):V→Option (V×Heap)
 | .d (.int _ n)=>some (.d (.int k (k.wrap n)),h)
 | _=>none
@[simp] theorem a9f (k q:IntKind) (n:Int):a0x h k (.d (.int q n))=some (.d (.int k (k.wrap n)),h):=rfl
@[simp] theorem a8n (k:IntKind) (x:Arg):aq O np e h (.conv k x)=(e.arg x).bind (a0x h k):=by
 simp only [aq];cases e.arg x with
 | none=>rfl
 | some v=>cases v <;> try rfl
           rename_i d; cases d <;> rfl
def a5h (h:Heap) (ss:List Sh) (j:Nat):V→Option (V×Heap)
 | .d (.st ts cs)=>if Sh.beqs ts ss then (cs[j]?).map (kD h) else none
 | _=>none
@[simp] theorem aaj (ss ts:List Sh) (j:Nat) (cs:List D):a5h h ss j (.d (.st ts cs))=if Sh.beqs ts ss then (cs[j]?).map (kD h) else none:=rfl
@[simp] theorem ab0 (ss:List Sh) (x:Arg) (j:Nat):aq O np e h (.fld ss x j)=(e.arg x).bind (a5h h ss j):=by
 simp only [aq];cases e.arg x with
 | none=>rfl
 | some v=>cases v <;> try rfl
           rename_i d; cases d <;> rfl
def kIp (h:Heap) (c:D):V×Heap:=(.d (.ip c),h)
@[simp] theorem a9v (c:D):kIp h c=(.d (.ip c),h):=rfl
def Mh (h:Heap) (ss:List Sh) (i:Nat) (p:List Nat) (y:D):Option (V×Heap):=if Sh.beq y.sh (.st ss) then some (.ptr i p,h) else none
@[simp] theorem a4p (ss:List Sh) (i:Nat) (p:List Nat) (y:D):Mh h ss i p y=if Sh.beq y.sh (.st ss) then some (.ptr i p,h) else none:=rfl
def Wc (h:Heap) (ss:List Sh) (j:Nat):V→Option (V×Heap)
 | .ptr i p=>((h[i]?).bind (Bd p)).bind (Mh h ss i (p++[j]))
 | .d (.ip (.st ts cs))=>if Sh.beqs ts ss then (cs[j]?).map (kIp h) else none
 | _=>none
@[simp] theorem a99 (ss:List Sh) (j i:Nat) (p:List Nat):Wc h ss j (.ptr i p)=((h[i]?).bind (Bd p)).bind (Mh h ss i (p++[j])):=rfl
@[simp] theorem a8j (ss ts:List Sh) (j:Nat) (cs:List D):Wc h ss j (.d (.ip (.st ts cs)))=if Sh.beqs ts ss then (cs[j]?).map (kIp h) else none:=rfl
@[simp] theorem a8w (ss:List Sh) (x:Arg) (j:Nat):aq O np e h (.fldA ss x j)=(e.arg x).bind (Wc h ss j):=by
 simp only [aq];cases e.arg x with
 | none=>rfl
 | some v=>cases v <;> try rfl
           rename_i d; cases d <;> try rfl
           rename_i d; cases d <;> rfl
def a2z (h:Heap) (j:Nat):V→Option (V×Heap)
 | .d (.tup vs)=>(vs[j]?).map (kD h)
 | .tup vs=>(vs[j]?).map (kMv h)
 | _=>none
@[simp] theorem a9w (j:Nat) (vs:List D):a2z h j (.d (.tup vs))=(vs[j]?).map (kD h):=rfl
@[simp] theorem aas (j:Nat) (vs:List V):a2z h j (.tup vs)=(vs[j]?).map (kMv h):=rfl
@[simp] theorem aak (x:Arg) (j:Nat):aq O np e h (.ext x j)=(e.arg x).bind (a2z h j):=by
 simp only [aq];cases e.arg x with
 | none=>rfl
 | some v=>cases v <;> try rfl
           rename_i d; cases d <;> rfl
def a0l (h:Heap):Bool→V→Option (V×Heap)
 | false,.d (.sl _ cs)=>some (.d (.int .i64 cs.length),h)
 | false,.sl _ _ _ n _=>some (.d (.int .i64 n),h)
 | true,.d (.str b)=>some (.d (.int .i64 b.size),h)
 | _,_=>none
@[simp] theorem aam (s:Sh) (cs:List D):a0l h false (.d (.sl s cs))=some (.d (.int .i64 cs.length),h):=rfl
@[simp] theorem aao (i:Nat) (p:List Nat) (off n:Nat) (cap:Option Nat):a0l h false (.sl i p off n cap)=some (.d (.int .i64 n),h):=rfl
@[simp] theorem aay (b:ByteArray):a0l h true (.d (.str b))=some (.d (.int .i64 b.size),h):=rfl
@[simp] theorem a9q (str:Bool) (x:Arg):aq O np e h (.len str x)=(e.arg x).bind (a0l h str):=by
 cases str <;> simp only [aq]
 ·cases e.arg x with
  | none=>rfl
  | some v=>cases v <;> try rfl
            rename_i d; cases d <;> rfl
 ·cases e.arg x with
  | none=>rfl
  | some v=>cases v <;> try rfl
            rename_i d; cases d <;> rfl
def yi (O:af) (np:Nat) (h:Heap) (m:Mode) (news:List Nat) (g:Nat×List V×List V) (vs:List V):Option (V×Heap):=
 match m with
 | .heap=>jr O np news h g.1 (g.2.1++vs++g.2.2)
 | _=>fl O m h g.1 (g.2.1++vs++g.2.2)
def It (O:af) (np:Nat) (e:Env) (h:Heap) (m:Mode) (news:List Nat) (as:List Arg) (g:Nat×List V×List V):Option (V×Heap):=(e.args as).bind (yi O np h m news g)
@[simp] theorem a4t (m:Mode) (news:List Nat) (as:List Arg) (g:Nat×List V×List V):It O np e h m news as g=(e.args as).bind (yi O np h m news g):=rfl
def Ov (O:af) (np:Nat) (e:Env) (h:Heap) (m:Mode) (news:List Nat) (as:List Arg) (fv:V):Option (V×Heap):=(callee fv).bind (It O np e h m news as)
@[simp] theorem a4n (m:Mode) (news:List Nat) (as:List Arg) (fv:V):Ov O np e h m news as fv=(callee fv).bind (It O np e h m news as):=rfl
@[simp] theorem a97 (m:Mode) (news:List Nat) (f:Arg) (as:List Arg):aq O np e h (.call m news f as)=(e.arg f).bind (Ov O np e h m news as):=by
 simp only [aq];cases e.arg f with
 | none=>rfl
 | some fv=>
  simp only [aa,Ov];cases callee fv with
  | none=>rfl
  | some g=>
   simp only [aa,It];cases e.args as with
   | none=>rfl
   | some vs=>cases m <;> rfl
def Te (m:Mode) (h:Heap) (rs:List Nat) (x:D):Option (V×Heap):=
 match m with
 | .flat=>if x.flat then some (.d x,h) else none
 | .plain=>if rs.isEmpty then some (.d x,h) else none
 | _=>some (.d x,freeze h rs)
@[simp] theorem zg (rs:List Nat) (x:D):Te .flat h rs x=if x.flat then some (.d x,h) else none:=rfl
@[simp] theorem a20 (rs:List Nat) (x:D):Te .plain h rs x=if rs.isEmpty then some (.d x,h) else none:=rfl
@[simp] theorem a49 (rs:List Nat) (x:D):Te .data h rs x=some (.d x,freeze h rs):=rfl
def a28 (m:Mode) (h:Heap) (rs:List Nat):Ans→Option (V×Heap)
 | (v,_,nb)=>(toD nb v).bind (Te m h rs)
@[simp] theorem a8t (m:Mode) (rs:List Nat) (v:V) (bs nb:Heap):a28 m h rs (v,bs,nb)=(toD nb v).bind (Te m h rs):=rfl
def Mt (O:af) (m:Mode) (h:Heap) (f:Nat) (rs:List Nat) (ds:List D):Option (V×Heap):=(O f (ds.map .d) []).bind (a28 m h rs)
def a1u:Ans→Option D
 | (v,_,nb)=>toD nb v
@[simp] theorem a8y (v:V) (bs nb:Heap):a1u (v,bs,nb)=toD nb v:=rfl
def ask (O:af) (f:Nat) (ds:List D):Option D:=(O f (ds.map .d) []).bind a1u
@[simp] theorem D0 (m:Mode) (f:Nat) (rs:List Nat) (ds:List D):Mt O m h f rs ds=(ask O f ds).bind (Te m h rs):=by
 unfold Mt ask;cases O f (ds.map .d) [] with
 | none=>rfl
 | some r=>obtain ⟨v,bs,nb⟩:=r; rfl
theorem v8 (m:Mode) (f:Nat) (vs:List V):fl O m h f vs=(kj h vs).bind (Mt O m h f (V.refss vs)):=by
 unfold fl;cases kj h vs with
 | none=>rfl
 | some ds=>
  simp only [aa,Mt];cases O f (ds.map .d) [] with
  | none=>rfl
  | some r=>
   obtain ⟨v,bs,nb⟩:=r;simp only [aa,a28];cases toD nb v with
   | none=>rfl
   | some x=>cases m <;> rfl
@[simp] theorem xo (news:List Nat) (f:Nat) (a c vs:List V):yi O np h .flat news (f,a,c) vs=(kj h (a++vs++c)).bind (Mt O .flat h f (V.refss (a++vs++c))):=by
 show fl O .flat h f (a++vs++c)=_;exact v8 _ _ _
@[simp] theorem a0z (news:List Nat) (f:Nat) (a c vs:List V):yi O np h .plain news (f,a,c) vs=(kj h (a++vs++c)).bind (Mt O .plain h f (V.refss (a++vs++c))):=by
 show fl O .plain h f (a++vs++c)=_;exact v8 _ _ _
@[simp] theorem a2t (news:List Nat) (f:Nat) (a c vs:List V):yi O np h .data news (f,a,c) vs=(kj h (a++vs++c)).bind (Mt O .data h f (V.refss (a++vs++c))):=by
 show fl O .data h f (a++vs++c)=_;exact v8 _ _ _
@[simp] theorem a2m (news:List Nat) (f:Nat) (a c vs:List V):yi O np h .heap news (f,a,c) vs=jr O np news h f (a++vs++c):=rfl
def a2n (h:Heap) (i:Nat) (b:Blk):V×Heap:=(.tup [],h.set i b)
@[simp] theorem a8z (i:Nat) (b:Blk):a2n h i b=(.tup [],h.set i b):=rfl
def a1l (h:Heap) (i:Nat) (p:List Nat) (d:D) (b:Blk):Option (V×Heap):=(b.set p d).map (a2n h i)
@[simp] theorem a7w (i:Nat) (p:List Nat) (d:D) (b:Blk):a1l h i p d b=(b.set p d).map (a2n h i):=rfl
def Hb (s:Sh) (d:D) (h:Heap):V→Option (V×Heap)
 | .ptr i p=>if Sh.beq d.sh s then (h[i]?).bind (a1l h i p d) else none
 | _=>none
@[simp] theorem a4s (s:Sh) (d:D) (i:Nat) (p:List Nat):Hb s d h (.ptr i p)=if Sh.beq d.sh s then (h[i]?).bind (a1l h i p d) else none:=rfl
def C4 (e:Env) (s:Sh) (p:Arg) (d:D) (h:Heap):Option (V×Heap):=(e.arg p).bind (Hb s d h)
@[simp] theorem a34 (s:Sh) (p:Arg) (d:D):C4 e s p d h=(e.arg p).bind (Hb s d h):=rfl
def C5 (e:Env) (h:Heap) (fz:Bool) (s:Sh) (p:Arg) (rs:List Nat) (d:D):Option (V×Heap):=(freezeIf fz h rs).bind (C4 e s p d)
@[simp] theorem a1o (fz:Bool) (s:Sh) (p:Arg) (rs:List Nat) (d:D):C5 e h fz s p rs d=(freezeIf fz h rs).bind (C4 e s p d):=rfl
def Mz (e:Env) (h:Heap) (fz:Bool) (s:Sh) (p:Arg) (v:V):Option (V×Heap):=(ur h v).bind (C5 e h fz s p v.refs)
@[simp] theorem a4l (fz:Bool) (s:Sh) (p:Arg) (v:V):Mz e h fz s p v=(ur h v).bind (C5 e h fz s p v.refs):=rfl
@[simp] theorem a74 (fz:Bool) (s:Sh) (p x:Arg):aq O np e h (.store fz s p x)=(e.arg x).bind (Mz e h fz s p):=by
 simp only [aq];cases e.arg x with
 | none=>rfl
 | some v=>
  simp only [aa,Mz];cases ur h v with
  | none=>rfl
  | some d=>
   simp only [aa,C5];cases freezeIf fz h v.refs with
   | none=>rfl
   | some h'=>
    simp only [aa,C4];cases e.arg p with
    | none=>rfl
    | some w=>cases w <;> rfl
def O8 (h:Heap) (s:Sh) (n:Nat) (i:Nat) (_p:List Nat) (k:Nat) (pp:List Nat) (q:Sh×List D):Option (V×Heap):=if Sh.beq q.1 s∧k<n then some (.ptr i pp,h) else none
@[simp] theorem a4m (s:Sh) (n i:Nat) (p:List Nat) (k:Nat) (pp:List Nat) (t:Sh) (cs:List D):O8 h s n i p k pp (t,cs)=if Sh.beq t s∧k<n then some (.ptr i pp,h) else none:=rfl
def Qy (h:Heap) (s:Sh):V→Nat→Option (V×Heap)
 | .sl i p off n _,k=>((h[i]?).bind (kEl p)).bind (O8 h s n i p k (p++[off+k]))
 | .d (.sl t cs),k=>if Sh.beq t s then (cs[k]?).map (kIp h) else none
 | _,_=>none
@[simp] theorem a8x (s:Sh) (i:Nat) (p:List Nat) (off n:Nat) (cap:Option Nat) (k:Nat):Qy h s (.sl i p off n cap) k=((h[i]?).bind (kEl p)).bind (O8 h s n i p k (p++[off+k])):=rfl
@[simp] theorem a86 (s t:Sh) (cs:List D) (k:Nat):Qy h s (.d (.sl t cs)) k=if Sh.beq t s then (cs[k]?).map (kIp h) else none:=rfl
def Ns (e:Env) (h:Heap) (s:Sh) (j:Arg) (v:V):Option (V×Heap):=((e.arg j).bind V.nat?).bind (Qy h s v)
@[simp] theorem a4r (s:Sh) (j:Arg) (v:V):Ns e h s j v=((e.arg j).bind V.nat?).bind (Qy h s v):=rfl
@[simp] theorem a91 (s:Sh) (x j:Arg):aq O np e h (.idxA none s x j)=(e.arg x).bind (Ns e h s j):=by
 simp only [aq];cases e.arg x with
 | none=>rfl
 | some v=>
  simp only [aa,Ns];cases (e.arg j).bind V.nat? with
  | none=>cases v <;> try rfl
          rename_i d; cases d <;> rfl
  | some k=>cases v <;> try rfl
            rename_i d; cases d <;> rfl
@[simp] theorem Yf (s:St):ep O np [] s=some s:=rfl
@[simp] theorem Xu (i:Ins) (is:List Ins) (s:St):ep O np (i::is) s=(mw O np s i).bind (ep O np is):=rfl
@[simp] theorem a3w (i:Nat) (s:Sh):aq O np e h (.nilOwn i s)=(eh h (np+i) (.sl false s [])).map (Prod.mk (.sl (np+i) [] 0 0 (some 0))):=rfl
@[simp] theorem a96:aq O np e h .fail=none:=rfl
def Nl (h:Heap) (f:Nat) (us vs:List V):V×Heap:=(.fn f us vs,h)
@[simp] theorem a4c (f:Nat) (us vs:List V):Nl h f us vs=(.fn f us vs,h):=rfl
def a1j (e:Env) (h:Heap) (f:Nat) (cs:List Arg) (us:List V):Option (V×Heap):=(e.args cs).map (Nl h f us)
@[simp] theorem a6z (f:Nat) (cs:List Arg) (us:List V):a1j e h f cs us=(e.args cs).map (Nl h f us):=rfl
@[simp] theorem a8c (f:Nat) (as cs:List Arg):aq O np e h (.mkFn f as cs)=(e.args as).bind (a1j e h f cs):=rfl
def W6 (h:Heap):V→V→Option (V×Heap)
 | .d (.int k a),.d (.int k' b)=>if k=k' then some (.d (.int k (if a<b then b else a)),h) else none
 | _,_=>none
@[simp] theorem a87 (k k':IntKind) (a b:Int):W6 h (.d (.int k a)) (.d (.int k' b))=if k=k' then some (.d (.int k (if a<b then b else a)),h) else none:=rfl
def a2j (e:Env) (h:Heap) (y:Arg) (v:V):Option (V×Heap):=(e.arg y).bind (W6 h v)
@[simp] theorem a94 (y:Arg) (v:V):a2j e h y v=(e.arg y).bind (W6 h v):=rfl
@[simp] theorem a8e (x y:Arg):aq O np e h (.maxI x y)=(e.arg x).bind (a2j e h y):=by
 simp only [aq];cases e.arg x with
 | none=>rfl
 | some v=>
  simp only [aa,a2j];cases e.arg y with
  | none=>cases v <;> try rfl
          rename_i d; cases d <;> rfl
  | some w=>cases v <;> try rfl
            rename_i d; cases d <;> try rfl
            cases w <;> try rfl
            rename_i d; cases d <;> rfl
def Ue (h:Heap):V→V→Option (V×Heap)
 | .d (.int k a),.d (.int k' b)=>if k=k' then some (.d (.int k (if b<a then b else a)),h) else none
 | _,_=>none
@[simp] theorem a9l (k k':IntKind) (a b:Int):Ue h (.d (.int k a)) (.d (.int k' b))=if k=k' then some (.d (.int k (if b<a then b else a)),h) else none:=rfl
def a1t (e:Env) (h:Heap) (y:Arg) (v:V):Option (V×Heap):=(e.arg y).bind (Ue h v)
@[simp] theorem a8m (y:Arg) (v:V):a1t e h y v=(e.arg y).bind (Ue h v):=rfl
@[simp] theorem a9b (x y:Arg):aq O np e h (.minI x y)=(e.arg x).bind (a1t e h y):=by
 simp only [aq];cases e.arg x with
 | none=>rfl
 | some v=>
  simp only [aa,a1t];cases e.arg y with
  | none=>cases v <;> try rfl
          rename_i d; cases d <;> rfl
  | some w=>cases v <;> try rfl
            rename_i d; cases d <;> try rfl
            cases w <;> try rfl
            rename_i d; cases d <;> rfl
def Ww (h:Heap) (neg:Bool):V→Option (V×Heap)
 | .d (.sl _ (_::_))=>some (.d (.bool neg),h)
 | .sl _ _ _ (_+1) _=>some (.d (.bool neg),h)
 | _=>none
@[simp] theorem a8q (neg:Bool) (s:Sh) (c:D) (cs:List D):Ww h neg (.d (.sl s (c::cs)))=some (.d (.bool neg),h):=rfl
@[simp] theorem a9j (neg:Bool) (i:Nat) (p:List Nat) (off n:Nat) (cap:Option Nat):Ww h neg (.sl i p off (n+1) cap)=some (.d (.bool neg),h):=rfl
def Ok (np:Nat) (h:Heap) (i:Nat) (s:Sh) (z:D) (bytes n m:Nat):Option (V×Heap):=
 if n≤m∧m*bytes≤1099511627776 then (eh h (np+i) (.sl false s (List.replicate n z))).map (Prod.mk (.sl (np+i) [] 0 n (if n=m then some n else none))) else none
@[simp] theorem a4k (i:Nat) (s:Sh) (z:D) (bytes n m:Nat):Ok np h i s z bytes n m =
 if n≤m∧m*bytes≤1099511627776 then (eh h (np+i) (.sl false s (List.replicate n z))).map (Prod.mk (.sl (np+i) [] 0 n (if n=m then some n else none))) else none:=rfl
def Wn (np:Nat) (e:Env) (h:Heap) (i:Nat) (s:Sh) (z:D) (bytes:Nat) (c:Arg) (n:Nat):Option (V×Heap):=((e.arg c).bind V.nat?).bind (Ok np h i s z bytes n)
@[simp] theorem a5x (i:Nat) (s:Sh) (z:D) (bytes:Nat) (c:Arg) (n:Nat):Wn np e h i s z bytes c n=((e.arg c).bind V.nat?).bind (Ok np h i s z bytes n):=rfl
@[simp] theorem a7z (i:Nat) (s:Sh) (z:D) (bytes:Nat) (l c:Arg):aq O np e h (.mkSl i s z bytes l c)=((e.arg l).bind V.nat?).bind (Wn np e h i s z bytes c):=by
 simp only [aq];cases (e.arg l).bind V.nat? with
 | none=>rfl
 | some n=>
  simp only [aa,Wn];cases (e.arg c).bind V.nat? with
  | none=>rfl
  | some m=>rfl
@[simp] theorem a8s (neg:Bool) (x:Arg):aq O np e h (.nilq neg x)=(e.arg x).bind (Ww h neg):=by
 simp only [aq];cases e.arg x with
 | none=>rfl
 | some v=>
  cases v with
  | d d=>cases d <;> try rfl
         rename_i s cs; cases cs <;> rfl
  | sl i p off n cap=>cases n <;> rfl
  | _=>rfl
def Wj (h:Heap):D→Option (V×Heap)
 | .sl .leaf cs=>(tc cs).map fun bs=>(.d (.str ⟨bs.toArray⟩),h)
 | _=>none
@[simp] theorem a7t (cs:List D):Wj h (.sl .leaf cs)=(tc cs).map fun bs=>(.d (.str ⟨bs.toArray⟩),h):=rfl
def a5d (h:Heap) (v:V):Option (V×Heap):=(toE h v).bind (Wj h)
@[simp] theorem a93 (v:V):a5d h v=(toE h v).bind (Wj h):=rfl
@[simp] theorem a6d (x:Arg):aq O np e h (.toStr x)=(e.arg x).bind (a5d h):=rfl
def Hu (h:Heap) (s:Sh) (z:D) (j off n:Nat):Blk→Option (V×Heap)
 | .sl false t' cs=>if Sh.beq t' s∧off+n≤cs.length then some (.tup [],h.set j (.sl false t' (cs.take off++List.replicate n z++cs.drop (off+n)))) else none
 | _=>none
@[simp] theorem a3v (s:Sh) (z:D) (j off n:Nat) (t':Sh) (cs:List D):Hu h s z j off n (.sl false t' cs)=if Sh.beq t' s∧off+n≤cs.length then some (.tup [],h.set j (.sl false t' (cs.take off++List.replicate n z++cs.drop (off+n)))) else none:=rfl
def Nm (h:Heap) (s:Sh) (z:D):V→Option (V×Heap)
 | .sl j [] off n _=>(h[j]?).bind (Hu h s z j off n)
 | _=>none
@[simp] theorem a72 (s:Sh) (z:D) (j off n:Nat) (cap:Option Nat):Nm h s z (.sl j [] off n cap)=(h[j]?).bind (Hu h s z j off n):=rfl
@[simp] theorem a6j (s:Sh) (z:D) (x:Arg):aq O np e h (.clear s z x)=(e.arg x).bind (Nm h s z):=by
 simp only [aq];cases e.arg x with
 | none=>rfl
 | some v=>
  cases v <;> try rfl
  rename_i j p off n cap
  cases p <;> try rfl
  simp only [aa,Nm];cases h[j]? with
  | none=>rfl
  | some b=>
   cases b <;> try rfl
   rename_i fr t cs
   cases fr <;> rfl
def Vo (np:Nat) (h:Heap) (i j n:Nat):Blk→Option (V×Heap)
 | .sl false s cs=>if n=cs.length∧0<n∧np≤j then (eh (h.set j (Blk.toGone (.sl false s cs))) (np+i) (.tb false s [0] [cs])).map (Prod.mk (.sl (np+i) [0] 0 1 (some 1))) else none
 | _=>none
@[simp] theorem a7v (i j n:Nat) (s:Sh) (cs:List D):Vo np h i j n (.sl false s cs)=if n=cs.length∧0<n∧np≤j then (eh (h.set j (Blk.toGone (.sl false s cs))) (np+i) (.tb false s [0] [cs])).map (Prod.mk (.sl (np+i) [0] 0 1 (some 1))) else none:=rfl
def a2d (np:Nat) (h:Heap) (i:Nat):V→Option (V×Heap)
 | .sl j [] 0 n _=>(h[j]?).bind (Vo np h i j n)
 | _=>none
@[simp] theorem aan (i j n:Nat) (cap:Option Nat):a2d np h i (.sl j [] 0 n cap)=(h[j]?).bind (Vo np h i j n):=rfl
@[simp] theorem a5r (i:Nat) (x:Arg):aq O np e h (.tbOne i x)=(e.arg x).bind (a2d np h i):=by
 simp only [aq];cases e.arg x with
 | none=>rfl
 | some v=>
  cases v <;> try rfl
  rename_i j p off n cap
  cases p <;> try rfl
  cases off <;> try rfl
  simp only [aa,a2d];cases h[j]? with
  | none=>rfl
  | some b=>
   cases b <;> try rfl
   rename_i fr t cs
   cases fr <;> rfl
def Nr (np:Nat) (h:Heap) (bytes j n k:Nat) (s:Sh) (cs:List D) (q:List Nat×List (List D)):Option (V×Heap):=
 if n=q.1.length∧j≠k∧np≤j∧np≤k∧(n+1)*bytes≤1099511627776 then
  some (.sl j [0] 0 (n+1) none,(h.set k (Blk.toGone (.tb false s [0] [cs]))).set j (.tb false s (q.1++[q.2.length]) (q.2++[cs]))) else none
@[simp] theorem a42 (bytes j n k:Nat) (s:Sh) (cs:List D) (idx:List Nat) (rows:List (List D)):Nr np h bytes j n k s cs (idx,rows) =
 if n=idx.length∧j≠k∧np≤j∧np≤k∧(n+1)*bytes≤1099511627776 then
  some (.sl j [0] 0 (n+1) none,(h.set k (Blk.toGone (.tb false s [0] [cs]))).set j (.tb false s (idx++[rows.length]) (rows++[cs]))) else none:=rfl
def Ha (np:Nat) (h:Heap) (bytes j:Nat) (p:List Nat) (n:Nat) (cap:Option Nat) (k:Nat) (B:Blk):Blk→Option (V×Heap)
 | .tb false s [0] [cs]=>(Blk.asTb s p cap B).bind (Nr np h bytes j n k s cs)
 | _=>none
@[simp] theorem a57 (bytes j:Nat) (p:List Nat) (n:Nat) (cap:Option Nat) (k:Nat) (B:Blk) (s:Sh) (cs:List D):Ha np h bytes j p n cap k B (.tb false s [0] [cs])=(Blk.asTb s p cap B).bind (Nr np h bytes j n k s cs):=rfl
@[simp] theorem a5i (s:Sh):Blk.asTb s [] (some 0) (.sl false .leaf [])=some ([],[]):=rfl
@[simp] theorem a9e (s s':Sh) (cap:Option Nat) (idx:List Nat) (rows:List (List D)):Blk.asTb s [0] cap (.tb false s' idx rows)=if Sh.beq s' s then some (idx,rows) else none:=rfl
def Hn (np:Nat) (h:Heap) (bytes j:Nat) (p:List Nat) (n:Nat) (cap:Option Nat) (k:Nat) (B:Blk):Option (V×Heap):=(h[k]?).bind (Ha np h bytes j p n cap k B)
@[simp] theorem a4i (bytes j:Nat) (p:List Nat) (n:Nat) (cap:Option Nat) (k:Nat) (B:Blk):Hn np h bytes j p n cap k B=(h[k]?).bind (Ha np h bytes j p n cap k B):=rfl
def Q0 (np:Nat) (h:Heap) (bytes:Nat):V→V→Option (V×Heap)
 | .sl j p 0 n cap,.sl k [0] 0 1 _=>(h[j]?).bind (Hn np h bytes j p n cap k)
 | _,_=>none
@[simp] theorem a9k (bytes j:Nat) (p:List Nat) (n:Nat) (cap:Option Nat) (k:Nat) (cap':Option Nat):Q0 np h bytes (.sl j p 0 n cap) (.sl k [0] 0 1 cap')=(h[j]?).bind (Hn np h bytes j p n cap k):=rfl
def P8 (np:Nat) (e:Env) (h:Heap) (bytes:Nat) (y:Arg) (v:V):Option (V×Heap):=(e.arg y).bind (Q0 np h bytes v)
@[simp] theorem a4f (bytes:Nat) (y:Arg) (v:V):P8 np e h bytes y v=(e.arg y).bind (Q0 np h bytes v):=rfl
@[simp] theorem a4w (bytes:Nat) (x y:Arg):aq O np e h (.tbApp bytes x y)=(e.arg x).bind (P8 np e h bytes y):=by
 simp only [aq];cases e.arg x with
 | none=>rfl
 | some v=>
  simp only [aa,P8];cases e.arg y with
  | none=>split <;> simp_all
  | some w=>
   simp only [aa];unfold Q0
   split
   ·rename_i j p n cap k cap' h1 h2
    simp only [a8] at h1 h2;subst h1; subst h2;simp only;cases hj:h[j]? with
    | none=>rfl
    | some B=>
     simp only [aa,Hn];cases hk:h[k]? with
     | none=>rfl
     | some B2=>
      simp only [aa];unfold Ha
      split
      ·rename_i s cs h1 h2
       simp only [a8] at h1 h2;subst h1; subst h2;rfl
      ·rename_i hne
       split
       ·exact absurd rfl (hne _ _ _ rfl)
       ·rfl
   ·rename_i hne
    split
    ·rename_i h1 h2
     exact absurd rfl (hne _ _ _ _ _ _ rfl)
    ·rfl
def Ws (h:Heap) (i off n k:Nat):Blk→Option (V×Heap)
 | .tb _ _ idx _=>if k<n∧off+n≤idx.length then some (.ptr i [0,off+k],h) else none
 | _=>none
@[simp] theorem a8r (i off n k:Nat) (fr:Bool) (s:Sh) (idx:List Nat) (rows:List (List D)):Ws h i off n k (.tb fr s idx rows)=if k<n∧off+n≤idx.length then some (.ptr i [0,off+k],h) else none:=rfl
def Qv (h:Heap):V→Nat→Option (V×Heap)
 | .sl i [0] off n _,k=>(h[i]?).bind (Ws h i off n k)
 | _,_=>none
@[simp] theorem a7x (i off n:Nat) (cap:Option Nat) (k:Nat):Qv h (.sl i [0] off n cap) k=(h[i]?).bind (Ws h i off n k):=rfl
def a33 (e:Env) (h:Heap) (j:Arg) (v:V):Option (V×Heap):=((e.arg j).bind V.nat?).bind (Qv h v)
@[simp] theorem a8i (j:Arg) (v:V):a33 e h j v=((e.arg j).bind V.nat?).bind (Qv h v):=rfl
@[simp] theorem aa6 (x j:Arg):aq O np e h (.tbA x j)=(e.arg x).bind (a33 e h j):=by
 simp only [aq];cases e.arg x with
 | none=>rfl
 | some v=>
  simp only [aa,a33];cases (e.arg j).bind V.nat? with
  | none=>split <;> simp_all
  | some k=>
   simp only [aa];unfold Qv
   split
   ·rename_i i off n cap k' h1 h2
    simp only [a8] at h1 h2;subst h1; subst h2;simp only;cases h[i]? with
    | none=>rfl
    | some b=>cases b <;> rfl
   ·rename_i hne
    split
    ·exact absurd rfl (hne _ _ _ _ _ rfl)
    ·rfl
def Vk (h:Heap) (i r:Nat) (cs:List D):V×Heap:=(.sl i [r+1] 0 cs.length none,h)
@[simp] theorem a6a (i r:Nat) (cs:List D):Vk h i r cs=(.sl i [r+1] 0 cs.length none,h):=rfl
def V2 (h:Heap) (i:Nat) (rows:List (List D)) (r:Nat):Option (V×Heap):=(rows[r]?).map (Vk h i r)
@[simp] theorem a5w (i:Nat) (rows:List (List D)) (r:Nat):V2 h i rows r=(rows[r]?).map (Vk h i r):=rfl
def Va (h:Heap) (i k:Nat):Blk→Option (V×Heap)
 | .tb _ _ idx rows=>(idx[k]?).bind (V2 h i rows)
 | _=>none
@[simp] theorem a8p (i k:Nat) (fr:Bool) (s:Sh) (idx:List Nat) (rows:List (List D)):Va h i k (.tb fr s idx rows)=(idx[k]?).bind (V2 h i rows):=rfl
def a2u (h:Heap):V→Option (V×Heap)
 | .ptr i [0,k]=>(h[i]?).bind (Va h i k)
 | _=>none
@[simp] theorem aa4 (i k:Nat):a2u h (.ptr i [0,k])=(h[i]?).bind (Va h i k):=rfl
@[simp] theorem a46 (x:Arg):aq O np e h (.tbLoad x)=(e.arg x).bind (a2u h):=by
 simp only [aq];cases e.arg x with
 | none=>rfl
 | some v=>
  simp only [aa];unfold a2u
  split
  ·rename_i i k h1
   simp only [a8] at h1;subst h1;simp only;cases h[i]? with
   | none=>rfl
   | some b=>cases b <;> rfl
  ·rename_i hne
   split
   ·exact absurd rfl (hne _ _)
   ·rfl
def Ur (h:Heap) (i k i' r n:Nat):Blk→Option (V×Heap)
 | .tb false s idx rows=>if i=i'∧k<idx.length∧0<n∧(rows[r]?).map List.length=some n then some (.tup [],h.set i (.tb false s (idx.set k r) rows)) else none
 | _=>none
@[simp] theorem a80 (i k i' r n:Nat) (s:Sh) (idx:List Nat) (rows:List (List D)):Ur h i k i' r n (.tb false s idx rows) =
 if i=i'∧k<idx.length∧0<n∧(rows[r]?).map List.length=some n then some (.tup [],h.set i (.tb false s (idx.set k r) rows)) else none:=rfl
def Yz (h:Heap):V→V→Option (V×Heap)
 | .ptr i [0,k],.sl i' [r+1] 0 n _=>(h[i]?).bind (Ur h i k i' r n)
 | _,_=>none
@[simp] theorem aac (i k i' r n:Nat) (cap:Option Nat):Yz h (.ptr i [0,k]) (.sl i' [r+1] 0 n cap)=(h[i]?).bind (Ur h i k i' r n):=rfl
def Ub (e:Env) (h:Heap) (y:Arg) (v:V):Option (V×Heap):=(e.arg y).bind (Yz h v)
@[simp] theorem a55 (y:Arg) (v:V):Ub e h y v=(e.arg y).bind (Yz h v):=rfl
@[simp] theorem a1q (x y:Arg):aq O np e h (.tbStore x y)=(e.arg x).bind (Ub e h y):=by
 simp only [aq];cases e.arg x with
 | none=>rfl
 | some v=>
  simp only [aa,Ub];cases e.arg y with
  | none=>split <;> simp_all
  | some w=>
   simp only [aa];unfold Yz
   split
   ·rename_i i k i' r n cap h1 h2
    simp only [a8] at h1 h2;subst h1; subst h2;simp only;cases h[i]? with
    | none=>rfl
    | some b=>
     cases b <;> try rfl
     rename_i fr s idx rows
     cases fr <;> rfl
   ·rename_i hne
    split
    ·exact absurd rfl (hne _ _ _ _ _ _ rfl)
    ·rfl
@[simp] theorem a62 (i:Nat):aq O np e h (.mkMap i)=(eh h (np+i) (.mp false [])).map (Prod.mk (.mp (np+i))):=rfl
def Pc (h:Heap) (k:ByteArray):Blk→Option (V×Heap)
 | .mp _ es=>some (.d (.int .i64 ((uc k es).getD 0)),h)
 | _=>none
@[simp] theorem a73 (k:ByteArray) (fr:Bool) (es:List (ByteArray×Int)):Pc h k (.mp fr es)=some (.d (.int .i64 ((uc k es).getD 0)),h):=rfl
def Qb (h:Heap):V→V→Option (V×Heap)
 | .mp j,.d (.str k)=>(h[j]?).bind (Pc h k)
 | _,_=>none
@[simp] theorem a8l (j:Nat) (k:ByteArray):Qb h (.mp j) (.d (.str k))=(h[j]?).bind (Pc h k):=rfl
def Mk (e:Env) (h:Heap) (k:Arg) (v:V):Option (V×Heap):=(e.arg k).bind (Qb h v)
@[simp] theorem a4a (k:Arg) (v:V):Mk e h k v=(e.arg k).bind (Qb h v):=rfl
@[simp] theorem a4d (x k:Arg):aq O np e h (.mapGet x k)=(e.arg x).bind (Mk e h k):=by
 simp only [aq];cases e.arg x with
 | none=>rfl
 | some v=>
  simp only [aa,Mk];cases e.arg k with
  | none=>cases v <;> rfl
  | some w=>
   cases v <;> try rfl
   cases w <;> try rfl
   rename_i j d
   cases d <;> try rfl
   simp only [aa,Qb];cases h[j]? with
   | none=>rfl
   | some b=>cases b <;> rfl
def P6 (h:Heap) (j:Nat) (k:ByteArray) (n:Int):Blk→Option (V×Heap)
 | .mp false es=>some (.tup [],h.set j (.mp false (n9 k n es)))
 | _=>none
@[simp] theorem a77 (j:Nat) (k:ByteArray) (n:Int) (es:List (ByteArray×Int)):P6 h j k n (.mp false es)=some (.tup [],h.set j (.mp false (n9 k n es))):=rfl
def Rk (h:Heap):V→V→V→Option (V×Heap)
 | .mp j,.d (.str k),.d (.int .i64 n)=>(h[j]?).bind (P6 h j k n)
 | _,_,_=>none
@[simp] theorem a82 (j:Nat) (k:ByteArray) (n:Int):Rk h (.mp j) (.d (.str k)) (.d (.int .i64 n))=(h[j]?).bind (P6 h j k n):=rfl
def I9 (e:Env) (h:Heap) (y:Arg) (v w:V):Option (V×Heap):=(e.arg y).bind (Rk h v w)
@[simp] theorem a48 (y:Arg) (v w:V):I9 e h y v w=(e.arg y).bind (Rk h v w):=rfl
def Ny (e:Env) (h:Heap) (k y:Arg) (v:V):Option (V×Heap):=(e.arg k).bind (I9 e h y v)
@[simp] theorem a3x (k y:Arg) (v:V):Ny e h k y v=(e.arg k).bind (I9 e h y v):=rfl
@[simp] theorem a4v (x k y:Arg):aq O np e h (.mapSet x k y)=(e.arg x).bind (Ny e h k y):=by
 simp only [aq];cases e.arg x with
 | none=>rfl
 | some v=>
  simp only [aa,Ny];cases e.arg k with
  | none=>cases v <;> rfl
  | some w=>
   simp only [aa,I9];cases e.arg y with
   | none=>
    cases v <;> try rfl
    cases w <;> try rfl
    rename_i j d; cases d <;> rfl
   | some u=>
    cases v <;> try rfl
    cases w <;> try rfl
    rename_i j d
    cases d <;> try rfl
    cases u <;> try rfl
    rename_i d
    cases d <;> try rfl
    rename_i kk n
    cases kk <;> try rfl
    simp only [aa,Rk];cases h[j]? with
    | none=>rfl
    | some b=>
     cases b <;> try rfl
     rename_i fr es
     cases fr <;> rfl
def U4 (np:Nat) (h:Heap) (s:Sh) (i bytes:Nat) (t:Sh) (ys:List D) (j off n:Nat) (cap:Option Nat):Blk→Option (V×Heap)
 | .sl fr t' cs=>if Sh.beq t s∧Sh.beq t' s∧off+n≤cs.length∧(n+ys.length)*bytes≤1099511627776 then
  (if fr=false∧np≤j then some (.sl j [] 0 (n+ys.length) none,h.set j (.sl false s ((cs.drop off).take n++ys)))
  else if cap=some n∧ys≠[] then (eh h (np+i) (.sl false s ((cs.drop off).take n++ys))).map (Prod.mk (.sl (np+i) [] 0 (n+ys.length) none))
  else none) else none
 | _=>none
@[simp] theorem a7f (s:Sh) (i bytes:Nat) (t:Sh) (ys:List D) (j off n:Nat) (cap:Option Nat) (fr:Bool) (t':Sh) (cs:List D):U4 np h s i bytes t ys j off n cap (.sl fr t' cs) =
 if Sh.beq t s∧Sh.beq t' s∧off+n≤cs.length∧(n+ys.length)*bytes≤1099511627776 then
  (if fr=false∧np≤j then some (.sl j [] 0 (n+ys.length) none,h.set j (.sl false s ((cs.drop off).take n++ys)))
  else if cap=some n∧ys≠[] then (eh h (np+i) (.sl false s ((cs.drop off).take n++ys))).map (Prod.mk (.sl (np+i) [] 0 (n+ys.length) none))
  else none) else none:=rfl
def Qa (np:Nat) (h:Heap) (s:Sh) (i bytes:Nat):D→V→Option (V×Heap)
 | .sl t ys,.sl j [] off n cap=>(h[j]?).bind (U4 np h s i bytes t ys j off n cap)
 | .sl t (y::ys),.d (.nils t')=>if Sh.beq t s∧Sh.beq t' s∧(ys.length+1)*bytes≤1099511627776 then
  (eh h (np+i) (.sl false s (y::ys))).map (Prod.mk (.sl (np+i) [] 0 (ys.length+1) none)) else none
 | _,_=>none
@[simp] theorem a0m (s:Sh) (i bytes:Nat) (t:Sh) (ys:List D) (j off n:Nat) (cap:Option Nat):Qa np h s i bytes (.sl t ys) (.sl j [] off n cap)=(h[j]?).bind (U4 np h s i bytes t ys j off n cap):=by
 cases ys <;> rfl
@[simp] theorem a9h (s:Sh) (i bytes:Nat) (t t':Sh) (y:D) (ys:List D):Qa np h s i bytes (.sl t (y::ys)) (.d (.nils t'))=if Sh.beq t s∧Sh.beq t' s∧(ys.length+1)*bytes≤1099511627776 then
 (eh h (np+i) (.sl false s (y::ys))).map (Prod.mk (.sl (np+i) [] 0 (ys.length+1) none)) else none:=rfl
def Ph (np:Nat) (e:Env) (h:Heap) (s:Sh) (i bytes:Nat) (x:Arg) (d:D):Option (V×Heap):=(e.arg x).bind (Qa np h s i bytes d)
@[simp] theorem a6s (s:Sh) (i bytes:Nat) (x:Arg) (d:D):Ph np e h s i bytes x d=(e.arg x).bind (Qa np h s i bytes d):=rfl
def a3i (np:Nat) (e:Env) (h:Heap) (s:Sh) (i bytes:Nat) (x:Arg) (w:V):Option (V×Heap):=(toE h w).bind (Ph np e h s i bytes x)
@[simp] theorem a8v (s:Sh) (i bytes:Nat) (x:Arg) (w:V):a3i np e h s i bytes x w=(toE h w).bind (Ph np e h s i bytes x):=rfl
@[simp] theorem a45 (s:Sh) (i bytes:Nat) (x y:Arg):aq O np e h (.append s i bytes x y)=(e.arg y).bind (a3i np e h s i bytes x):=by
 simp only [aq];cases e.arg y with
 | none=>rfl
 | some w=>
  simp only [aa,a3i];cases toE h w with
  | none=>rfl
  | some d=>
   simp only [aa,Ph];cases e.arg x with
   | none=>cases d <;> try rfl
   | some v=>
    cases d <;> try (cases v <;> rfl)
    rename_i t ys
    cases v with
    | sl j p off n cap=>
     cases p with
     | nil=>
      simp only [aa,a0m];cases h[j]? with
      | none=>rfl
      | some b=>cases b <;> rfl
     | cons _ _=>cases ys <;> rfl
    | d d=>cases ys <;> cases d <;> rfl
    | _=>cases ys <;> rfl
def Q5 (h:Heap):Option Nat→Sh→V→Nat→Option (V×Heap)
 | some n,s,.d (.arr n' t cs),k=>if n'=n∧Sh.beq t s then (cs[k]?).map (kD h) else none
 | none,_,.d (.str b),k=>(b[k]?).map fun c=>(.d (.int .u8 c.toNat),h)
 | _,_,_,_=>none
@[simp] theorem a8d (n n':Nat) (s t:Sh) (cs:List D) (k:Nat):Q5 h (some n) s (.d (.arr n' t cs)) k=if n'=n∧Sh.beq t s then (cs[k]?).map (kD h) else none:=rfl
@[simp] theorem a84 (s:Sh) (b:ByteArray) (k:Nat):Q5 h none s (.d (.str b)) k=(b[k]?).map fun c=>(.d (.int .u8 c.toNat),h):=rfl
def a0e (e:Env) (h:Heap) (ar:Option Nat) (s:Sh) (j:Arg) (v:V):Option (V×Heap):=((e.arg j).bind V.nat?).bind (Q5 h ar s v)
@[simp] theorem a8o (ar:Option Nat) (s:Sh) (j:Arg) (v:V):a0e e h ar s j v=((e.arg j).bind V.nat?).bind (Q5 h ar s v):=rfl
@[simp] theorem aa1 (ar:Option Nat) (s:Sh) (x j:Arg):aq O np e h (.idx ar s x j)=(e.arg x).bind (a0e e h ar s j):=by
 cases ar <;> simp only [aq]
 ·cases e.arg x with
  | none=>rfl
  | some v=>
   simp only [aa,a0e];cases (e.arg j).bind V.nat? with
   | none=>cases v <;> try rfl
           rename_i d; cases d <;> rfl
   | some k=>cases v <;> try rfl
             rename_i d; cases d <;> rfl
 ·cases e.arg x with
  | none=>rfl
  | some v=>
   simp only [aa,a0e];cases (e.arg j).bind V.nat? with
   | none=>cases v <;> try rfl
           rename_i d; cases d <;> rfl
   | some k=>cases v <;> try rfl
             rename_i d; cases d <;> rfl
def Om (h:Heap) (n:Nat) (s:Sh) (i:Nat) (p:List Nat) (k:Nat):D→Option (V×Heap)
 | .arr n' t _=>if n'=n∧Sh.beq t s∧k<n then some (.ptr i (p++[k]),h) else none
 | _=>none
@[simp] theorem a7q (n n':Nat) (s t:Sh) (i:Nat) (p:List Nat) (k:Nat) (cs:List D):Om h n s i p k (.arr n' t cs)=if n'=n∧Sh.beq t s∧k<n then some (.ptr i (p++[k]),h) else none:=rfl
def Q9 (h:Heap) (n:Nat) (s:Sh):V→Nat→Option (V×Heap)
 | .ptr i p,k=>((h[i]?).bind (Bd p)).bind (Om h n s i p k)
 | .d (.ip (.arr n' t cs)),k=>if n'=n∧Sh.beq t s then (cs[k]?).map (kIp h) else none
 | _,_=>none
@[simp] theorem Yv (n:Nat) (s:Sh) (i:Nat) (p:List Nat) (k:Nat):Q9 h n s (.ptr i p) k=((h[i]?).bind (Bd p)).bind (Om h n s i p k):=rfl
@[simp] theorem a8f (n n':Nat) (s t:Sh) (cs:List D) (k:Nat):Q9 h n s (.d (.ip (.arr n' t cs))) k=if n'=n∧Sh.beq t s then (cs[k]?).map (kIp h) else none:=rfl
def Mj (e:Env) (h:Heap) (n:Nat) (s:Sh) (j:Arg) (v:V):Option (V×Heap):=((e.arg j).bind V.nat?).bind (Q9 h n s v)
@[simp] theorem a3p (n:Nat) (s:Sh) (j:Arg) (v:V):Mj e h n s j v=((e.arg j).bind V.nat?).bind (Q9 h n s v):=rfl
@[simp] theorem a7y (n:Nat) (s:Sh) (x j:Arg):aq O np e h (.idxA (some n) s x j)=(e.arg x).bind (Mj e h n s j):=by
 simp only [aq];cases e.arg x with
 | none=>rfl
 | some v=>
  simp only [aa,Mj];cases (e.arg j).bind V.nat? with
  | none=>cases v <;> try rfl
          rename_i d; cases d <;> try rfl
          rename_i d; cases d <;> rfl
  | some k=>
   cases v with
   | ptr i p=>
    simp only [Yv,aa];show ((h[i]?).bind (Bd p)).bind _=_
    congr 1
   | d d=>cases d <;> try rfl
          rename_i d; cases d <;> rfl
   | _=>rfl
def a21 (h:Heap) (neg:Bool) (q:Q):V→V→Option (V×Heap)
 | .d a,.d b=>(D.beq q a b).map fun r=>(.d (.bool (if neg then !r else r)),h)
 | _,_=>none
@[simp] theorem aav (neg:Bool) (q:Q) (a b:D):a21 h neg q (.d a) (.d b)=(D.beq q a b).map fun r=>(.d (.bool (if neg then !r else r)),h):=rfl
def Wb (e:Env) (h:Heap) (neg:Bool) (q:Q) (y:Arg) (v:V):Option (V×Heap):=(e.arg y).bind (a21 h neg q v)
@[simp] theorem a5j (neg:Bool) (q:Q) (y:Arg) (v:V):Wb e h neg q y v=(e.arg y).bind (a21 h neg q v):=rfl
@[simp] theorem aad (neg:Bool) (q:Q) (x y:Arg):aq O np e h (.eqv neg q x y)=(e.arg x).bind (Wb e h neg q y):=by
 simp only [aq];cases e.arg x with
 | none=>rfl
 | some v=>
  simp only [aa,Wb];cases e.arg y with
  | none=>cases v <;> rfl
  | some w=>cases v <;> cases w <;> rfl
def Ni (h:Heap) (s t:Sh) (cs:List D) (m b a:Nat):Option (V×Heap):=if Sh.beq t s∧a≤b∧b≤m∧m≤cs.length then some (.d (.sl t ((cs.drop a).take (b-a))),h) else none
@[simp] theorem a43 (s t:Sh) (cs:List D) (m b a:Nat):Ni h s t cs m b a=if Sh.beq t s∧a≤b∧b≤m∧m≤cs.length then some (.d (.sl t ((cs.drop a).take (b-a))),h) else none:=rfl
def Ng (e:Env) (h:Heap) (s t:Sh) (cs:List D) (lo:Option Arg) (m b:Nat):Option (V×Heap):=(ct e lo 0).bind (Ni h s t cs m b)
@[simp] theorem a3t (s t:Sh) (cs:List D) (lo:Option Arg) (m b:Nat):Ng e h s t cs lo m b=(ct e lo 0).bind (Ni h s t cs m b):=rfl
def No (e:Env) (h:Heap) (s t:Sh) (cs:List D) (lo hi:Option Arg) (m:Nat):Option (V×Heap):=(ct e hi cs.length).bind (Ng e h s t cs lo m)
@[simp] theorem a4q (s t:Sh) (cs:List D) (lo hi:Option Arg) (m:Nat):No e h s t cs lo hi m=(ct e hi cs.length).bind (Ng e h s t cs lo m):=rfl
def N5 (h:Heap) (s t:Sh) (i:Nat) (p:List Nat) (off n:Nat) (cap:Option Nat) (ismx:Bool) (m b a:Nat):Option (V×Heap):=if Sh.beq t s∧a≤b∧b≤m∧m≤n then some (.sl i p (off+a) (b-a) (if ismx then some (m-a) else cap.map (· - a)),h) else none
@[simp] theorem a3r (s t:Sh) (i:Nat) (p:List Nat) (off n:Nat) (cap:Option Nat) (ismx:Bool) (m b a:Nat):N5 h s t i p off n cap ismx m b a=if Sh.beq t s∧a≤b∧b≤m∧m≤n then some (.sl i p (off+a) (b-a) (if ismx then some (m-a) else cap.map (· - a)),h) else none:=rfl
def Md (e:Env) (h:Heap) (s t:Sh) (i:Nat) (p:List Nat) (off n:Nat) (cap:Option Nat) (ismx:Bool) (lo:Option Arg) (m b:Nat):Option (V×Heap):=(ct e lo 0).bind (N5 h s t i p off n cap ismx m b)
@[simp] theorem a3z (s t:Sh) (i:Nat) (p:List Nat) (off n:Nat) (cap:Option Nat) (ismx:Bool) (lo:Option Arg) (m b:Nat):Md e h s t i p off n cap ismx lo m b=(ct e lo 0).bind (N5 h s t i p off n cap ismx m b):=rfl
def Nk (e:Env) (h:Heap) (s t:Sh) (i:Nat) (p:List Nat) (off n:Nat) (cap:Option Nat) (ismx:Bool) (lo hi:Option Arg) (m:Nat):Option (V×Heap):=(ct e hi n).bind (Md e h s t i p off n cap ismx lo m)
@[simp] theorem a3y (s t:Sh) (i:Nat) (p:List Nat) (off n:Nat) (cap:Option Nat) (ismx:Bool) (lo hi:Option Arg) (m:Nat):Nk e h s t i p off n cap ismx lo hi m=(ct e hi n).bind (Md e h s t i p off n cap ismx lo m):=rfl
def Or (e:Env) (h:Heap) (s:Sh) (i:Nat) (p:List Nat) (off n:Nat) (cap:Option Nat) (mx lo hi:Option Arg):Sh×List D→Option (V×Heap)
 | (t,_)=>(ct e mx n).bind (Nk e h s t i p off n cap mx.isSome lo hi)
@[simp] theorem a4g (s:Sh) (i:Nat) (p:List Nat) (off n:Nat) (cap:Option Nat) (mx lo hi:Option Arg) (t:Sh) (cs:List D):Or e h s i p off n cap mx lo hi (t,cs)=(ct e mx n).bind (Nk e h s t i p off n cap mx.isSome lo hi):=rfl
def a1m (e:Env) (h:Heap) (s:Sh) (lo hi mx:Option Arg):V→Option (V×Heap)
 | .d (.sl t cs)=>(ct e mx cs.length).bind (No e h s t cs lo hi)
 | .sl i p off n cap=>((h[i]?).bind (kEl p)).bind (Or e h s i p off n cap mx lo hi)
 | _=>none
@[simp] theorem aaq (s t:Sh) (cs:List D) (lo hi mx:Option Arg):a1m e h s lo hi mx (.d (.sl t cs))=(ct e mx cs.length).bind (No e h s t cs lo hi):=rfl
@[simp] theorem a3m (s:Sh) (i:Nat) (p:List Nat) (off n:Nat) (cap:Option Nat) (lo hi mx:Option Arg):a1m e h s lo hi mx (.sl i p off n cap)=((h[i]?).bind (kEl p)).bind (Or e h s i p off n cap mx lo hi):=rfl
@[simp] theorem aa0 (s:Sh) (x:Arg) (lo hi mx:Option Arg):aq O np e h (.cut none s x lo hi mx)=(e.arg x).bind (a1m e h s lo hi mx):=by
 simp only [aq];cases e.arg x with
 | none=>rfl
 | some v=>
  cases v with
  | d d=>cases d <;> rfl
  | sl i p off n cap=>
   simp only [aa,a3m];show ((h[i]?).bind (kEl p)).bind _=_
   congr 1
   funext q
   obtain ⟨t,cs⟩:=q;cases mx <;> rfl
  | _=>rfl
def Hd (h:Heap) (n:Nat) (i:Nat) (p:List Nat) (m b a:Nat):Option (V×Heap):=if a≤b∧b≤m∧m≤n then some (.sl i p a (b-a) (some (m-a)),h) else none
@[simp] theorem a3q (n i:Nat) (p:List Nat) (m b a:Nat):Hd h n i p m b a=if a≤b∧b≤m∧m≤n then some (.sl i p a (b-a) (some (m-a)),h) else none:=rfl
def Hf (e:Env) (h:Heap) (n:Nat) (i:Nat) (p:List Nat) (lo:Option Arg) (m b:Nat):Option (V×Heap):=(ct e lo 0).bind (Hd h n i p m b)
@[simp] theorem a4j (n i:Nat) (p:List Nat) (lo:Option Arg) (m b:Nat):Hf e h n i p lo m b=(ct e lo 0).bind (Hd h n i p m b):=rfl
def Hr (e:Env) (h:Heap) (n:Nat) (i:Nat) (p:List Nat) (lo hi:Option Arg) (m:Nat):Option (V×Heap):=(ct e hi n).bind (Hf e h n i p lo m)
@[simp] theorem a40 (n i:Nat) (p:List Nat) (lo hi:Option Arg) (m:Nat):Hr e h n i p lo hi m=(ct e hi n).bind (Hf e h n i p lo m):=rfl
def H5 (e:Env) (h:Heap) (n:Nat) (s:Sh) (i:Nat) (p:List Nat) (lo hi mx:Option Arg):D→Option (V×Heap)
 | .arr n' t _=>if n'=n∧Sh.beq t s then (ct e mx n).bind (Hr e h n i p lo hi) else none
 | _=>none
@[simp] theorem a7i (n n':Nat) (s t:Sh) (cs:List D) (i:Nat) (p:List Nat) (lo hi mx:Option Arg):H5 e h n s i p lo hi mx (.arr n' t cs)=if n'=n∧Sh.beq t s then (ct e mx n).bind (Hr e h n i p lo hi) else none:=rfl
def a11 (e:Env) (h:Heap) (n:Nat) (s:Sh) (lo hi mx:Option Arg):V→Option (V×Heap)
 | .ptr i p=>((h[i]?).bind (Bd p)).bind (H5 e h n s i p lo hi mx)
 | .d (.ip (.arr n' t cs))=>(ct e mx n).bind fun m=>(ct e hi n).bind fun b=>(ct e lo 0).bind fun a=>
  if n'=n∧Sh.beq t s∧a≤b∧b≤m∧m≤n then some (.d (.sl t ((cs.drop a).take (b-a))),h) else none
 | _=>none
@[simp] theorem a09 (n:Nat) (s:Sh) (lo hi mx:Option Arg) (i:Nat) (p:List Nat):a11 e h n s lo hi mx (.ptr i p)=((h[i]?).bind (Bd p)).bind (H5 e h n s i p lo hi mx):=rfl
@[simp] theorem a8b (n:Nat) (s:Sh) (x:Arg) (lo hi mx:Option Arg):aq O np e h (.cut (some n) s x lo hi mx)=(e.arg x).bind (a11 e h n s lo hi mx):=by
 simp only [aq];cases e.arg x with
 | none=>rfl
 | some v=>
 cases v with
 | d d=>cases d <;> try rfl
        rename_i d; cases d <;> rfl
 | ptr i p=>
 simp only [aa,a09];show ((h[i]?).bind (Bd p)).bind _=_
 congr 1
 funext y
 cases y <;> try rfl
 rename_i n' t cs
 simp only [H5]
 by_cases hc:n'=n∧Sh.beq t s=true
 ·rw [if_pos hc]
  cases ct e mx n with
  | none=>rfl
  | some m=>
   simp only [aa,Hr];cases ct e hi n with
   | none=>rfl
   | some b=>
    simp only [aa,Hf];cases ct e lo 0 with
    | none=>rfl
    | some a=>simp only [aa,Hd,hc,true_and]
 ·rw [if_neg hc]
  cases ct e mx n with
  | none=>rfl
  | some m=>
   simp only [aa];cases ct e hi n with
   | none=>rfl
   | some b=>
    simp only [aa];cases ct e lo 0 with
    | none=>rfl
    | some a=>
     simp only [aa];rw [if_neg]
     rintro ⟨h1,h2,_⟩
     exact hc ⟨h1,h2⟩
 | _=>rfl
def a3d (h:Heap) (n:Nat) (s:Sh) (cs:List D):V×Heap:=(.d (.arr n s cs),h)
@[simp] theorem a89 (n:Nat) (s:Sh) (cs:List D):a3d h n s cs=(.d (.arr n s cs),h):=rfl
def kSt (h:Heap) (ss:List Sh) (cs:List D):V×Heap:=(.d (.st ss cs),h)
@[simp] theorem a9t (ss:List Sh) (cs:List D):kSt h ss cs=(.d (.st ss cs),h):=rfl
def Bm (xs:List (Nat×D)):D→Heap→Option (V×Heap)
 | .arr n s cs,h=>(mi cs xs).map (a3d h n s)
 | .st ss cs,h=>(mi cs xs).map (kSt h ss)
 | _,_=>none
@[simp] theorem a47 (xs:List (Nat×D)) (n:Nat) (s:Sh) (cs:List D):Bm xs (.arr n s cs) h=(mi cs xs).map (a3d h n s):=rfl
@[simp] theorem a4b (xs:List (Nat×D)) (ss:List Sh) (cs:List D):Bm xs (.st ss cs) h=(mi cs xs).map (kSt h ss):=rfl
def Nf (h:Heap) (fz:Bool) (z:D) (rs:List Nat) (xs:List (Nat×D)):Option (V×Heap):=(freezeIf fz h rs).bind (Bm xs z)
@[simp] theorem a4u (fz:Bool) (z:D) (rs:List Nat) (xs:List (Nat×D)):Nf h fz z rs xs=(freezeIf fz h rs).bind (Bm xs z):=rfl
@[simp] theorem a4z (fz:Bool) (z:D) (ps:List (Nat×Arg)):aq O np e h (.build fz z ps)=(fx e h ps).bind (Nf h fz z (dh e ps)):=by
 simp only [aq];cases fx e h ps with
 | none=>rfl
 | some xs=>
  simp only [aa,Nf];cases freezeIf fz h (dh e ps) with
  | none=>rfl
  | some h'=>cases z <;> rfl
def W0 (id n:Nat) (s:Sh) (cs:List D) (h:Heap):Option (V×Heap):=(eh h id (.sl false s cs)).map (Prod.mk (.sl id [] 0 n (some n)))
@[simp] theorem a6u (id n:Nat) (s:Sh) (cs:List D):W0 id n s cs h=(eh h id (.sl false s cs)).map (Prod.mk (.sl id [] 0 n (some n))):=rfl
def Up (h:Heap) (fz:Bool) (id n:Nat) (s:Sh) (rs:List Nat) (cs:List D):Option (V×Heap):=(freezeIf fz h rs).bind (W0 id n s cs)
@[simp] theorem a6q (fz:Bool) (id n:Nat) (s:Sh) (rs:List Nat) (cs:List D):Up h fz id n s rs cs=(freezeIf fz h rs).bind (W0 id n s cs):=rfl
def a1c (h:Heap) (fz:Bool) (id n:Nat) (s:Sh) (z:D) (rs:List Nat) (xs:List (Nat×D)):Option (V×Heap):=(mi (List.replicate n z) xs).bind (Up h fz id n s rs)
@[simp] theorem a5z (fz:Bool) (id n:Nat) (s:Sh) (z:D) (rs:List Nat) (xs:List (Nat×D)):a1c h fz id n s z rs xs=(mi (List.replicate n z) xs).bind (Up h fz id n s rs):=rfl
@[simp] theorem a2w (fz:Bool) (i:Nat) (s:Sh) (z:D) (n:Nat) (ps:List (Nat×Arg)):aq O np e h (.buildSl fz i s z n ps)=(fx e h ps).bind (a1c h fz (np+i) n s z (dh e ps)):=rfl
end
@[simp] theorem a41 (k:IntKind) (n:Int):(D.int k n).isTup=false:=rfl
@[simp] theorem aaw (k:IntKind) (n:Int):(D.int k n).sh=.leaf:=rfl
@[simp] theorem a2h (b:Bool):(D.bool b).isTup=false:=rfl
@[simp] theorem a7u (b:Bool):(D.bool b).sh=.leaf:=rfl
@[simp] theorem a3u (s:ByteArray):(D.str s).isTup=false:=rfl
@[simp] theorem aaz (s:ByteArray):(D.str s).sh=.leaf:=rfl
@[simp] theorem a4h (n:Nat) (s:Sh) (cs:List D):(D.arr n s cs).isTup=false:=rfl
@[simp] theorem a9x (n:Nat) (s:Sh) (cs:List D):(D.arr n s cs).sh=.arr n s:=rfl
@[simp] theorem a5e (ss:List Sh) (cs:List D):(D.st ss cs).isTup=false:=rfl
@[simp] theorem ab7 (ss:List Sh) (cs:List D):(D.st ss cs).sh=.st ss:=rfl
@[simp] theorem a6g (s:Sh) (cs:List D):(D.sl s cs).isTup=false:=rfl
@[simp] theorem aba (s:Sh) (cs:List D):(D.sl s cs).sh=.leaf:=rfl
@[simp] theorem a3n (cs:List D):(D.tup cs).isTup=true:=rfl
@[simp] theorem aa5 (cs:List D):(D.tup cs).sh=.leaf:=rfl
@[simp] theorem a50 (d:D):(D.ip d).isTup=false:=rfl
@[simp] theorem ab9 (d:D):(D.ip d).sh=.leaf:=rfl
@[simp] theorem a26  : D.nilp.isTup=false:=rfl
@[simp] theorem a85  : D.nilp.sh=.leaf:=rfl
@[simp] theorem a3h (s:Sh):(D.nils s).isTup=false:=rfl
@[simp] theorem a9i (s:Sh):(D.nils s).sh=.leaf:=rfl
@[simp] theorem a67 (f:Nat) (a b:List D):(D.fn f a b).isTup=false:=rfl
@[simp] theorem ab5 (f:Nat) (a b:List D):(D.fn f a b).sh=.leaf:=rfl
@[simp] theorem a2v  : D.nilf.isTup=false:=rfl
@[simp] theorem a8a  : D.nilf.sh=.leaf:=rfl
@[simp] theorem a1a (n:Nat) (d:D):(D.iface n d).isTup=false:=rfl
@[simp] theorem a5q (n:Nat) (d:D):(D.iface n d).sh=.leaf:=rfl
@[simp] theorem a3e  : D.nili.isTup=false:=rfl
@[simp] theorem a9m  : D.nili.sh=.leaf:=rfl
def a6b (k:IntKind) (x y:Int):Int:=k.wrap (BitVec.ofInt k.bits x &&& BitVec.ofInt k.bits y).toNat
def orI (k:IntKind) (x y:Int):Int:=k.wrap (BitVec.ofInt k.bits x ||| BitVec.ofInt k.bits y).toNat
def a9z (k:IntKind) (x y:Int):Int:=k.wrap (BitVec.ofInt k.bits x ^^^ BitVec.ofInt k.bits y).toNat
section
variable (k:IntKind) (x y:Int)
@[simp] theorem a6t:tf .add k x y=some (.int k (k.wrap (x+y))):=rfl
@[simp] theorem a5m:tf .sub k x y=some (.int k (k.wrap (x-y))):=rfl
@[simp] theorem a76:tf .mul k x y=some (.int k (k.wrap (x*y))):=rfl
@[simp] theorem a6n:tf .quo k x y=if y=0 then none else some (.int k (k.wrap (x.tdiv y))):=rfl
@[simp] theorem a5s:tf .rem k x y=if y=0 then none else some (.int k (x.tmod y)):=rfl
@[simp] theorem a65:tf .and k x y=some (.int k (a6b k x y)):=rfl
@[simp] theorem a8k:tf .or k x y=some (.int k (orI k x y)):=rfl
@[simp] theorem a56:tf .xor k x y=some (.int k (a9z k x y)):=rfl
@[simp] theorem a7r:tf .eql k x y=some (.bool (decide (x=y))):=rfl
@[simp] theorem a4x:tf .neq k x y=some (.bool (!decide (x=y))):=rfl
@[simp] theorem a5o:tf .lss k x y=some (.bool (decide (x<y))):=rfl
@[simp] theorem a7b:tf .leq k x y=some (.bool (decide (x≤y))):=rfl
@[simp] theorem a5l:tf .gtr k x y=some (.bool (decide (y<x))):=rfl
@[simp] theorem a6e:tf .geq k x y=some (.bool (decide (y≤x))):=rfl
end
def re (o:BinOp) (k k':IntKind) (a b:Int):Option D:=if k=k' then tf o k a b else none
@[simp] theorem a6c (o:BinOp) (k:IntKind) (a b:Int):re o k k a b=tf o k a b:=if_pos rfl
section
variable (k k':IntKind) (a b:Int)
@[simp] theorem a7d:sd .shl (.int k a) (.int k' b)=xy .shl k a b:=rfl
@[simp] theorem a7c:sd .shr (.int k a) (.int k' b)=xy .shr k a b:=rfl
@[simp] theorem a60:sd .add (.int k a) (.int k' b)=re .add k k' a b:=rfl
@[simp] theorem a5k:sd .sub (.int k a) (.int k' b)=re .sub k k' a b:=rfl
@[simp] theorem a71:sd .mul (.int k a) (.int k' b)=re .mul k k' a b:=rfl
@[simp] theorem a7j:sd .quo (.int k a) (.int k' b)=re .quo k k' a b:=rfl
@[simp] theorem a7p:sd .rem (.int k a) (.int k' b)=re .rem k k' a b:=rfl
@[simp] theorem a51:sd .and (.int k a) (.int k' b)=re .and k k' a b:=rfl
@[simp] theorem a95:sd .or (.int k a) (.int k' b)=re .or k k' a b:=rfl
@[simp] theorem a5p:sd .xor (.int k a) (.int k' b)=re .xor k k' a b:=rfl
@[simp] theorem a54:sd .eql (.int k a) (.int k' b)=re .eql k k' a b:=rfl
@[simp] theorem a75:sd .neq (.int k a) (.int k' b)=re .neq k k' a b:=rfl
@[simp] theorem a6k:sd .lss (.int k a) (.int k' b)=re .lss k k' a b:=rfl
@[simp] theorem a53:sd .leq (.int k a) (.int k' b)=re .leq k k' a b:=rfl
@[simp] theorem a5u:sd .gtr (.int k a) (.int k' b)=re .gtr k k' a b:=rfl
@[simp] theorem a5n:sd .geq (.int k a) (.int k' b)=re .geq k k' a b:=rfl
end
@[simp] theorem a7l (o:BinOp) (a b:ByteArray):sd o (.str a) (.str b)=(match o with | .shl | .shr=>none | o=>Yq o a b):=by cases o <;> rfl
attribute [simp] jr
attribute [simp] Env.clear Y6 a2p a0i a1p V3 andThen Qw fin mw a0y Ins.side Ins.on Env.arg Env.get Env.keep Env.kill Op.kill Env.putO Env.refsOf Op.temps Arg.temps ve se qh
 V.refs V.refss Sh.beq Sh.beqs Blk.get Blk.set Blk.elems D.get D.set D.arrOf freezeIf freeze Blk.freeze eh mi fx dh ct V.nat? unD callee pb Heap.pick Heap.put putNews Blk.isHole V.ren V.rens u5 Oc iz params D.flat D.flats ox Env.refd Env.free
theorem br {T:Nat→Option Fn} {A:af} {f:Nat} {fn:Fn} (hT:T f=some fn) {ds:List D} {d:D} (hl:ds.length=fn.nparams)
 (h:((dn (den T A) 0 fn.body ⟨params 0 (ds.map .d),List.replicate fn.nblk .hole⟩).bind (fin fn 0)).bind a1u=some d):ask (den T A) f ds=some d:=by
 obtain ⟨r,h1,h2⟩:=a5.1 h;unfold ask;rw [m9 hT (vs:=ds.map .d) (bs:=[]) (by rw [ah]; exact hl) h1]
 exact h2
theorem bm {O:af} {np:Nat} {c:Cd} {s s1:St} {r:Option (Out×St)} (h:dn O np c s=some (.normal,s1)) (h2:dn O np (.loop c) s1=r):dn O np (.loop c) s=r:=by
 rw [In,h]; exact h2
theorem bo {O:af} {np:Nat} {c:Cd} {s s1:St} {id:Nat} (h:dn O np c s=some (.exit id,s1)):dn O np (.loop c) s=some (.exit id,s1):=by
 rw [In,h]; rfl
theorem pk {O:af} {np:Nat} {c:Cd} {s s1:St} (h:dn O np c s=some (.ret,s1)):dn O np (.loop c) s=some (.ret,s1):=by
 rw [In,h]; rfl
def am (k:IntKind) (l:List Int):List D:=l.map (.int k)
@[simp] theorem a17 (k:IntKind) (l:List Int):(am k l).length=l.length:=by simp [am]
@[simp] theorem a64 (k:IntKind) (l:List Int) (i:Nat):(am k l)[i]? = (l[i]?).map (.int k):=by simp [am]
@[simp] theorem a06 (k:IntKind) (l:List Int) (i:Nat) (h:i<(am k l).length):(am k l)[i]=.int k (l[i]'(by simpa using h)):=by simp [am]
@[simp] theorem a3o (k:IntKind) (l:List Int) (n:Nat):(am k l).take n=am k (l.take n):=by simp [am]
@[simp] theorem a4e (k:IntKind) (l:List Int) (n:Nat):(am k l).drop n=am k (l.drop n):=by simp [am]
@[simp] theorem a6m (k:IntKind) (l:List Int) (n:Nat) (x:Int):(am k l).set n (.int k x)=am k (l.set n x):=by simp [am,pq]
@[simp] theorem Ai (k:IntKind) (l m:List Int):am k l++am k m=am k (l++m):=by simp [am]
@[simp] theorem Vs (k:IntKind) (n:Nat) (x:Int):List.replicate n (D.int k x)=am k (List.replicate n x):=by simp [am]
@[simp] theorem Mq (k:IntKind):∀l:List Int,D.flats (am k l)=true
 | []=>rfl
 | x::l=>by show (D.flat (.int k x)&&D.flats (am k l))=true; rw [Mq k l]; rfl
theorem gf (k:IntKind):am k []=[]:=rfl
@[simp] theorem a6x (n:Nat):List.replicate (n+1) Blk.hole=.hole::List.replicate n .hole:=rfl
@[simp] theorem a3s:List.replicate 0 Blk.hole=[]:=rfl
theorem w64 {x:Int} (h:-9223372036854775808≤x∧x≤9223372036854775807):IntKind.i64.wrap x=x:=IntWalk.i64_in x h
theorem w8 {x:Int} (h:0≤x∧x<256):IntKind.u8.wrap x=x:=by
 simp only [IntKind.wrap,IntKind.bits,IntKind.signed];simp;omega
end Pe

namespace Pe
open Go Go.ChangeShapes
inductive Ty where
 | int (k:IntKind)
 | bool
 | str
 | arr (n:Nat) (T:Ty)
 | st (Ts:List Ty)
 | sl (T:Ty)
mutual
def Ty.sh:Ty→Sh
 | .arr n T=>.arr n T.sh
 | .st Ts=>.st (Ty.shs Ts)
 | .int _ | .bool | .str | .sl _=>.leaf
def Ty.shs:List Ty→List Sh
 | []=>[]
 | T::Ts=>T.sh::Ty.shs Ts
end
mutual
def sj (P:Program):TypeId→Ty→Bool
 | t,.int k=>(match P.underlying t with | some (.int k')=>k' == k | _=>false)&&P.cellsOf t == 1
 | t,.bool=>(match P.underlying t with | some .bool=>true | _=>false)&&P.cellsOf t == 1
 | t,.str=>(match P.underlying t with | some .string=>true | _=>false)&&P.cellsOf t == 1
 | t,.arr n T=>(match P.underlying t with | some (.array m e)=>m == n&&sj P e T | _=>false)&&P.cellsOf t == n*T.sh.size
 | t,.st Ts=>(match P.underlying t with | some (.struct fs)=>wl P fs.toList 0 Ts | _=>false)&&P.cellsOf t == Sh.sizes (Ty.shs Ts)
 | t,.sl T=>(match P.underlying t with | some (.slice e)=>sj P e T&&decide (0<T.sh.size) | _=>false)&&P.cellsOf t == 1
def wl (P:Program):List Field→Nat→List Ty→Bool
 | [],_,[]=>true
 | f::fs,o,T::Ts=>f.offset == o&&sj P f.type T&&wl P fs (o+T.sh.size) Ts
 | _,_,_=>false
end
mutual
def Ty.has:Ty→D→Prop
 | .int k,.int k' n=>k'=k∧(Lit.int k n).wf=true
 | .bool,.bool _=>True
 | .str,.str s=>s.size≤maxLen
 | .arr n T,.arr m s xs=>m=n∧s=T.sh∧xs.length=n∧∀x∈xs,T.has x
 | .st Ts,.st ss xs=>ss=Ty.shs Ts∧Ty.hasAll Ts xs
 | .sl T,.sl s xs=>s=T.sh∧xs.length≤9223372036854775807∧∀x∈xs,T.has x
 | _,_=>False
def Ty.hasAll:List Ty→List D→Prop
 | [],[]=>True
 | T::Ts,x::xs=>T.has x∧Ty.hasAll Ts xs
 | _,_=>False
end
theorem sm {P:Program} {t:TypeId} {T:Ty} (h:sj P t T=true):P.cellsOf t=T.sh.size:=by
 cases T <;> simp only [sj,ac,beq_iff_eq] at h <;> simp only [Ty.sh,Sh.size] <;> exact h.2
mutual
theorem Of:∀(T:Ty) (d:D),T.has d→d.sh=T.sh
 | .int _,d,h | .bool,d,h | .str,d,h=>by cases d <;> simp [Ty.has] at h <;> rfl
 | .arr n T,d,h=>by
  cases d <;> simp only [Ty.has] at h
  obtain ⟨rfl,rfl,-⟩:=h;rfl
 | .st Ts,d,h=>by
  cases d <;> simp only [Ty.has] at h
  obtain ⟨rfl,-⟩:=h;rfl
 | .sl T,d,h=>by cases d <;> simp only [Ty.has] at h; rfl
end
section
variable {H:Type} {enc:TypeId×Value→H} {P:Program} {C:Cx} {base:Nat} {sp:Nat→Bool} {held:Bool}
theorem wz {s:Sh} {Q:D→Prop} (hs:∀d,Q d→d.sh=s):∀(n:Nat) (cs:List Value),cs.length=n*s.size→(∀i,i<n→∃d,Q d∧RD C d ((cs.drop (i*s.size)).take s.size)) →
 ∃ds:List D,ds.length=n∧(∀d∈ds,Q d)∧RDs C s ds cs
 | 0,cs,hl,_=>⟨[],rfl,by simp,by simp only [RDs]; exact di.1 (by simpa using hl)⟩
 | n+1,cs,hl,h=>by
  obtain ⟨d,hq,hd⟩:=h 0 (by omega)
  obtain ⟨ds,h1,h2,h3⟩:=wz hs n (cs.drop s.size) (by rw [dl,hl,dw]; omega) (fun i hi=>by
   obtain ⟨d,hq,hd⟩:=h (i+1) (by omega)
   refine ⟨d,hq,?_⟩;rw [f9,show s.size+i*s.size=(i+1)*s.size by rw [dw]; omega]
   exact hd)
  refine ⟨d::ds,by simp [h1],by simpa using ⟨hq,h2⟩,?_⟩
  simp only [RDs];rw [jm,fp] at hd;exact ⟨cs.take s.size,cs.drop s.size,(fg _ _).symm,hs d hq,hd,h3⟩
theorem Sx {w:World} {a:Addr} {v:Value} (h:w.cell? a=some v):a.spot=none∧∃c el fz,w.heap[a.block]? = some (.cells c el fz)∧c[a.off]? = some v:=by
 unfold World.cell? at h
 split at h
 ·rename_i c el fz hc
  split at h
  ·cases h
  ·rename_i hs
   exact ⟨by simpa using hs,c,el,fz,hc,h⟩
 ·cases h
theorem Wl {w:World} {a:Addr} {n:Nat} {cs:List Value} (hn:0<n) (h:w.cells? base a n=some cs):a.spot=none∧cs.length=n∧CellsAt w a.block a.off cs:=by
 obtain ⟨h1,h2,h3⟩:=World.cells?_some h;have h0:=h3 0 hn;rw [al (by omega),Addr.add,if_pos rfl] at h0
 obtain ⟨hsp,c,el,fz,hc,_⟩:=Sx h0;refine ⟨hsp,h2,c,el,fz,hc,fun j u hu=>?_⟩
 have hj:j<n:=by
  have:=(ae.1 hu).1;omega
 have h4:=h3 j hj;rw [hu] at h4;unfold World.cell? at h4
 have hb:(a.add j).block=a.block∧(a.add j).off=a.off+j∧(a.add j).spot=none:=by
  unfold Addr.add
  split
  ·rename_i h; subst h; exact ⟨rfl,rfl,hsp⟩
  ·exact ⟨rfl,rfl,rfl⟩
 rw [hb.1,hc,hb.2.1,hb.2.2] at h4
 simpa using h4
theorem yg {s:Sh} {Q:D→Prop} (hs:∀d,Q d→d.sh=s) (hk:0<s.size) {b:Nat}:∀(n o:Nat),0<n→(∀i,i<n→∃d cs,Q d∧RD C d cs∧cs.length=s.size∧CellsAt C.w b (o+i*s.size) cs) →
 ∃(ds:List D) (us:List Value),ds.length=n∧(∀d∈ds,Q d)∧RDs C s ds us∧us.length=n*s.size∧CellsAt C.w b o us
 | 0,o,h0,h=>absurd h0 (by omega)
 | n+1,o,_,h=>by
  obtain ⟨d,cs,hq,hd,hl,hc⟩:=h 0 (by omega)
  rw [jm,cg] at hc;rcases rj n with hn | hn
  ·subst hn
   exact ⟨[d],cs,rfl,by simpa using hq,by simp only [RDs]; exact ⟨cs,[],by simp,hs d hq,hd,rfl⟩,by omega,hc⟩
  ·obtain ⟨ds,us,h1,h2,h3,h4,h5⟩:=yg hs hk n (o+s.size) hn (fun i hi=>by
    obtain ⟨d,cs,hq,hd,hl,hc⟩:=h (i+1) (by omega)
    refine ⟨d,cs,hq,hd,hl,?_⟩;rw [show o+s.size+i*s.size=o+(i+1)*s.size by rw [dw]; omega]
    exact hc)
   refine ⟨d::ds,cs++us,by simp [h1],by simpa using ⟨hq,h2⟩,by simp only [RDs]; exact ⟨cs,us,rfl,hs d hq,hd,h3⟩,by rw [ba,hl,h4,dw]; omega,?_⟩
   obtain ⟨a,el,fz,ha,hc⟩:=hc;obtain ⟨a',el',fz',ha',hc'⟩:=h5;obtain ⟨rfl,rfl,rfl⟩:a=a'∧el=el'∧fz=fz':=by rw [ha] at ha'; simpa using ha'
   refine ⟨a,el,fz,ha,fun j u hu=>?_⟩
   by_cases hj:j<cs.length
   ·rw [b5 hj] at hu; exact hc j u hu
   ·rw [b4 (by omega)] at hu
    have:=hc' _ u hu
    rwa [show o+s.size+(j-cs.length)=o+j by omega] at this
mutual
theorem tm (hI:∀b,b<C.w.heap.size→C.I b):∀(T:Ty) (t:TypeId) (fuel:Nat) (cs:List Value) (x:DataW H×List MemPlace),sj P t T=true→DataW.trod enc P C.w base sp held fuel t cs=some x→∃d,T.has d∧RD C d cs
 | .int k,t,fuel,cs,x,hf,h=>by
  simp only [sj,ac] at hf
  replace hf:=hf.1
  split at hf <;> simp at hf
  rename_i k' hu
  subst hf;obtain ⟨n,rfl,-,hw⟩:=DataW.trod_int hu h;exact ⟨.int k' n,⟨rfl,hw⟩,rfl⟩
 | .bool,t,fuel,cs,x,hf,h=>by
  simp only [sj,ac] at hf
  replace hf:=hf.1
  split at hf <;> simp at hf
  rename_i hu
  obtain ⟨b,rfl,-⟩:=DataW.trod_bool hu h;exact ⟨.bool b,trivial,rfl⟩
 | .str,t,fuel,cs,x,hf,h=>by
  simp only [sj,ac] at hf
  replace hf:=hf.1
  split at hf <;> simp at hf
  rename_i hu
  obtain ⟨s,rfl,-,hw⟩:=DataW.trod_string hu h;exact ⟨.str s,hw,rfl⟩
 | .arr n T,t,fuel,cs,x,hf,h=>by
  have hsz:=sm hf;simp only [sj,ac] at hf
  replace hf:=hf.1
  split at hf <;> simp at hf
  rename_i m e hu
  obtain ⟨rfl,hfe⟩:=hf;have hse:=sm hfe;obtain ⟨xs,k,-,-,hl,hxl,hx⟩:=DataW.trod_array hu h
  obtain ⟨ds,h1,h2,h3⟩:=wz (C:=C) (s:=T.sh) (Q:=T.has) (Of T) m cs (by rw [hl,hsz]; rfl) (fun i hi=>by
   have h4:=hx i hi;rw [al (by omega),hse] at h4
   exact tm hI T e k _ _ hfe h4)
  exact ⟨.arr m T.sh ds,⟨rfl,rfl,h1,h2⟩,by simp only [RD]; exact ⟨h1,h3⟩⟩
 | .st Ts,t,fuel,cs,x,hf,h=>by
  have hsz:=sm hf;simp only [sj,ac] at hf
  replace hf:=hf.1
  split at hf
  case h_2=>cases hf
  rename_i fs hu
  obtain ⟨xs,k,-,-,hl,hxl,hx⟩:=DataW.trod_struct hu h
  obtain ⟨ds,h1,h2⟩:=x7 hI Ts fs.toList 0 k cs hf (by rw [hl,hsz]; simp [Ty.sh,Sh.size]) (fun f hfm=>by
   obtain ⟨i,hi,rfl⟩:=gh hfm;have h4:=hx i fs.toList[i] (by rw [←i5]; exact al hi)
   rw [al (by rw [hxl,←ph]; exact hi)] at h4
   exact ⟨_,h4⟩)
  exact ⟨.st (Ty.shs Ts) ds,⟨rfl,h1⟩,by simp only [RD]; exact h2⟩
 | .sl T,t,fuel,cs,x,hf,h=>by
  simp only [sj,ac] at hf
  replace hf:=hf.1
  split at hf <;> simp at hf
  rename_i e hu
  obtain ⟨hfe,hk⟩:=hf;have hse:=sm hfe;rcases DataW.trod_slice hu h with ⟨rfl,-⟩ | ⟨a,len,cap,elems,rest,n,-,rfl,-,hb,hle,hcap,hel,hx,-⟩
  ·exact ⟨.sl T.sh [],⟨rfl,by simp,by simp⟩,by simp only [RD]; exact ⟨none,0,rfl,b9 _,.inl trivial⟩⟩
  ·rcases rj len with h0 | h0
   ·subst h0
    exact ⟨.sl T.sh [],⟨rfl,by simp,by simp⟩,by simp only [RD]; exact ⟨_,cap,rfl,hle,.inl trivial⟩⟩
   ·have hcell:∀i,i<len→∃d cs,T.has d∧RD C d cs∧cs.length=T.sh.size∧(a.add (i*T.sh.size)).spot=none∧CellsAt C.w a.block (a.off+i*T.sh.size) cs:=fun i hi=>by
     have h4:=hx i hi;rw [al (by omega),hse] at h4
     obtain ⟨cs,hc,hy⟩:=a5.1 h4;obtain ⟨h5,h6,h7⟩:=Wl hk hc;obtain ⟨d,hd1,hd2⟩:=tm hI T e n _ _ hfe hy
     have hbl:(a.add (i*T.sh.size)).block=a.block∧(a.add (i*T.sh.size)).off=a.off+i*T.sh.size:=by
      unfold Addr.add
      split
      ·rename_i h; rw [h]; exact ⟨rfl,rfl⟩
      ·exact ⟨rfl,rfl⟩
     rw [hbl.1,hbl.2] at h7;exact ⟨d,cs,hd1,hd2,h6,h5,h7⟩
    obtain ⟨ds,us,h1,h2,h3,h4,h5⟩:=yg (C:=C) (s:=T.sh) (Q:=T.has) (Of T) hk len a.off h0 (fun i hi=>by
     obtain ⟨d,cs,g1,g2,g3,-,g4⟩:=hcell i hi;exact ⟨d,cs,g1,g2,g3,g4⟩)
    have hsp:a.spot=none:=by
     obtain ⟨_,_,_,_,_,g,_⟩:=hcell 0 h0;rw [jm,Addr.add,if_pos rfl] at g;exact g
    have hlt:a.block<C.w.heap.size:=by
     obtain ⟨c,el,fz,hc,-⟩:=h5;exact (cj.1 hc).1
    refine ⟨.sl T.sh ds,⟨rfl,by rw [h1]; unfold maxLen at hcap; omega,h2⟩,?_⟩
    simp only [RD];refine ⟨some a,cap,by rw [h1],by omega,.inr ⟨a.block,a.off,us,?_,hI _ hlt,h3,h5⟩⟩
    cases a;simp only at hsp;rw [hsp]
theorem x7 (hI:∀b,b<C.w.heap.size→C.I b):∀(Ts:List Ty) (fs:List Field) (o fuel:Nat) (cs:List Value),wl P fs o Ts=true→cs.length=o+Sh.sizes (Ty.shs Ts) →
 (∀f∈fs,∃x,DataW.trod enc P C.w base sp held fuel f.type ((cs.drop f.offset).take (P.cellsOf f.type))=some x)→∃ds,Ty.hasAll Ts ds∧RDst C (Ty.shs Ts) ds (cs.drop o)
 | [],[],o,fuel,cs,_,hl,_=>⟨[],trivial,by simp only [Ty.shs,RDst]; rw [List.drop_eq_nil_iff]; simp [Ty.shs,Sh.sizes] at hl; omega⟩
 | [],_::_,o,fuel,cs,hf,_,_=>by simp [wl] at hf
 | _::_,[],o,fuel,cs,hf,_,_=>by simp [wl] at hf
 | T::Ts,f::fs,o,fuel,cs,hf,hl,h=>by
  simp only [wl,ac,beq_iff_eq] at hf;obtain ⟨⟨ho,hft⟩,hfs⟩:=hf;have hse:=sm hft;simp only [Ty.shs,Sh.sizes] at hl;obtain ⟨x,hx⟩:=h f (by simp)
  obtain ⟨d,hd1,hd2⟩:=tm hI T f.type fuel _ x hft hx;obtain ⟨ds,h1,h2⟩:=x7 hI Ts fs (o+T.sh.size) fuel cs hfs (by omega) (fun g hg=>h g (p8 _ hg))
  refine ⟨d::ds,⟨hd1,h1⟩,?_⟩;simp only [Ty.shs,RDst];rw [hse,ho] at hd2;refine ⟨_,_,?_,Of T d hd1,hd2,h2⟩;rw [←f9,fg]
end
theorem a03 {W:World} {r:Reach} {T:Ty} {t:TypeId} {v:Value} {d:D} (hf:sj P t T=true) (hd:T.has d) (h:Value.okWide P W r base t v):isAgg v=d.isAgg:=by
 unfold Value.okWide at h;cases T with
 | int k=>
  simp only [sj,ac] at hf
  replace hf:=hf.1
  split at hf <;> simp at hf
  rename_i k' hu
  rw [hu] at h;cases d <;> simp only [Ty.has] at hd
  cases v <;> first | rfl | (simp [Cell.okWide,Cell.ok,hu] at h; done)
 | bool=>
  simp only [sj,ac] at hf
  replace hf:=hf.1
  split at hf <;> simp at hf
  rename_i hu
  rw [hu] at h;cases d <;> simp only [Ty.has] at hd
  cases v <;> first | rfl | (simp [Cell.okWide,Cell.ok,hu] at h; done)
 | str=>
  simp only [sj,ac] at hf
  replace hf:=hf.1
  split at hf <;> simp at hf
  rename_i hu
  rw [hu] at h;cases d <;> simp only [Ty.has] at hd
  cases v <;> first | rfl | (simp [Cell.okWide,Cell.ok,hu] at h; done)
 | sl T=>
  simp only [sj,ac] at hf
  replace hf:=hf.1
  split at hf <;> simp at hf
  rename_i e hu
  rw [hu] at h;cases d <;> simp only [Ty.has] at hd
  cases v <;> first | rfl | (simp [Cell.okWide,Cell.ok,hu] at h; done)
 | arr n T=>
  simp only [sj,ac] at hf
  replace hf:=hf.1
  split at hf
  case h_2=>cases hf
  rename_i hu
  rw [hu] at h;obtain ⟨cs,rfl,-⟩:=h;cases d <;> simp only [Ty.has] at hd
  rfl
 | st Ts=>
  simp only [sj,ac] at hf
  replace hf:=hf.1
  split at hf
  case h_2=>cases hf
  rename_i hu
  rw [hu] at h;obtain ⟨cs,rfl,-⟩:=h;cases d <;> simp only [Ty.has] at hd
  rfl
def ud (P:Program):List TypeId→List Ty→Bool
 | [],[]=>true
 | t::ts,T::Ts=>sj P t T&&P.readableRec t&&decide (t<P.types.size)&&ud P ts Ts
 | _,_=>false
theorem G7 (hI:∀b,b<C.w.heap.size→C.I b) {r:Reach} {b0:Nat}:∀(ts:List TypeId) (Ts:List Ty) (vs:List Value) (ds:List (DataW H)) (ps:List MemPlace),ud P ts Ts=true→DataW.TrodAll enc P C.w base sp held ts vs ds ps →
 (∀(j:Nat) t v,ts[j]? = some t→vs[j]? = some v→Value.okWide P C.w r b0 t v)→∃xs,Ty.hasAll Ts xs∧RVs C xs vs
 | [],[],vs,ds,ps,_,h,_=>by
  obtain ⟨rfl,-,-⟩:=trodAll_nil h;exact ⟨[],trivial,by simp only [RVs]⟩
 | [],_::_,vs,ds,ps,hf,_,_=>by simp [ud] at hf
 | _::_,[],vs,ds,ps,hf,_,_=>by simp [ud] at hf
 | t::ts,T::Ts,vs,ds,ps,hf,h,hv=>by
  simp only [ud,ac] at hf;obtain ⟨⟨⟨hf1,-⟩,-⟩,hf2⟩:=hf;obtain ⟨v,vs',d,ds',p,q,rfl,rfl,rfl,⟨fuel,hd⟩,hr⟩:=trodAll_cons h;obtain ⟨x,hx1,hx2⟩:=tm hI T t fuel _ _ hf1 hd;obtain ⟨xs,h1,h2⟩:=G7 hI ts Ts vs' ds' q hf2 hr (fun j t' v' hj hv'=>hv (j+1) t' v' (by simpa using hj) (by simpa using hv'))
  refine ⟨x::xs,⟨hx1,h1⟩,?_⟩;simp only [RVs];exact ⟨v,vs',rfl,a03 hf1 hx1 (hv 0 t v rfl rfl),hx2,h2⟩
theorem H0 {W W':World} (hl:laidOutB P=true) (hb:RowKit.Below W.heap.size W W'):∀(ts:List TypeId) (Ts:List Ty) (vs:List Value) (ds:List (DataW H)) (ps:List MemPlace),ud P ts Ts=true→DataW.TrodAll enc P W 0 (fun _=>true) true ts vs ds ps →
 (∀x∈ps,x.block<W.heap.size)→DataW.TrodAll enc P W' 0 (fun b=>decide (b<W.heap.size)) true ts vs ds ps
 | [],[],vs,ds,ps,_,h,_=>by
  obtain ⟨rfl,rfl,rfl⟩:=trodAll_nil h;rfl
 | [],_::_,vs,ds,ps,hf,_,_=>by simp [ud] at hf
 | _::_,[],vs,ds,ps,hf,_,_=>by simp [ud] at hf
 | t::ts,T::Ts,vs,ds,ps,hf,h,hp=>by
  simp only [ud,ac,decide_eq_true_eq] at hf;obtain ⟨⟨⟨-,hf1⟩,hf3⟩,hf2⟩:=hf;obtain ⟨v,vs',d,ds',p,q,rfl,rfl,rfl,hd,hr⟩:=trodAll_cons h;exact ⟨p,q,RowKit.Below.trod hl hf1 hf3 hd hb (fun x hx=>hp x (bj _ hx)),H0 hl hb ts Ts vs' ds' q hf2 hr (fun x hx=>hp x (List.mem_append_right _ hx)),rfl⟩
def z3 (P:Program) (f:Func):Bool:=match f.resultTypes.toList with
 | [t]=>match P.underlying t with
  | some .bool=>true
  | _=>false
 | _=>false
theorem Ek {f:Func} (h:z3 P f=true):∃tb,f.resultTypes = #[tb]∧P.underlying tb=some .bool:=by
 unfold z3 at h
 split at h
 ·rename_i t ht
  split at h
  ·rename_i hu
   exact ⟨t,by rw [←Array.toList_inj,ht],hu⟩
  ·cases h
 ·cases h
theorem To {f:Func} {s:ChangeSpec} {apart fresh:Bool} {W W':World} {args:Array Value} {ds gs:List (DataW H)} {before:List MemPlace} {Ts:List Ty}
 (hW:DataW.Whole enc P f.params.toList s.vars apart W args.toList ds gs before) (hvars:s.vars=[]) (hs:s.fn H (ds++gs) = { results:=[.lit (.bool true)],args:=ds })
 (hr:z3 P f=true) (hl:laidOutB P=true) (hf:ud P f.params.toList Ts=true) (hb:RowKit.Below W.heap.size W W') :
 s.post enc P f apart fresh false false W args (.bool true) W':=by
 have hW0:=hW;obtain ⟨p,q,hA,hV,rfl,hz,hn⟩:=hW;have hlt:=DataW.TrodAll.lt hA;obtain ⟨tb,hr,htb⟩:=Ek hr;rw [hvars] at hV;obtain ⟨rfl,rfl⟩:=trodVars_none hV;refine ⟨ds,[],_,[],p,[],hW0,?_,?_,?_,hb.frame _,fun h=>by cases h⟩
 ·rw [hs,hr]
  exact ⟨[],[],⟨1,by simp [DataW.trod,Value.cells,htb]⟩,rfl,rfl⟩
 ·rw [hs]
  exact H0 hl hb _ _ _ _ _ hf hA hlt
 ·rw [hs,hvars]
  rfl
end
theorem Od {P:Program} {num:Nat→Nat} {O:af} (hO:jg P num O) {F:Nat} {xs:List D} (h:ask O F xs=some (.bool true)) {W:World} {vs:List Value} (hv:RVs ⟨W,fun b=>b<W.heap.size,num⟩ xs vs) :
 Calls P (num F) vs.toArray W fun e W'=>e=.returned (.bool true)∧RowKit.Below W.heap.size W W':=by
 unfold ask at h;obtain ⟨⟨v,bs,nb⟩,h1,h2⟩:=a5.1 h;obtain ⟨hl,-,hcall⟩:=hO F (xs.map .d) [] _ h1 ⟨W,fun b=>b<W.heap.size,num⟩ (fun _ _=>none) vs rfl ⟨by simp,by simp⟩ (fun b hb=>hb) (qy hv)
 refine Calls.mono hcall ?_
 rintro e w' ⟨u,C2,φ2,rfl,rfl,st,-,hu⟩
 have hno:∀b,¬ OwnB (fun _ _=>none) [] b:=by rintro b ⟨i,k,B,o,hB,_⟩; simp at hB
 have hbs:bs=[]:=di.1 hl;subst hbs;have hx:RV _ (.bool true) u:=pu st.hr v _ u h2 hu;refine ⟨?_,st.os,st.tape,st.out,st.size,fun k hk=>st.kept k hk (hno k)⟩
 simp only [RV,RD,D.isAgg] at hx;obtain ⟨h3,h4⟩:=hx;cases u <;> simp [Value.cells,isAgg] at h3 h4
 rw [h4]
end Pe

/-
 The numbers of the functions.
-/
namespace Pe
abbrev Lw (d s:Nat):Ins:=⟨some d,.mv (.t s),none,[]⟩
abbrev Ll (d:Nat) (o:Op):Ins:=⟨some d,o,none,[]⟩
abbrev Ls (o:Op):Ins:=⟨none,o,none,[]⟩
abbrev Lx (d s g:Nat) (b:Bool):Ins:=⟨some d,.mv (.t s),some (g,b),[]⟩
abbrev Lg (d:Nat) (o:Op) (g:Nat) (b:Bool):Ins:=⟨some d,o,some (g,b),[]⟩
abbrev Sx6:Sh:=.arr 64 .leaf
abbrev Sx8:Sh:=.arr 8 Sx6
abbrev Sx4:List Sh:=[.leaf,Sx6,Sx6,Sx6]
abbrev Acx (n:Int):Arg:=.c (.int .i64 n)
abbrev Ofx (f:Nat) (l:List Arg):Op:=.call .flat [] (.f f) l
abbrev Opx (f:Nat) (l:List Arg):Op:=.call .plain [] (.f f) l
abbrev Ipx (d s:Nat):Ins:=Ll d (.load Sx6 (.t s))
abbrev Ilx (d s:Nat):Ins:=Ll d (.load .leaf (.t s))
abbrev Isx (d s:Nat):Ins:=Ll d (.load Sx8 (.t s))
abbrev Iex (d s k:Nat):Ins:=Ll d (.ext (.t s) k)
abbrev F1h:Nat:=20
abbrev F1q:Nat:=57
abbrev F1i:Nat:=65
abbrev F1p:Nat:=93
abbrev F1r:Nat:=95
abbrev F1j:Nat:=97
abbrev F1n:Nat:=103
abbrev F1l:Nat:=104
abbrev F2h:Nat:=121
abbrev F5:Nat:=122
abbrev F1k:Nat:=123
abbrev F1o:Nat:=124
abbrev F1m:Nat:=125
abbrev Ff:Nat:=313
abbrev F19:Nat:=315
abbrev F13:Nat:=318
abbrev Fs:Nat:=319
abbrev F32:Nat:=323
abbrev F18:Nat:=326
abbrev Fc:Nat:=327
abbrev F2k:Nat:=331
abbrev F1b:Nat:=336
abbrev F10:Nat:=341
abbrev Fz:Nat:=342
abbrev Fk:Nat:=344
abbrev Fy:Nat:=347
abbrev Fo:Nat:=348
abbrev F2w:Nat:=349
abbrev F2n:Nat:=350
abbrev F2p:Nat:=351
abbrev Fw:Nat:=360
abbrev Fu:Nat:=363
abbrev F16:Nat:=364
abbrev F34:Nat:=366
abbrev Fm:Nat:=368
abbrev F1f:Nat:=370
abbrev F33:Nat:=374
abbrev Fh:Nat:=378
abbrev F2v:Nat:=386
abbrev F1g:Nat:=387
abbrev F2r:Nat:=395
abbrev F35:Nat:=397
abbrev Fg:Nat:=399
abbrev F1d:Nat:=400
abbrev F9:Nat:=413
abbrev F2i:Nat:=416
abbrev F2u:Nat:=417
abbrev F2o:Nat:=418
abbrev F14:Nat:=419
abbrev Fx:Nat:=420
abbrev F1c:Nat:=421
abbrev F2s:Nat:=448
abbrev Fr:Nat:=453
abbrev F2m:Nat:=454
abbrev F2t:Nat:=455
abbrev F2y:Nat:=457
abbrev Ft:Nat:=458
abbrev F11:Nat:=469
abbrev F30:Nat:=493
abbrev F2l:Nat:=501
abbrev F1e:Nat:=521
abbrev F4:Nat:=530
abbrev F12:Nat:=531
abbrev F2q:Nat:=532
abbrev Fi:Nat:=534
abbrev F2x:Nat:=556
abbrev Fl:Nat:=557
abbrev F1a:Nat:=558
abbrev Fe:Nat:=559
abbrev F31:Nat:=560
abbrev F17:Nat:=567
abbrev F15:Nat:=568
abbrev F21:Nat:=569
abbrev Fv:Nat:=570
abbrev Fb:Nat:=571
abbrev F1y:Nat:=590
abbrev Fa:Nat:=591
abbrev F2j:Nat:=595
abbrev F2z:Nat:=596
abbrev F7:Nat:=619
abbrev Fj:Nat:=620
abbrev F2d:Nat:=644
abbrev F1t:Nat:=645
abbrev F0:Nat:=646
abbrev F1:Nat:=647
abbrev F20:Nat:=653
abbrev F1x:Nat:=658
abbrev F8:Nat:=659
abbrev F25:Nat:=694
abbrev F24:Nat:=695
abbrev F22:Nat:=696
abbrev F23:Nat:=697
abbrev F2e:Nat:=698
abbrev F2a:Nat:=699
abbrev F2c:Nat:=700
abbrev F2b:Nat:=701
abbrev F1u:Nat:=702
abbrev F1v:Nat:=703
abbrev F2:Nat:=704
abbrev F3:Nat:=705
abbrev F1z:Nat:=717
abbrev F2f:Nat:=762
abbrev F28:Nat:=763
abbrev F2g:Nat:=764
abbrev F26:Nat:=765
abbrev F27:Nat:=766
abbrev F29:Nat:=798
abbrev F1s:Nat:=1095
abbrev Fq:Nat:=1348
abbrev F1w:Nat:=1597
def z64:List D:=List.replicate 64 (.int .u8 0)
def z8:List D:=List.replicate 8 (.arr 64 .leaf z64)
end Pe

/-
 Functions of the program in the small form,printed by a program.
-/
namespace Pe
open Go
def Z1e_L0:Cd:=
 .seq (.seq (.region [Lw 6 3,
 Ll 7 (.bin .gtr (.t 6) (Acx 0)),
 Lw 8 7,
 Lx 9 0 8 true,
 Lx 10 3 8 true,
 Lg 11 (.bin .sub (.t 10) (Acx 1)) 8 true,
 Lg 12 (.idxA none .leaf (.t 9) (.t 11)) 8 true,
 Lg 13 (.load .leaf (.t 12)) 8 true,
 Lg 14 (.bin .eql (.t 13) (Acx 0)) 8 true,
 Ll 15 (.pick (.t 8) (.t 14) (.c (.bool false)))] [0,3,15])
 (.cond (.t 15)
 (.skip)
 (.exit 0)))
 (.block 1 (.region [Lw 16 3,
 Ll 17 (.bin .sub (.t 16) (Acx 1)),
 Lw 3 17] [0,3]))
def Z1e_B:Cd:=
 .seq (.region [Ll 2 (.mv (.c (.sl .leaf [])))] [0])
 (.seq (.region [Lw 4 0,
 Ll 5 (.len false (.t 4)),
 Lw 3 5] [0,3])
 (.seq (.block 0 (.loop (Z1e_L0)))
 (.seq (.region [Lw 18 0,
 Lw 19 3,
 Lw 20 3,
 Ll 21 (.cut none .leaf (.t 18) none (some (.t 19)) (some (.t 20))),
 Lw 2 21] [2])
 (.ret))))
def Z1e:Fn:=
 { nparams:=1,nblk:=0,results:=[.tmp 2],body:=Z1e_B }
def Z19_L0:Cd:=
 .seq (.region [Ll 8 (.bin .lss (.t 7) (Acx 64))] [3,6,7,8])
 (.seq (.cond (.t 8)
 (.skip)
 (.exit 0))
 (.seq (.block 1 (.seq (.region [Ll 9 (.idx (some 64) .leaf (.t 6) (.t 7)),
 Lw 5 9] [3,5,6,7])
 (.region [Lw 10 3,
 Lw 11 5,
 Ll 12 (.conv .i64 (.t 11)),
 Ll 13 (.buildSl false 2 .leaf (.int .i64 0) 1 [(0,(.t 12))]),
 Ll 14 (.append .leaf 3 8 (.t 10) (.t 13)),
 Lw 3 14] [3,6,7])))
 (.region [Ll 15 (.bin .add (.t 7) (Acx 1)),
 Lw 7 15] [3,6,7])))
def Z19_B:Cd:=
 .seq (.region [Ll 1 (.box false 0 (.t 0)),
 Ll 2 (.mv (.c (.sl .leaf [])))] [1])
 (.seq (.region [Ll 3 (.nilOwn 1 .leaf)] [1,3])
 (.seq (.seq (.region [Ipx 6 1,
 Ll 7 (.mv (Acx 0))] [3,6,7])
 (.block 0 (.loop (Z19_L0))))
 (.seq (.region [Lw 16 3,
 Ll 17 (.call .data [] (.f F1e) [(.t 16)]),
 Lw 2 17] [2])
 (.ret))))
def Z19:Fn:=
 { nparams:=1,nblk:=4,results:=[.tmp 2],body:=Z19_B }
def Z1b_B:Cd:=
 .seq (.region [Ll 2 (.mv (Acx 0))] [0])
 (.seq (.region [Lw 3 0,
 Ll 4 (.len false (.t 3)),
 Ll 5 (.bin .sub (.t 4) (Acx 1)),
 Lw 2 5] [2])
 (.ret))
def Z1b:Fn:=
 { nparams:=1,nblk:=0,results:=[.tmp 2],body:=Z1b_B }
def Zk_B:Cd:=
 .seq (.region [Ll 2 (.mv (.c (.bool false)))] [0])
 (.seq (.region [Lw 3 0,
 Ll 4 (.bin .eql (.t 3) (Acx 2)),
 Lw 5 4,
 Lx 6 0 5 false,
 Lg 7 (.bin .eql (.t 6) (Acx 3)) 5 false,
 Ll 8 (.pick (.t 5) (.c (.bool true)) (.t 7)),
 Lw 9 8,
 Lx 10 0 9 false,
 Lg 11 (.bin .eql (.t 10) (Acx 5)) 9 false,
 Ll 12 (.pick (.t 9) (.c (.bool true)) (.t 11)),
 Lw 13 12,
 Lx 14 0 13 false,
 Lg 15 (.bin .eql (.t 14) (Acx 7)) 13 false,
 Ll 16 (.pick (.t 13) (.c (.bool true)) (.t 15)),
 Lw 2 16] [2])
 (.ret))
def Zk:Fn:=
 { nparams:=1,nblk:=0,results:=[.tmp 2],body:=Zk_B }
def Za_B:Cd:=
 .seq (.region [Ll 2 (.box false 0 (.t 0)),
 Ll 3 (.mv (.c (.bool false)))] [1,2])
 (.seq (.region [Ilx 4 1,
 Ipx 5 2,
 Ll 6 (.call .flat [] (.t 4) [(.t 5)]),
 Ll 7 (.un .not (.t 6)),
 Lw 3 7] [3])
 (.ret))
def Za:Fn:=
 { nparams:=2,nblk:=1,results:=[.tmp 3],body:=Za_B }
def Z9_B:Cd:=
 .seq (.region [Ll 3 (.box false 0 (.t 1)),
 Ll 4 (.mv (.c (.bool false)))] [0,3])
 (.seq (.region [Lw 5 0,
 Ll 6 (.mkFn Fa [] [(.t 3)]),
 Ll 7 (Ofx F1y [(.t 5),(.t 6)]),
 Ll 8 (.un .not (.t 7)),
 Lw 4 8] [4])
 (.ret))
def Z9:Fn:=
 { nparams:=2,nblk:=1,results:=[.tmp 4],body:=Z9_B }
def Z8_B:Cd:=
 .seq (.region [Ll 3 (.mv (.c (.bool false)))] [0,1])
 (.seq (.region [Ilx 4 1,
 Lw 5 0,
 Ll 6 (.call .flat [] (.t 4) [(.t 5)]),
 Ll 7 (.un .not (.t 6)),
 Lw 3 7] [3])
 (.ret))
def Z8:Fn:=
 { nparams:=2,nblk:=0,results:=[.tmp 3],body:=Z8_B }
def Z7_B:Cd:=
 .seq (.region [Ll 3 (.box false 0 (.t 1)),
 Ll 4 (.mv (.c (.bool false)))] [0,3])
 (.seq (.region [Lw 5 0,
 Ll 6 (.mkFn F8 [] [(.t 3)]),
 Ll 7 (Ofx F1x [(.t 5),(.t 6)]),
 Ll 8 (.un .not (.t 7)),
 Lw 4 8] [4])
 (.ret))
def Z7:Fn:=
 { nparams:=2,nblk:=1,results:=[.tmp 4],body:=Z7_B }
def Zj_B:Cd:=
 .seq (.region [Ll 3 (.mv (.c (.bool false)))] [0,1])
 (.seq (.region [Lw 4 0,
 Ll 5 (.conv .i64 (.t 4)),
 Ilx 6 1,
 Ll 7 (.bin .lss (.t 5) (.t 6)),
 Lw 3 7] [3])
 (.ret))
def Zj:Fn:=
 { nparams:=2,nblk:=0,results:=[.tmp 3],body:=Zj_B }
def Zi_B:Cd:=
 .seq (.region [Ll 2 (.box false 0 (.t 0)),
 Ll 3 (.box false 1 (.t 1)),
 Ll 4 (.mv (.c (.bool false)))] [2,3])
 (.seq (.region [Ll 5 (.cut (some 64) .leaf (.t 3) none none none),
 Ll 6 (.mkFn Fj [] [(.t 2)]),
 Ll 7 (Ofx F7 [(.t 5),(.t 6)]),
 Lw 4 7] [4])
 (.ret))
def Zi:Fn:=
 { nparams:=2,nblk:=2,results:=[.tmp 4],body:=Zi_B }
def Z1g_B:Cd:=
 .seq (.region [Ll 6 (.mv (.c (.bool false)))] [0,1,2])
 (.seq (.region [Lw 7 1,
 Lw 8 0,
 Ll 9 (.bin .leq (.t 7) (.t 8)),
 Lw 10 9,
 Lx 11 0 10 true,
 Lx 12 2 10 true,
 Lg 13 (.bin .leq (.t 11) (.t 12)) 10 true,
 Ll 14 (.pick (.t 10) (.t 13) (.c (.bool false))),
 Lw 6 14] [6])
 (.ret))
def Z1g:Fn:=
 { nparams:=3,nblk:=0,results:=[.tmp 6],body:=Z1g_B }
def Z1c_B:Cd:=
 .seq (.region [Ll 2 (.mv (Acx 0))] [0])
 (.seq (.seq (.region [Lw 3 0,
 Ll 4 (.len false (.t 3)),
 Ll 5 (.bin .eql (.t 4) (Acx 0))] [0,5])
 (.cond (.t 5)
 (.seq (.region [Ll 2 (.mv (Acx 0))] [2])
 (.ret))
 (.skip)))
 (.seq (.region [Lw 6 0,
 Lw 7 0,
 Ll 8 (.len false (.t 7)),
 Ll 9 (.bin .sub (.t 8) (Acx 1)),
 Ll 10 (.idxA none .leaf (.t 6) (.t 9)),
 Ilx 11 10,
 Lw 2 11] [2])
 (.ret)))
def Z1c:Fn:=
 { nparams:=1,nblk:=0,results:=[.tmp 2],body:=Z1c_B }
def Zz_L0:Cd:=
 .seq (.region [Ll 10 (.bin .lss (.t 9) (.t 8))] [0,2,7,8,9,10])
 (.seq (.cond (.t 10)
 (.skip)
 (.exit 0))
 (.seq (.block 1 (.seq (.seq (.region [Lw 11 7,
 Lw 12 2,
 Ll 13 (.bin .gtr (.t 11) (.t 12))] [0,2,7,8,9,13])
 (.cond (.t 13)
 (.exit 0)
 (.skip)))
 (.region [Lw 14 7,
 Lw 15 0,
 Ll 16 (.bin .mul (.t 14) (.t 15)),
 Lw 7 16] [0,2,7,8,9])))
 (.region [Ll 17 (.bin .add (.t 9) (Acx 1)),
 Lw 9 17] [0,2,7,8,9])))
def Zz_B:Cd:=
 .seq (.region [Ll 6 (.mv (Acx 0))] [0,1,2])
 (.seq (.region [Ll 7 (.mv (Acx 1))] [0,1,2,7])
 (.seq (.seq (.region [Lw 8 1,
 Ll 9 (.mv (Acx 0))] [0,2,7,8,9])
 (.block 0 (.loop (Zz_L0))))
 (.seq (.region [Lw 18 7,
 Lw 6 18] [6])
 (.ret))))
def Zz:Fn:=
 { nparams:=3,nblk:=0,results:=[.tmp 6],body:=Zz_B }
def Z10_L0:Cd:=
 .seq (.seq (.region [Lw 6 1,
 Ll 7 (.bin .gtr (.t 6) (Acx 0))] [0,1,5,7])
 (.cond (.t 7)
 (.skip)
 (.exit 0)))
 (.seq (.block 1 (.region [Lw 11 5,
 Lw 12 1,
 Lw 13 0,
 Ll 14 (.bin .rem (.t 12) (.t 13)),
 Ll 15 (.buildSl false 1 .leaf (.int .i64 0) 1 [(0,(.t 14))]),
 Ll 16 (.append .leaf 2 8 (.t 11) (.t 15)),
 Lw 5 16] [0,1,5]))
 (.region [Lw 8 1,
 Lw 9 0,
 Ll 10 (.bin .quo (.t 8) (.t 9)),
 Lw 1 10] [0,1,5]))
def Z10_B:Cd:=
 .seq (.region [Ll 4 (.mv (.c (.sl .leaf [])))] [0,1])
 (.seq (.region [Ll 5 (.nilOwn 0 .leaf)] [0,1,5])
 (.seq (.block 0 (.loop (Z10_L0)))
 (.seq (.region [Lw 17 5,
 Lw 4 17] [4])
 (.ret))))
def Z10:Fn:=
 { nparams:=2,nblk:=3,results:=[.tmp 4],body:=Z10_B }
def Z12_B:Cd:=
 .seq (.region [Ll 4 (.mv (Acx 0))] [0,1])
 (.seq (.region [Lw 5 1,
 Lw 6 0,
 Ll 7 (.bin .rem (.t 5) (.t 6)),
 Lw 8 0,
 Ll 9 (.bin .add (.t 7) (.t 8)),
 Lw 10 0,
 Ll 11 (.bin .rem (.t 9) (.t 10)),
 Lw 4 11] [4])
 (.ret))
def Z12:Fn:=
 { nparams:=2,nblk:=0,results:=[.tmp 4],body:=Z12_B }
def Z1a_B:Cd:=
 .seq (.region [Ll 4 (.mv (Acx 0))] [0,1])
 (.seq (.seq (.region [Lw 5 1,
 Lw 6 0,
 Ll 7 (.len false (.t 6)),
 Ll 8 (.bin .lss (.t 5) (.t 7))] [0,1,8])
 (.cond (.t 8)
 (.seq (.region [Lw 9 0,
 Lw 10 1,
 Ll 11 (.idxA none .leaf (.t 9) (.t 10)),
 Ilx 12 11,
 Lw 4 12] [4])
 (.ret))
 (.skip)))
 (.seq (.region [Ll 4 (.mv (Acx 0))] [4])
 (.ret)))
def Z1a:Fn:=
 { nparams:=2,nblk:=0,results:=[.tmp 4],body:=Z1a_B }
def Zs_L0:Cd:=
 .seq (.region [Ll 20 (.bin .lss (.t 19) (.t 18))] [0,1,2,3,9,18,19,20])
 (.seq (.cond (.t 20)
 (.skip)
 (.exit 0))
 (.seq (.block 1 (.seq (.region [Lw 21 19,
 Lw 10 21] [0,1,2,3,9,10,18,19])
 (.region [Lw 22 9,
 Lw 23 10,
 Lw 24 0,
 Lw 25 1,
 Lw 26 10,
 Ll 27 (Ofx F1a [(.t 25),(.t 26)]),
 Lw 28 3,
 Lw 29 2,
 Lw 30 10,
 Ll 31 (Ofx F1a [(.t 29),(.t 30)]),
 Ll 32 (.bin .mul (.t 28) (.t 31)),
 Ll 33 (.bin .add (.t 27) (.t 32)),
 Ll 34 (Ofx F12 [(.t 24),(.t 33)]),
 Ll 35 (.idxA none .leaf (.t 22) (.t 23)),
 Ls (.store false .leaf (.t 35) (.t 34))] [0,1,2,3,9,18,19])))
 (.region [Ll 36 (.bin .add (.t 19) (Acx 1)),
 Lw 19 36] [0,1,2,3,9,18,19])))
def Zs_B:Cd:=
 .seq (.region [Ll 8 (.mv (.c (.sl .leaf [])))] [0,1,2,3])
 (.seq (.region [Lw 11 1,
 Ll 12 (.len false (.t 11)),
 Lw 13 2,
 Ll 14 (.len false (.t 13)),
 Ll 15 (.maxI (.t 12) (.t 14)),
 Ll 16 (.mkSl 0 .leaf (.int .i64 0) 8 (.t 15) (.t 15)),
 Lw 9 16] [0,1,2,3,9])
 (.seq (.seq (.region [Lw 17 9,
 Ll 18 (.len false (.t 17)),
 Ll 19 (.mv (Acx 0))] [0,1,2,3,9,18,19])
 (.block 0 (.loop (Zs_L0))))
 (.seq (.region [Lw 37 9,
 Ll 38 (.call .data [] (.f F1e) [(.t 37)]),
 Lw 8 38] [8])
 (.ret))))
def Zs:Fn:=
 { nparams:=4,nblk:=1,results:=[.tmp 8],body:=Zs_B }
def Z16_L0:Cd:=
 .seq (.region [Ll 39 (.bin .lss (.t 38) (.t 37))] [0,2,7,8,9,29,30,31,36,37,38,39])
 (.seq (.cond (.t 39)
 (.skip)
 (.exit 2))
 (.seq (.block 3 (.seq (.region [Lw 40 38,
 Ll 41 (.idxA none .leaf (.t 36) (.t 38)),
 Ilx 42 41,
 Lw 10 40,
 Lw 11 42] [0,2,7,8,9,10,11,29,30,31,36,37,38])
 (.region [Lw 43 7,
 Lw 44 8,
 Lw 45 10,
 Ll 46 (.bin .add (.t 44) (.t 45)),
 Ll 47 (.idxA none .leaf (.t 43) (.t 46)),
 Ilx 48 47,
 Lw 49 9,
 Lw 50 11,
 Ll 51 (.bin .mul (.t 49) (.t 50)),
 Ll 52 (.bin .add (.t 48) (.t 51)),
 Ll 53 (.idxA none .leaf (.t 43) (.t 46)),
 Ls (.store false .leaf (.t 53) (.t 52))] [0,2,7,8,9,29,30,31,36,37,38])))
 (.region [Ll 54 (.bin .add (.t 38) (Acx 1)),
 Lw 38 54] [0,2,7,8,9,29,30,31,36,37,38])))
def Z16_L1:Cd:=
 .seq (.region [Ll 32 (.bin .lss (.t 31) (.t 30))] [0,2,7,29,30,31,32])
 (.seq (.cond (.t 32)
 (.skip)
 (.exit 0))
 (.seq (.block 1 (.seq (.region [Lw 33 31,
 Ll 34 (.idxA none .leaf (.t 29) (.t 31)),
 Ilx 35 34,
 Lw 8 33,
 Lw 9 35] [0,2,7,8,9,29,30,31])
 (.seq (.region [Lw 36 2,
 Ll 37 (.len false (.t 36)),
 Ll 38 (.mv (Acx 0))] [0,2,7,8,9,29,30,31,36,37,38])
 (.block 2 (.loop (Z16_L0))))))
 (.region [Ll 55 (.bin .add (.t 31) (Acx 1)),
 Lw 31 55] [0,2,7,29,30,31])))
def Z16_L2:Cd:=
 .seq (.region [Ll 59 (.bin .lss (.t 58) (.t 57))] [0,7,56,57,58,59])
 (.seq (.cond (.t 59)
 (.skip)
 (.exit 4))
 (.seq (.block 5 (.seq (.region [Lw 60 58,
 Ll 61 (.idxA none .leaf (.t 56) (.t 58)),
 Ilx 62 61,
 Lw 12 60,
 Lw 13 62] [0,7,12,13,56,57,58])
 (.region [Lw 63 7,
 Lw 64 12,
 Lw 65 13,
 Lw 66 0,
 Ll 67 (.bin .rem (.t 65) (.t 66)),
 Ll 68 (.idxA none .leaf (.t 63) (.t 64)),
 Ls (.store false .leaf (.t 68) (.t 67))] [0,7,56,57,58])))
 (.region [Ll 69 (.bin .add (.t 58) (Acx 1)),
 Lw 58 69] [0,7,56,57,58])))
def Z16_B:Cd:=
 .seq (.region [Ll 6 (.mv (.c (.sl .leaf [])))] [0,1,2])
 (.seq (.seq (.region [Lw 14 1,
 Ll 15 (.len false (.t 14)),
 Ll 16 (.bin .eql (.t 15) (Acx 0)),
 Lw 17 16,
 Lx 18 2 17 false,
 Lg 19 (.len false (.t 18)) 17 false,
 Lg 20 (.bin .eql (.t 19) (Acx 0)) 17 false,
 Ll 21 (.pick (.t 17) (.c (.bool true)) (.t 20))] [0,1,2,21])
 (.cond (.t 21)
 (.seq (.region [Ll 6 (.mv (.c (.sl .leaf [])))] [6])
 (.ret))
 (.skip)))
 (.seq (.region [Lw 22 1,
 Ll 23 (.len false (.t 22)),
 Lw 24 2,
 Ll 25 (.len false (.t 24)),
 Ll 26 (.bin .add (.t 23) (.t 25)),
 Ll 27 (.bin .sub (.t 26) (Acx 1)),
 Ll 28 (.mkSl 0 .leaf (.int .i64 0) 8 (.t 27) (.t 27)),
 Lw 7 28] [0,1,2,7])
 (.seq (.seq (.region [Lw 29 1,
 Ll 30 (.len false (.t 29)),
 Ll 31 (.mv (Acx 0))] [0,2,7,29,30,31])
 (.block 0 (.loop (Z16_L1))))
 (.seq (.seq (.region [Lw 56 7,
 Ll 57 (.len false (.t 56)),
 Ll 58 (.mv (Acx 0))] [0,7,56,57,58])
 (.block 4 (.loop (Z16_L2))))
 (.seq (.region [Lw 70 7,
 Ll 71 (.call .data [] (.f F1e) [(.t 70)]),
 Lw 6 71] [6])
 (.ret))))))
def Z16:Fn:=
 { nparams:=3,nblk:=1,results:=[.tmp 6],body:=Z16_B }
def Z14_B:Cd:=
 .seq (.region [Ll 6 (.mv (.c (.sl .leaf [])))] [0,1,2])
 (.seq (.region [Lw 7 0,
 Lw 8 1,
 Lw 9 2,
 Ll 10 (Opx Fs [(.t 7),(.c (.sl .leaf [])),(.t 8),(.t 9)]),
 Lw 6 10] [6])
 (.ret))
def Z14:Fn:=
 { nparams:=3,nblk:=0,results:=[.tmp 6],body:=Z14_B }
def Zx_L0:Cd:=
 .seq (.region [Ll 9 (.bin .lss (.t 8) (.t 7))] [0,1,5,7,8,9])
 (.seq (.cond (.t 9)
 (.skip)
 (.exit 0))
 (.seq (.block 1 (.region [Lw 10 5,
 Lw 11 1,
 Ll 12 (.bin .mul (.t 10) (.t 11)),
 Lw 13 0,
 Ll 14 (.bin .rem (.t 12) (.t 13)),
 Lw 5 14] [0,1,5,7,8]))
 (.region [Ll 15 (.bin .add (.t 8) (Acx 1)),
 Lw 8 15] [0,1,5,7,8])))
def Zx_B:Cd:=
 .seq (.region [Ll 4 (.mv (Acx 0))] [0,1])
 (.seq (.region [Ll 5 (.mv (Acx 1))] [0,1,5])
 (.seq (.seq (.region [Lw 6 0,
 Ll 7 (.bin .sub (.t 6) (Acx 2)),
 Ll 8 (.mv (Acx 0))] [0,1,5,7,8])
 (.block 0 (.loop (Zx_L0))))
 (.seq (.region [Lw 16 5,
 Lw 4 16] [4])
 (.ret))))
def Zx:Fn:=
 { nparams:=2,nblk:=0,results:=[.tmp 4],body:=Zx_B }
def Zt_L0:Cd:=
 .seq (.region [Ll 60 (.bin .lss (.t 59) (.t 58))] [0,2,8,9,10,11,12,57,58,59,60])
 (.seq (.cond (.t 60)
 (.skip)
 (.exit 2))
 (.seq (.block 3 (.seq (.region [Lw 61 59,
 Ll 62 (.idxA none .leaf (.t 57) (.t 59)),
 Ilx 63 62,
 Lw 13 61,
 Lw 14 63] [0,2,8,9,10,11,12,13,14,57,58,59])
 (.region [Lw 64 8,
 Lw 65 11,
 Lw 66 13,
 Ll 67 (.bin .add (.t 65) (.t 66)),
 Lw 68 0,
 Lw 69 8,
 Lw 70 11,
 Lw 71 13,
 Ll 72 (.bin .add (.t 70) (.t 71)),
 Ll 73 (.idxA none .leaf (.t 69) (.t 72)),
 Ilx 74 73,
 Lw 75 12,
 Lw 76 14,
 Ll 77 (.bin .mul (.t 75) (.t 76)),
 Ll 78 (.bin .sub (.t 74) (.t 77)),
 Ll 79 (Ofx F12 [(.t 68),(.t 78)]),
 Ll 80 (.idxA none .leaf (.t 64) (.t 67)),
 Ls (.store false .leaf (.t 80) (.t 79))] [0,2,8,9,10,11,12,57,58,59])))
 (.region [Ll 81 (.bin .add (.t 59) (Acx 1)),
 Lw 59 81] [0,2,8,9,10,11,12,57,58,59])))
def Zt_L1:Cd:=
 .seq (.seq (.region [Lw 37 11,
 Ll 38 (.bin .geq (.t 37) (Acx 0))] [0,2,8,9,10,11,38])
 (.cond (.t 38)
 (.skip)
 (.exit 0)))
 (.seq (.block 1 (.seq (.region [Lw 41 8,
 Lw 42 11,
 Lw 43 2,
 Ll 44 (.len false (.t 43)),
 Ll 45 (.bin .add (.t 42) (.t 44)),
 Ll 46 (.bin .sub (.t 45) (Acx 1)),
 Ll 47 (.idxA none .leaf (.t 41) (.t 46)),
 Ilx 48 47,
 Lw 49 10,
 Ll 50 (.bin .mul (.t 48) (.t 49)),
 Lw 51 0,
 Ll 52 (.bin .rem (.t 50) (.t 51)),
 Lw 12 52] [0,2,8,9,10,11,12])
 (.seq (.region [Lw 53 9,
 Lw 54 11,
 Lw 55 12,
 Ll 56 (.idxA none .leaf (.t 53) (.t 54)),
 Ls (.store false .leaf (.t 56) (.t 55))] [0,2,8,9,10,11,12])
 (.seq (.region [Lw 57 2,
 Ll 58 (.len false (.t 57)),
 Ll 59 (.mv (Acx 0))] [0,2,8,9,10,11,12,57,58,59])
 (.block 2 (.loop (Zt_L0)))))))
 (.region [Lw 39 11,
 Ll 40 (.bin .sub (.t 39) (Acx 1)),
 Lw 11 40] [0,2,8,9,10,11]))
def Zt_B:Cd:=
 .seq (.region [Ll 6 (.mv (.c (.sl .leaf []))),
 Ll 7 (.mv (.c (.sl .leaf [])))] [0,1,2])
 (.seq (.region [Lw 15 1,
 Ll 16 (.call .heap [0] (.f F1w) [(.t 15)]),
 Lw 8 16] [0,1,2,8])
 (.seq (.seq (.region [Lw 17 1,
 Ll 18 (.len false (.t 17)),
 Lw 19 2,
 Ll 20 (.len false (.t 19)),
 Ll 21 (.bin .lss (.t 18) (.t 20))] [0,1,2,8,21])
 (.cond (.t 21)
 (.seq (.region [Lw 22 8,
 Ll 6 (.mv (.c (.sl .leaf []))),
 Lw 7 22] [6,7])
 (.ret))
 (.skip)))
 (.seq (.region [Lw 23 1,
 Ll 24 (.len false (.t 23)),
 Lw 25 2,
 Ll 26 (.len false (.t 25)),
 Ll 27 (.bin .sub (.t 24) (.t 26)),
 Ll 28 (.bin .add (.t 27) (Acx 1)),
 Ll 29 (.mkSl 1 .leaf (.int .i64 0) 8 (.t 28) (.t 28)),
 Lw 9 29] [0,2,8,9])
 (.seq (.region [Lw 30 0,
 Lw 31 2,
 Ll 32 (Ofx F1c [(.t 31)]),
 Ll 33 (Ofx Fx [(.t 30),(.t 32)]),
 Lw 10 33] [0,2,8,9,10])
 (.seq (.seq (.region [Lw 34 9,
 Ll 35 (.len false (.t 34)),
 Ll 36 (.bin .sub (.t 35) (Acx 1)),
 Lw 11 36] [0,2,8,9,10,11])
 (.block 0 (.loop (Zt_L1))))
 (.seq (.region [Lw 82 9,
 Ll 83 (.call .data [] (.f F1e) [(.t 82)]),
 Lw 84 8,
 Ll 85 (.call .data [] (.f F1e) [(.t 84)]),
 Lw 6 83,
 Lw 7 85] [6,7])
 (.ret)))))))
def Zt:Fn:=
 { nparams:=3,nblk:=2,results:=[.tmp 6,.tmp 7],body:=Zt_B }
def Zr_L0:Cd:=
 .seq (.seq (.region [Lw 18 2,
 Ll 19 (.len false (.t 18)),
 Ll 20 (.bin .gtr (.t 19) (Acx 0))] [0,1,2,9,10,11,12,20])
 (.cond (.t 20)
 (.skip)
 (.exit 0)))
 (.block 1 (.seq (.region [Lw 22 0,
 Lw 23 1,
 Lw 24 2,
 Ll 25 (Opx Ft [(.t 22),(.t 23),(.t 24)]),
 Lw 21 25,
 Iex 26 21 0,
 Iex 27 21 1,
 Lw 13 26,
 Lw 14 27] [0,2,9,10,11,12,13,14])
 (.seq (.region [Lw 28 2,
 Lw 29 14,
 Lw 1 28,
 Lw 2 29] [0,1,2,9,10,11,12,13])
 (.seq (.region [Lw 30 11,
 Lw 31 0,
 Lw 32 9,
 Lw 33 0,
 Lw 34 13,
 Lw 35 11,
 Ll 36 (Opx F16 [(.t 33),(.t 34),(.t 35)]),
 Ll 37 (.call .data [] (.f Fs) [(.t 31),(.t 32),(.t 36),(Acx (-1))]),
 Lw 9 30,
 Lw 11 37] [0,1,2,9,10,11,12,13])
 (.region [Lw 38 12,
 Lw 39 0,
 Lw 40 10,
 Lw 41 0,
 Lw 42 13,
 Lw 43 12,
 Ll 44 (.call .data [] (.f F16) [(.t 41),(.t 42),(.t 43)]),
 Ll 45 (.call .data [] (.f Fs) [(.t 39),(.t 40),(.t 44),(Acx (-1))]),
 Lw 10 38,
 Lw 12 45] [0,1,2,9,10,11,12])))))
def Zr_B:Cd:=
 .seq (.region [Ll 6 (.mv (.c (.sl .leaf []))),
 Ll 7 (.mv (.c (.sl .leaf []))),
 Ll 8 (.mv (.c (.sl .leaf [])))] [0,1,2])
 (.seq (.region [Ll 16 (.buildSl false 0 .leaf (.int .i64 0) 1 [(0,(Acx 1))]),
 Lw 9 16,
 Ll 10 (.mv (.c (.sl .leaf [])))] [0,1,2,9,10])
 (.seq (.region [Ll 17 (.buildSl false 1 .leaf (.int .i64 0) 1 [(0,(Acx 1))]),
 Ll 11 (.mv (.c (.sl .leaf []))),
 Lw 12 17] [0,1,2,9,10,11,12])
 (.seq (.block 0 (.loop (Zr_L0)))
 (.seq (.region [Lw 46 0,
 Lw 47 1,
 Ll 48 (Ofx F1c [(.t 47)]),
 Ll 49 (Ofx Fx [(.t 46),(.t 48)]),
 Lw 15 49] [0,1,9,10,15])
 (.seq (.region [Lw 50 0,
 Lw 51 1,
 Lw 52 15,
 Ll 53 (Opx F14 [(.t 50),(.t 51),(.t 52)]),
 Lw 54 0,
 Lw 55 9,
 Lw 56 15,
 Ll 57 (.call .data [] (.f F14) [(.t 54),(.t 55),(.t 56)]),
 Lw 58 0,
 Lw 59 10,
 Lw 60 15,
 Ll 61 (.call .data [] (.f F14) [(.t 58),(.t 59),(.t 60)]),
 Lw 6 53,
 Lw 7 57,
 Lw 8 61] [6,7,8])
 (.ret))))))
def Zr:Fn:=
 { nparams:=3,nblk:=2,results:=[.tmp 6,.tmp 7,.tmp 8],body:=Zr_B }
def Zw_B:Cd:=
 .seq (.region [Ll 6 (.mv (.c (.sl .leaf [])))] [0,1,2])
 (.seq (.region [Lw 11 0,
 Lw 12 1,
 Lw 13 2,
 Ll 14 (Opx Fr [(.t 11),(.t 12),(.t 13)]),
 Lw 10 14,
 Iex 15 10 0,
 Iex 16 10 1,
 Iex 17 10 2,
 Lw 7 15,
 Lw 8 16,
 Lw 9 17] [7])
 (.seq (.region [Lw 18 7,
 Lw 6 18] [6])
 (.ret)))
def Zw:Fn:=
 { nparams:=3,nblk:=0,results:=[.tmp 6],body:=Zw_B }
def Z13_B:Cd:=
 .seq (.region [Ll 6 (.mv (.c (.sl .leaf [])))] [0,1,2])
 (.seq (.region [Lw 10 0,
 Lw 11 1,
 Lw 12 2,
 Ll 13 (Opx Ft [(.t 10),(.t 11),(.t 12)]),
 Lw 9 13,
 Iex 14 9 0,
 Iex 15 9 1,
 Lw 7 14,
 Lw 8 15] [8])
 (.seq (.region [Lw 16 8,
 Lw 6 16] [6])
 (.ret)))
def Z13:Fn:=
 { nparams:=3,nblk:=0,results:=[.tmp 6],body:=Z13_B }
def Z11_L0:Cd:=
 .seq (.seq (.region [Lw 19 2,
 Ll 20 (.bin .gtr (.t 19) (Acx 0))] [0,2,3,9,10,20])
 (.cond (.t 20)
 (.skip)
 (.exit 0)))
 (.seq (.block 1 (.seq (.seq (.region [Lw 23 2,
 Ll 24 (.bin .and (.t 23) (Acx 1)),
 Ll 25 (.bin .eql (.t 24) (Acx 1))] [0,2,3,9,10,25])
 (.cond (.t 25)
 (.region [Lw 26 0,
 Lw 27 0,
 Lw 28 9,
 Lw 29 10,
 Ll 30 (Opx F16 [(.t 27),(.t 28),(.t 29)]),
 Lw 31 3,
 Ll 32 (Opx F13 [(.t 26),(.t 30),(.t 31)]),
 Lw 9 32] [0,2,3,9,10])
 (.skip)))
 (.region [Lw 33 0,
 Lw 34 0,
 Lw 35 10,
 Lw 36 10,
 Ll 37 (Opx F16 [(.t 34),(.t 35),(.t 36)]),
 Lw 38 3,
 Ll 39 (Opx F13 [(.t 33),(.t 37),(.t 38)]),
 Lw 10 39] [0,2,3,9,10])))
 (.region [Lw 21 2,
 Ll 22 (.bin .shr (.t 21) (.c (.int .u64 1))),
 Lw 2 22] [0,2,3,9,10]))
def Z11_B:Cd:=
 .seq (.region [Ll 8 (.mv (.c (.sl .leaf [])))] [0,1,2,3])
 (.seq (.region [Lw 11 0,
 Ll 12 (.buildSl false 0 .leaf (.int .i64 0) 1 [(0,(Acx 1))]),
 Lw 13 3,
 Ll 14 (.call .data [] (.f F13) [(.t 11),(.t 12),(.t 13)]),
 Lw 15 0,
 Lw 16 1,
 Lw 17 3,
 Ll 18 (Opx F13 [(.t 15),(.t 16),(.t 17)]),
 Lw 9 14,
 Lw 10 18] [0,2,3,9,10])
 (.seq (.block 0 (.loop (Z11_L0)))
 (.seq (.region [Lw 40 9,
 Lw 8 40] [8])
 (.ret))))
def Z11:Fn:=
 { nparams:=4,nblk:=1,results:=[.tmp 8],body:=Z11_B }
def Z4_B:Cd:=
 .seq (.region [Ll 3 (.box false 0 (.t 1)),
 Ll 4 (.mv (.c (.bool false)))] [0,3])
 (.seq (.region [Lw 5 0,
 Ll 6 (Ofx Fk [(.t 5)]),
 Lw 7 6,
 Lx 8 0 7 true,
 Lg 9 (.load Sx6 (.t 3)) 7 true,
 Lg 10 (Ofx Fi [(.t 8),(.t 9)]) 7 true,
 Ll 11 (.pick (.t 7) (.t 10) (.c (.bool false))),
 Lw 4 11] [4])
 (.ret))
def Z4:Fn:=
 { nparams:=2,nblk:=1,results:=[.tmp 4],body:=Z4_B }
def Z1d_L0:Cd:=
 .seq (.region [Ll 9 (.bin .lss (.t 8) (.t 7))] [2,3,6,7,8,9])
 (.seq (.cond (.t 9)
 (.skip)
 (.exit 0))
 (.seq (.block 1 (.seq (.region [Lw 10 8,
 Ll 11 (.idxA none .leaf (.t 6) (.t 8)),
 Ilx 12 11,
 Lw 4 10,
 Lw 5 12] [2,3,4,5,6,7,8])
 (.region [Lw 13 4,
 Lw 14 5,
 Ll 15 (.conv .u8 (.t 14)),
 Ll 16 (.idxA (some 64) .leaf (.t 3) (.t 13)),
 Ls (.store false .leaf (.t 16) (.t 15))] [2,3,6,7,8])))
 (.region [Ll 17 (.bin .add (.t 8) (Acx 1)),
 Lw 8 17] [2,3,6,7,8])))
def Z1d_B:Cd:=
 .seq (.region [Ll 2 (.box false 0 (.c (.arr 64 .leaf z64)))] [0,2])
 (.seq (.region [Ll 3 (.box false 1 (.c (.arr 64 .leaf z64)))] [0,2,3])
 (.seq (.seq (.region [Lw 6 0,
 Ll 7 (.len false (.t 6)),
 Ll 8 (.mv (Acx 0))] [2,3,6,7,8])
 (.block 0 (.loop (Z1d_L0))))
 (.seq (.region [Ipx 18 3,
 Ls (.store false Sx6 (.t 2) (.t 18))] [2])
 (.ret))))
def Z1d:Fn:=
 { nparams:=1,nblk:=2,results:=[.cell 2 Sx6],body:=Z1d_B }
def Zo_L0:Cd:=
 .seq (.region [Ll 9 (.bin .lss (.t 8) (.t 7))] [3,6,7,8,9])
 (.seq (.cond (.t 9)
 (.skip)
 (.exit 0))
 (.seq (.block 1 (.seq (.region [Ll 10 (.idxA none .leaf (.t 6) (.t 8)),
 Ilx 11 10,
 Lw 5 11] [3,5,6,7,8])
 (.region [Lw 12 3,
 Lw 13 5,
 Ll 14 (Ofx F1d [(.t 13)]),
 Ll 15 (.buildSl false 1 Sx6 (.arr 64 .leaf z64) 1 [(0,(.t 14))]),
 Ll 16 (.append Sx6 2 64 (.t 12) (.t 15)),
 Lw 3 16] [3,6,7,8])))
 (.region [Ll 17 (.bin .add (.t 8) (Acx 1)),
 Lw 8 17] [3,6,7,8])))
def Zo_B:Cd:=
 .seq (.region [Ll 2 (.mv (.c (.sl Sx6 [])))] [0])
 (.seq (.region [Ll 3 (.nilOwn 0 Sx6)] [0,3])
 (.seq (.seq (.region [Lw 6 0,
 Ll 7 (.len false (.t 6)),
 Ll 8 (.mv (Acx 0))] [3,6,7,8])
 (.block 0 (.loop (Zo_L0))))
 (.seq (.region [Lw 18 3,
 Lw 2 18] [2])
 (.ret))))
def Zo:Fn:=
 { nparams:=1,nblk:=3,results:=[.tmp 2],body:=Zo_B }
def Zq_L0:Cd:=
 .seq (.region [Ll 9 (.bin .lss (.t 8) (.t 7))] [3,6,7,8,9])
 (.seq (.cond (.t 9)
 (.skip)
 (.exit 0))
 (.seq (.block 1 (.seq (.region [Ll 10 (.idxA none .leaf (.t 6) (.t 8)),
 Ilx 11 10,
 Lw 5 11] [3,5,6,7,8])
 (.region [Lw 12 3,
 Lw 13 5,
 Ll 14 (Ofx F1d [(.t 13)]),
 Ll 15 (.buildSl false 2 Sx6 (.arr 64 .leaf z64) 1 [(0,(.t 14))]),
 Ll 16 (.append Sx6 3 64 (.t 12) (.t 15)),
 Lw 3 16] [3,6,7,8])))
 (.region [Ll 17 (.bin .add (.t 8) (Acx 1)),
 Lw 8 17] [3,6,7,8])))
def Zq_B:Cd:=
 .seq (.region [Ll 2 (.nilOwn 0 Sx6)] [0])
 (.seq (.region [Ll 3 (.nilOwn 1 Sx6)] [0,3])
 (.seq (.seq (.region [Lw 6 0,
 Ll 7 (.len false (.t 6)),
 Ll 8 (.mv (Acx 0))] [3,6,7,8])
 (.block 0 (.loop (Zq_L0))))
 (.seq (.region [Lw 18 3,
 Lw 2 18] [2])
 (.ret))))
def Zq:Fn:=
 { nparams:=1,nblk:=4,results:=[.tmp 2],body:=Zq_B }
end Pe

/-
 Functions of the program in the small form,printed by a program.
-/
namespace Pe
open Go
def Zl_B:Cd:=
 .seq (.region [Ll 0 (.mv (.c (.sl .leaf [])))] [])
 (.seq (.region [Ll 1 (.buildSl false 0 .leaf (.int .i64 0) 2 [(0,(Acx 0)),(1,(Acx 1))]),
 Lw 0 1] [0])
 (.ret))
def Zl:Fn:=
 { nparams:=0,nblk:=1,results:=[.tmp 0],body:=Zl_B }
def Z17_L0:Cd:=
 .seq (.seq (.region [Lw 25 8,
 Lw 26 7,
 Ll 27 (.bin .mul (Acx 2) (.t 26)),
 Ll 28 (.bin .lss (.t 25) (.t 27))] [0,1,7,8,28])
 (.cond (.t 28)
 (.skip)
 (.exit 0)))
 (.seq (.block 1 (.seq (.region [Lw 31 0,
 Lw 32 8,
 Ll 33 (Opx F10 [(.t 31),(.t 32)]),
 Lw 9 33] [0,1,7,8,9])
 (.seq (.region [Lw 34 0,
 Lw 35 1,
 Lw 36 9,
 Ll 37 (Opx F13 [(.t 34),(.t 35),(.t 36)]),
 Ll 38 (.len false (.t 37)),
 Ll 39 (.bin .eql (.t 38) (Acx 0))] [0,1,7,8,9,39])
 (.cond (.t 39)
 (.seq (.region [Lw 40 9,
 Lw 6 40] [6])
 (.ret))
 (.skip)))))
 (.region [Lw 29 8,
 Ll 30 (.bin .add (.t 29) (Acx 1)),
 Lw 8 30] [0,1,7,8]))
def Z17_B:Cd:=
 .seq (.region [Ll 6 (.mv (.c (.sl .leaf [])))] [0,1,2])
 (.seq (.seq (.region [Lw 10 1,
 Ll 11 (Ofx F1b [(.t 10)]),
 Lw 12 2,
 Ll 13 (.bin .eql (.t 11) (.t 12))] [0,1,2,13])
 (.cond (.t 13)
 (.seq (.region [Lw 14 0,
 Lw 15 1,
 Lw 16 0,
 Lw 17 1,
 Ll 18 (Ofx F1c [(.t 17)]),
 Ll 19 (Ofx Fx [(.t 16),(.t 18)]),
 Ll 20 (Opx F14 [(.t 14),(.t 15),(.t 19)]),
 Lw 6 20] [6])
 (.ret))
 (.skip)))
 (.seq (.region [Lw 21 0,
 Lw 22 2,
 Ll 23 (Ofx Fz [(.t 21),(.t 22),(Acx 1099511627776)]),
 Lw 7 23] [0,1,7])
 (.seq (.seq (.region [Lw 24 7,
 Lw 8 24] [0,1,7,8])
 (.block 0 (.loop (Z17_L0))))
 (.seq (.region [Lw 41 1,
 Lw 6 41] [6])
 (.ret)))))
def Z17:Fn:=
 { nparams:=3,nblk:=0,results:=[.tmp 6],body:=Z17_B }
def Z15_L0:Cd:=
 .block 1 (.seq (.region [Lw 12 0,
 Lw 13 1,
 Lw 14 2,
 Ll 15 (Opx Ft [(.t 12),(.t 13),(.t 14)]),
 Lw 11 15,
 Iex 16 11 0,
 Iex 17 11 1,
 Lw 9 16,
 Lw 10 17] [0,1,2,8,9,10])
 (.seq (.seq (.region [Lw 18 10,
 Ll 19 (.len false (.t 18)),
 Ll 20 (.bin .gtr (.t 19) (Acx 0))] [0,1,2,8,9,20])
 (.cond (.t 20)
 (.seq (.region [Lw 21 1,
 Lw 22 8,
 Lw 6 21,
 Lw 7 22] [6,7])
 (.ret))
 (.skip)))
 (.seq (.region [Lw 23 9,
 Lw 1 23] [0,1,2,8])
 (.region [Lw 24 8,
 Ll 25 (.bin .add (.t 24) (Acx 1)),
 Lw 8 25] [0,1,2,8]))))
def Z15_B:Cd:=
 .seq (.region [Ll 6 (.mv (.c (.sl .leaf []))),
 Ll 7 (.mv (Acx 0))] [0,1,2])
 (.seq (.region [Ll 8 (.mv (Acx 0))] [0,1,2,8])
 (.block 0 (.loop (Z15_L0))))
def Z15:Fn:=
 { nparams:=3,nblk:=0,results:=[.tmp 6,.tmp 7],body:=Z15_B }
def Zb_L0:Cd:=
 .seq (.seq (.region [Lw 19 6,
 Ll 20 (.bin .geq (.t 19) (Acx 0))] [0,1,6,20])
 (.cond (.t 20)
 (.skip)
 (.exit 0)))
 (.seq (.block 1 (.seq (.region [Lw 23 0,
 Lw 24 6,
 Ll 25 (.idxA none .leaf (.t 23) (.t 24)),
 Ilx 26 25,
 Lw 27 1,
 Lw 28 6,
 Ll 29 (.idxA none .leaf (.t 27) (.t 28)),
 Ilx 30 29,
 Ll 31 (Ofx F1 [(.t 26),(.t 30)]),
 Lw 7 31] [0,1,6,7])
 (.seq (.region [Lw 32 7,
 Ll 33 (.bin .neq (.t 32) (Acx 0))] [0,1,6,7,33])
 (.cond (.t 33)
 (.seq (.region [Lw 34 7,
 Lw 4 34] [4])
 (.ret))
 (.skip)))))
 (.region [Lw 21 6,
 Ll 22 (.bin .sub (.t 21) (Acx 1)),
 Lw 6 22] [0,1,6]))
def Zb_B:Cd:=
 .seq (.region [Ll 4 (.mv (Acx 0))] [0,1])
 (.seq (.seq (.region [Lw 8 0,
 Ll 9 (.len false (.t 8)),
 Lw 10 1,
 Ll 11 (.len false (.t 10)),
 Ll 12 (Ofx F0 [(.t 9),(.t 11)]),
 Lw 5 12] [0,1,5])
 (.seq (.region [Lw 13 5,
 Ll 14 (.bin .neq (.t 13) (Acx 0))] [0,1,5,14])
 (.cond (.t 14)
 (.seq (.region [Lw 15 5,
 Lw 4 15] [4])
 (.ret))
 (.skip))))
 (.seq (.seq (.region [Lw 16 0,
 Ll 17 (.len false (.t 16)),
 Ll 18 (.bin .sub (.t 17) (Acx 1)),
 Lw 6 18] [0,1,6])
 (.block 0 (.loop (Zb_L0))))
 (.seq (.region [Ll 4 (.mv (Acx 0))] [4])
 (.ret))))
def Zb:Fn:=
 { nparams:=2,nblk:=0,results:=[.tmp 4],body:=Zb_B }
def Zv_B:Cd:=
 .seq (.region [Ll 2 (.box false 0 (.t 0)),
 Ll 3 (.box false 1 (.t 1)),
 Ll 4 (.mv (Acx 0))] [2,3])
 (.seq (.region [Ll 5 (.fldA [.leaf,.leaf] (.t 2) 0),
 Ilx 6 5,
 Ll 7 (.fldA [.leaf,.leaf] (.t 3) 0),
 Ilx 8 7,
 Ll 9 (Ofx Fb [(.t 6),(.t 8)]),
 Lw 4 9] [4])
 (.ret))
def Zv:Fn:=
 { nparams:=2,nblk:=2,results:=[.tmp 4],body:=Zv_B }
def Zu_L0:Cd:=
 .seq (.region [Ll 36 (.bin .lss (.t 35) (.t 34))] [0,1,5,6,7,34,35,36])
 (.seq (.cond (.t 36)
 (.skip)
 (.exit 2))
 (.seq (.block 3 (.region [Lw 37 0,
 Lw 38 7,
 Lw 39 0,
 Lw 40 1,
 Ll 41 (Opx F11 [(.t 37),(.t 38),(.t 39),(.t 40)]),
 Lw 7 41] [0,1,5,6,7,34,35]))
 (.region [Ll 42 (.bin .add (.t 35) (Acx 1)),
 Lw 35 42] [0,1,5,6,7,34,35])))
def Zu_L1:Cd:=
 .seq (.seq (.region [Lw 50 8,
 Ll 51 (Ofx F1b [(.t 50)]),
 Ll 52 (.bin .gtr (.t 51) (Acx 0))] [0,1,5,6,8,52])
 (.cond (.t 52)
 (.skip)
 (.exit 4)))
 (.block 5 (.seq (.region [Lw 53 0,
 Lw 54 8,
 Lw 55 6,
 Ll 56 (Opx F17 [(.t 53),(.t 54),(.t 55)]),
 Lw 9 56] [0,1,5,6,8,9])
 (.seq (.region [Lw 58 0,
 Lw 59 1,
 Lw 60 9,
 Ll 61 (Opx F15 [(.t 58),(.t 59),(.t 60)]),
 Lw 57 61,
 Iex 62 57 0,
 Iex 63 57 1,
 Lw 10 62,
 Lw 11 63] [0,5,6,8,9,10,11])
 (.seq (.region [Lw 64 10,
 Lw 1 64] [0,1,5,6,8,9,11])
 (.seq (.region [Lw 66 0,
 Lw 67 8,
 Lw 68 9,
 Ll 69 (Opx F15 [(.t 66),(.t 67),(.t 68)]),
 Lw 65 69,
 Iex 70 65 0,
 Iex 71 65 1,
 Lw 8 70] [0,1,5,6,8,9,11])
 (.region [Lw 72 5,
 Lw 73 9,
 Lw 74 11,
 Ll 75 (.build false (.st [.leaf,.leaf] [(.sl .leaf []),(.int .i64 0)]) [(0,(.t 73)),(1,(.t 74))]),
 Ll 76 (.buildSl false 3 (.st [.leaf,.leaf]) (.st [.leaf,.leaf] [(.sl .leaf []),(.int .i64 0)]) 1 [(0,(.t 75))]),
 Ll 77 (.append (.st [.leaf,.leaf]) 4 32 (.t 72) (.t 76)),
 Lw 5 77] [0,1,5,6,8]))))))
def Zu_L2:Cd:=
 .seq (.seq (.region [Lw 12 1,
 Ll 13 (Ofx F1b [(.t 12)]),
 Ll 14 (.bin .gtr (.t 13) (Acx 0))] [0,1,5,6,14])
 (.cond (.t 14)
 (.skip)
 (.exit 0)))
 (.seq (.block 1 (.seq (.seq (.region [Lw 17 6,
 Ll 18 (.bin .mul (Acx 2) (.t 17)),
 Lw 19 1,
 Ll 20 (Ofx F1b [(.t 19)]),
 Ll 21 (.bin .gtr (.t 18) (.t 20))] [0,1,5,6,21])
 (.cond (.t 21)
 (.seq (.region [Lw 22 5,
 Lw 23 0,
 Lw 24 1,
 Lw 25 0,
 Lw 26 1,
 Ll 27 (Ofx F1c [(.t 26)]),
 Ll 28 (Ofx Fx [(.t 25),(.t 27)]),
 Ll 29 (Opx F14 [(.t 23),(.t 24),(.t 28)]),
 Ll 30 (.build false (.st [.leaf,.leaf] [(.sl .leaf []),(.int .i64 0)]) [(0,(.t 29)),(1,(Acx 1))]),
 Ll 31 (.buildSl false 1 (.st [.leaf,.leaf]) (.st [.leaf,.leaf] [(.sl .leaf []),(.int .i64 0)]) 1 [(0,(.t 30))]),
 Ll 32 (.append (.st [.leaf,.leaf]) 2 32 (.t 22) (.t 31)),
 Lw 5 32] [5])
 (.exit 0))
 (.skip)))
 (.seq (.region [Ll 33 (Opx Fl []),
 Lw 7 33] [0,1,5,6,7])
 (.seq (.seq (.region [Lw 34 6,
 Ll 35 (.mv (Acx 0))] [0,1,5,6,7,34,35])
 (.block 2 (.loop (Zu_L0))))
 (.seq (.region [Lw 43 0,
 Lw 44 0,
 Lw 45 7,
 Ll 46 (Opx Fl []),
 Ll 47 (Opx Fs [(.t 44),(.t 45),(.t 46),(Acx (-1))]),
 Lw 48 1,
 Ll 49 (Opx Fw [(.t 43),(.t 47),(.t 48)]),
 Lw 8 49] [0,1,5,6,8])
 (.block 4 (.loop (Zu_L1))))))))
 (.region [Lw 15 6,
 Ll 16 (.bin .add (.t 15) (Acx 1)),
 Lw 6 16] [0,1,5,6]))
def Zu_B:Cd:=
 .seq (.region [Ll 4 (.mv (.c (.sl (.st [.leaf,.leaf]) [])))] [0,1])
 (.seq (.region [Ll 5 (.nilOwn 0 (.st [.leaf,.leaf]))] [0,1,5])
 (.seq (.seq (.region [Ll 6 (.mv (Acx 1))] [0,1,5,6])
 (.block 0 (.loop (Zu_L2))))
 (.seq (.region [Lw 78 5,
 Ll 79 (.call .heap [] (.f F21) [(.t 78),(.f Fv)])] [5])
 (.seq (.region [Lw 80 5,
 Lw 4 80] [4])
 (.ret)))))
def Zu:Fn:=
 { nparams:=2,nblk:=5,results:=[.tmp 4],body:=Zu_B }
def Zy_B:Cd:=
 .seq (.region [Ll 4 (.mv (.c (.bool false)))] [0,1])
 (.seq (.seq (.region [Lw 6 1,
 Ll 7 (Ofx F1c [(.t 6)]),
 Ll 8 (.bin .neq (.t 7) (Acx 1)),
 Lw 9 8,
 Lx 10 1 9 false,
 Lg 11 (Ofx F1b [(.t 10)]) 9 false,
 Lg 12 (.bin .lss (.t 11) (Acx 1)) 9 false,
 Ll 13 (.pick (.t 9) (.c (.bool true)) (.t 12))] [0,1,13])
 (.cond (.t 13)
 (.seq (.region [Ll 4 (.mv (.c (.bool false)))] [4])
 (.ret))
 (.skip)))
 (.seq (.region [Lw 14 0,
 Lw 15 1,
 Ll 16 (Opx Fu [(.t 14),(.t 15)]),
 Lw 5 16] [5])
 (.seq (.region [Lw 17 5,
 Ll 18 (.len false (.t 17)),
 Ll 19 (.bin .eql (.t 18) (Acx 1)),
 Lw 20 19,
 Lx 21 5 20 true,
 Lg 22 (.idxA none (.st [.leaf,.leaf]) (.t 21) (Acx 0)) 20 true,
 Lg 23 (.fldA [.leaf,.leaf] (.t 22) 1) 20 true,
 Lg 24 (.load .leaf (.t 23)) 20 true,
 Lg 25 (.bin .eql (.t 24) (Acx 1)) 20 true,
 Ll 26 (.pick (.t 20) (.t 25) (.c (.bool false))),
 Lw 4 26] [4])
 (.ret))))
def Zy:Fn:=
 { nparams:=2,nblk:=0,results:=[.tmp 4],body:=Zy_B }
end Pe

namespace Pe
open Go
variable {T:Nat→Option Fn} {A:af}
theorem yv {n p:Int} (hp:0<p):-p<n.tmod p∧n.tmod p<p:=by
 have hp0:p≠0:=by omega
 have e:=Int.tmod_eq_emod (a:=n) (b:=p);have g1:=d8 n hp0;have g2:=ck n hp;refine ⟨?_,Int.tmod_lt_of_pos n hp⟩;rw [e]
 split
 ·omega
 ·rename_i hx
  have hx':n%p≠0:=fun h0=>hx (.inr (Int.dvd_of_emod_eq_zero h0))
  omega
theorem wo {n p:Int} (hp:0<p):(n.tmod p+p).tmod p=n%p:=by
 have e0:=yv (n:=n) hp;rw [ci (by omega),Int.add_emod_right,Int.tmod_eq_emod]
 split
 ·simp
 ·rw [show ((p.natAbs:Nat):Int)=p by omega,Int.sub_emod,Int.emod_self,Int.sub_zero,ig _ (Int.dvd_refl p),ig _ (Int.dvd_refl p)]
def rg (O:af):Prop:=∀p n:Int,0<p→p<1000000→-9000000000000000000≤n→n≤9000000000000000000→ask O F12 [(D.int .i64 p),(D.int .i64 n)]=some ((D.int .i64 (n%p)))
theorem X0 (hT:T F12=some Z12):rg (den T A):=by
 intro p n hp hp' hn hn';have hp0:p≠0:=by omega
 have e0:=yv (n:=n) hp;have h1:IntKind.i64.wrap (n.tmod p+p)=n.tmod p+p:=w64 (by omega)
 refine br hT rfl ?_;simp -implicitDefEqProofs [Z12,Z12_B,hp0,h1,wo hp]
def cf (l:List Int) (i:Nat):Int:=l.getD i 0
theorem dp {l:List Int} {i:Nat} (h:i<l.length):cf l i=l[i]:=by simp [cf,h]
theorem n4 {l:List Int} {i:Nat} (h:l.length≤i):cf l i=0:=by simp [cf,h]
def a05 (O:af):Prop:=∀(l:List Int) (i:Nat),i<9000000000000000000→ask O F1a [(D.sl .leaf (am .i64 l)),(D.int .i64 i)]=some ((D.int .i64 (cf l i)))
theorem aa2 (hT:T F1a=some Z1a):a05 (den T A):=by
 intro l i hi;refine br hT rfl ?_
 by_cases h:i<l.length
 ·have h1:l[i]? = some l[i]:=al h
  have h2:(i:Int)<(l.length:Int):=by omega
  simp -implicitDefEqProofs [Z1a,Z1a_B,h1,h2,ap,dp h]
 ·have h2:¬ (i:Int)<(l.length:Int):=by omega
  simp -implicitDefEqProofs [Z1a,Z1a_B,h2,ap,n4 (Nat.le_of_not_lt h)]
def mu (l:List Int):Nat→Nat
 | 0=>0
 | n+1=>if cf l n=0 then mu l n else n+1
def trim (l:List Int):List Int:=l.take (mu l l.length)
theorem Bn (l:List Int):∀n,mu l n≤n
 | 0=>b9 0
 | n+1=>by
  simp only [mu]
  split
  ·have:=Bn l n; omega
  ·exact b9 _
theorem G0 {O:af} {l:List Int} (hl:l.length<1000000):∀(n:Nat),n≤l.length →
 dn O 0 (.loop Z1e_L0) ⟨[(0,(.d (.sl .leaf (am .i64 l)))),(3,(.d (.int .i64 n)))],[]⟩=some (.exit 0,⟨[(0,(.d (.sl .leaf (am .i64 l)))),(3,(.d (.int .i64 (mu l n)))),(15,(.d (.bool false)))],[]⟩)
 | 0,_=>bo (by simp -implicitDefEqProofs [Z1e_L0,ap,mu])
 | n+1,hn=>by
  have hlt:n<l.length:=by omega
  have h1:l[n]? = some l[n]:=al hlt;have h2:IntKind.i64.wrap (n:Int)=n:=w64 (by omega)
  have h3:(0:Int)<(n:Int)+1:=by omega
  by_cases h0:l[n]=0
  ·have e:mu l (n+1)=mu l n:=by simp [mu,dp hlt,h0]
   rw [e];exact bm (by simp -implicitDefEqProofs [Z1e_L0,ap,h1,h2,h3,h0]) (G0 hl n (by omega))
  ·have e:mu l (n+1)=n+1:=by simp [mu,dp hlt,h0]
   rw [e];exact bo (by simp -implicitDefEqProofs [Z1e_L0,ap,h1,h2,h3,h0])
def pr (O:af):Prop:=∀l:List Int,l.length<1000000→ask O F1e [(D.sl .leaf (am .i64 l))]=some ((D.sl .leaf (am .i64 (trim l))))
theorem Ry (hT:T F1e=some Z1e):pr (den T A):=by
 intro l hl;refine br hT rfl ?_;have ht:=Bn l l.length;simp -implicitDefEqProofs [Z1e,Z1e_B,G0 hl l.length (b9 _),ht,trim]
def upd (f:Nat→Int):Nat→Nat→List Int→List Int
 | 0,_,l=>l
 | m+1,i,l=>upd f m (i+1) (l.set i (f i))
theorem tv (f:Nat→Int):∀(m i:Nat) (l:List Int),(upd f m i l).length=l.length
 | 0,_,_=>rfl
 | m+1,i,l=>by rw [upd,tv f m]; simp
theorem Bl (f:Nat→Int):∀(m i:Nat) (l:List Int) (j:Nat),(upd f m i l)[j]? = if i≤j∧j<i+m∧j<l.length then some (f j) else l[j]?
 | 0,i,l,j=>by rw [upd,if_neg (by omega)]
 | m+1,i,l,j=>by
  rw [upd,Bl f m,c5]
  by_cases h1:i+1≤j∧j<i+1+m∧j<l.length
  ·rw [if_pos h1,if_pos (by omega)]
  ·rw [if_neg h1]
   by_cases h2:j=i
   ·subst h2
    by_cases h3:j<l.length
    ·rw [if_pos (by omega),aw h3]
    ·rw [if_neg (by omega),bi (by simpa using h3),bi (by omega)]
   ·rw [az (fa h2),if_neg (by omega)]
theorem ze (f:Nat→Int) (n:Nat) (l:List Int) (hl:l.length=n):upd f n 0 l=(List.range n).map f:=by
 apply dc;intro j;rw [Bl,dj]
 by_cases hj:j<n
 ·rw [if_pos (by omega),eg hj]; rfl
 ·rw [if_neg (by omega),bi (by omega),bi (by simpa using hj)]; rfl
def Small (b:Int) (l:List Int):Prop:=∀x∈l,-b≤x∧x≤b
theorem Small.le {b:Int} {l:List Int} (h:Small b l) (hb:0≤b) (i:Nat):-b≤cf l i∧cf l i≤b:=by
 rw [Pe.cf,c6];cases hq:l[i]? with
 | none=>simp; omega
 | some x=>exact h x (fm hq)
def lin (p:Int) (a b:List Int) (k:Int) (i:Nat):Int:=(cf a i+k*cf b i)%p
def a0q (p:Int) (a b:List Int) (k:Int):List Int:=trim ((List.range (max a.length b.length)).map (lin p a b k))
theorem gv {x y b c:Int} (hx:-b≤x∧x≤b) (hy:-c≤y∧y≤c) (_hb:0≤b):-(b*c)≤x*y∧x*y≤b*c:=by
 have hc:0≤c:=by omega
 have h1:0≤(b-x)*(c+y):=ec (by omega) (by omega)
 have h2:0≤(b+x)*(c-y):=ec (by omega) (by omega)
 have h3:0≤(b-x)*(c-y):=ec (by omega) (by omega)
 have h4:0≤(b+x)*(c+y):=ec (by omega) (by omega)
 have e1:(b-x)*(c+y)=b*c+b*y-x*c-x*y:=by simp only [Int.sub_mul,p9]; omega
 have e2:(b+x)*(c-y)=b*c-b*y+x*c-x*y:=by simp only [Int.add_mul,Int.mul_sub]; omega
 have e3:(b-x)*(c-y)=b*c-b*y-x*c+x*y:=by simp only [Int.sub_mul,Int.mul_sub]; omega
 have e4:(b+x)*(c+y)=b*c+b*y+x*c+x*y:=by simp only [Int.add_mul,p9]; omega
 constructor <;> omega
theorem Gj {O:af} (hat:a05 O) (hred:rg O) {p k:Int} {a b:List Int} (hp:0<p∧p<1000000) (ha:Small 1000000 a) (hb:Small 1000000 b) (hk:-1000000≤k∧k≤1000000) {n:Nat} (hn:n<1000000) :
 ∀(m i:Nat) (cur:List Int),i+m=n→cur.length=n →
 dn O 0 (.loop Zs_L0) ⟨[(0,(.d (.int .i64 p))),(1,(.d (.sl .leaf (am .i64 a)))),(2,(.d (.sl .leaf (am .i64 b)))),(3,(.d (.int .i64 k))),(9,.sl 0 [] 0 n (some n)),(18,(.d (.int .i64 n))),(19,(.d (.int .i64 i)))],[.sl false .leaf (am .i64 cur)]⟩ =
  some (.exit 0,⟨[(0,(.d (.int .i64 p))),(1,(.d (.sl .leaf (am .i64 a)))),(2,(.d (.sl .leaf (am .i64 b)))),(3,(.d (.int .i64 k))),(9,.sl 0 [] 0 n (some n)),(18,(.d (.int .i64 n))),(19,(.d (.int .i64 n))),(20,(.d (.bool false)))],[.sl false .leaf (am .i64 (upd (lin p a b k) m i cur))]⟩)
 | 0,i,cur,hi,hc=>by
  have:i=n:=by omega
  subst this;exact bo (by simp -implicitDefEqProofs [Zs_L0,ap,upd])
 | m+1,i,cur,hi,hc=>by
  have h1:(i:Int)<(n:Int):=by omega
  have hin:i<n:=by omega
  have e1:=hat a i (by omega)
  have e2:=hat b i (by omega)
  have ga:=ha.le (by omega) i
  have gb:=hb.le (by omega) i
  have gm:=gv hk gb (by omega)
  have w1:IntKind.i64.wrap (k*cf b i)=k*cf b i:=w64 (by omega)
  have w2:IntKind.i64.wrap (cf a i+k*cf b i)=cf a i+k*cf b i:=w64 (by omega)
  have e3:=hred p (cf a i+k*cf b i) hp.1 hp.2 (by omega) (by omega)
  have w3:IntKind.i64.wrap ((i:Int)+1)=((i+1:Nat):Int):=by rw [w64 (by omega)]; omega
  have hcur:cur[i]? = some cur[i]:=al (by omega)
  refine bm ?_ (Gj hat hred hp ha hb hk hn m (i+1) (cur.set i (lin p a b k i)) (by omega) (by simpa using hc))
  simp -implicitDefEqProofs [Zs_L0,ap,h1,hin,e1,e2,w1,w2,e3,w3,hcur,lin]
def wu (O:af):Prop:=∀(p k:Int) (a b:List Int),0<p→p<1000000→Small 1000000 a→Small 1000000 b→-1000000≤k→k≤1000000→a.length<1000000→b.length<1000000 →
 ask O Fs [(D.int .i64 p),(D.sl .leaf (am .i64 a)),(D.sl .leaf (am .i64 b)),(D.int .i64 k)]=some ((D.sl .leaf (am .i64 (a0q p a b k))))
theorem Sr (hT:T Fs=some Zs) (hat:a05 (den T A)) (hred:rg (den T A)) (htr:pr (den T A)):wu (den T A):=by
 intro p k a b hp hp' ha hb hk hk' hla hlb;have hl:=Gj hat hred ⟨hp,hp'⟩ ha hb ⟨hk,hk'⟩ (n:=max a.length b.length) (by omega) (max a.length b.length) 0 (List.replicate (max a.length b.length) 0) (by omega) (by simp)
 rw [ze _ _ _ (by simp)] at hl
 have e1:=htr ((List.range (max a.length b.length)).map (lin p a b k)) (by simp; omega)
 have emax:(if a.length<b.length then (b.length:Int) else (a.length:Int))=((max a.length b.length:Nat):Int):=by
  split <;> omega
 have h64:max a.length b.length*8≤1099511627776:=by omega
 refine br hT rfl ?_;unfold a0q;generalize max a.length b.length=n at *;rw [show ((0:Nat):Int)=0 from rfl] at hl;have htk:((List.range n).map (lin p a b k)).take n=(List.range n).map (lin p a b k):=av (by simp)
 simp -implicitDefEqProofs [Zs,Zs_B,emax,h64,hl,e1,htk]
end Pe

namespace Pe
open Go
variable {T:Nat→Option Fn} {A:af}
def qt (x:Int) (b:List Int) (i:Nat):Nat→Nat→List Int→List Int
 | 0,_,cur=>cur
 | m+1,k,cur=>qt x b i m (k+1) (cur.set (i+k) (cf cur (i+k)+x*cf b k))
theorem po (x:Int) (b:List Int) (i:Nat):∀(m k:Nat) (cur:List Int),(qt x b i m k cur).length=cur.length
 | 0,_,_=>rfl
 | m+1,k,cur=>by rw [qt,po]; simp
theorem tl (l:List Int) (i:Nat) (x:Int) (j:Nat):cf (l.set i x) j=if j=i∧i<l.length then x else cf l j:=by
 unfold cf;rw [c6,c6,List.getElem?_set]
 by_cases h:i=j
 ·subst h
  by_cases h2:i<l.length
  ·simp [h2]
  ·simp [h2]
 ·rw [if_neg h,if_neg (by omega)]
theorem Ci (x:Int) (b:List Int) (i:Nat):∀(m k:Nat) (cur:List Int) (j:Nat),i+k+m≤cur.length→cf (qt x b i m k cur) j=cf cur j+if i+k≤j∧j<i+k+m then x*cf b (j-i) else 0
 | 0,k,cur,j,_=>by rw [qt,if_neg (by omega)]; omega
 | m+1,k,cur,j,h=>by
  rw [qt,Ci x b i m (k+1) _ j (by rw [c5]; omega),tl]
  by_cases hj:j=i+k
  ·subst hj
   rw [if_pos ⟨rfl,by omega⟩,if_neg (by omega),if_pos (by omega),show i+k-i=k by omega]
   omega
  ·rw [if_neg (by omega)]
   by_cases h2:i+k+1≤j∧j<i+k+1+m
   ·rw [if_pos (by omega),if_pos (by omega)]
   ·rw [if_neg (by omega),if_neg (by omega)]
theorem Small.of_cf {B:Int} (_hB:0≤B) {l:List Int} (h:∀j,-B≤cf l j∧cf l j≤B):Small B l:=by
 intro x hx;obtain ⟨j,hj,rfl⟩:=gh hx;have:=h j
 rwa [dp hj] at this
theorem Lk {O:af} {p x:Int} {b:List Int} {i la nb:Nat} {a:List Int} (hx:-1000≤x∧x≤1000) (hb:Small 1000 b) (hi:i<10000) (hbl:b.length<10000) {n:Nat} (hn:i+b.length≤n) (hn':n<1000000) :
 ∀(m k:Nat) (cur:List Int),k+m=b.length→cur.length=n→(∀j,i+k≤j→-9000000000000≤cf cur j∧cf cur j≤9000000000000) →
 dn O 0 (.loop Z16_L0) ⟨[(0,(.d (.int .i64 p))),(2,(.d (.sl .leaf (am .i64 b)))),(7,.sl 0 [] 0 n (some n)),(8,(.d (.int .i64 i))),(9,(.d (.int .i64 x))),(29,(.d (.sl .leaf (am .i64 a)))),(30,(.d (.int .i64 la))),(31,(.d (.int .i64 nb))),(36,(.d (.sl .leaf (am .i64 b)))),(37,(.d (.int .i64 b.length))),(38,(.d (.int .i64 k)))],[.sl false .leaf (am .i64 cur)]⟩ =
  some (.exit 2,⟨[(0,(.d (.int .i64 p))),(2,(.d (.sl .leaf (am .i64 b)))),(7,.sl 0 [] 0 n (some n)),(8,(.d (.int .i64 i))),(9,(.d (.int .i64 x))),(29,(.d (.sl .leaf (am .i64 a)))),(30,(.d (.int .i64 la))),(31,(.d (.int .i64 nb))),(36,(.d (.sl .leaf (am .i64 b)))),(37,(.d (.int .i64 b.length))),(38,(.d (.int .i64 b.length))),(39,(.d (.bool false)))],[.sl false .leaf (am .i64 (qt x b i m k cur))]⟩)
 | 0,k,cur,hk,hc,hs=>by
  have:k=b.length:=by omega
  subst this;exact bo (by simp -implicitDefEqProofs [Z16_L0,ap,qt])
 | m+1,k,cur,hk,hc,hs=>by
  have h1:(k:Int)<(b.length:Int):=by omega
  have hkl:k<b.length:=by omega
  have hbk:b[k]=cf b k:=(dp hkl).symm;have w1:IntKind.i64.wrap ((i:Int)+(k:Int))=((i+k:Nat):Int):=by rw [w64 (by omega)]; omega
  have hik:i+k<n:=by omega
  have t1:(0:Int)≤(i:Int)+(k:Int):=by omega
  have t2:((i:Int)+(k:Int)).toNat=i+k:=by omega
  have hikc:i+k<cur.length:=by omega
  have hck:cur[i+k]=cf cur (i+k):=(dp hikc).symm;have gb:=hb.le (by omega) k
  have gc:=hs (i+k) (by omega)
  have gm:=gv hx gb (by omega)
  have w2:IntKind.i64.wrap (x*cf b k)=x*cf b k:=w64 (by omega)
  have w3:IntKind.i64.wrap (cf cur (i+k)+x*cf b k)=cf cur (i+k)+x*cf b k:=w64 (by omega)
  have w4:IntKind.i64.wrap ((k:Int)+1)=((k+1:Nat):Int):=by rw [w64 (by omega)]; omega
  refine bm ?_ (Lk hx hb hi hbl hn hn' m (k+1) (cur.set (i+k) (cf cur (i+k)+x*cf b k)) (by omega) (by simpa using hc) (fun j hj=>by rw [tl,if_neg (by omega)]; exact hs j (by omega)))
  simp -implicitDefEqProofs [Z16_L0,ap,hkl,hbk,w1,t1,t2,hik,hikc,hck,w2,w3,w4]
def ua (a b:List Int):Nat→Nat→List Int→List Int
 | 0,_,cur=>cur
 | m+1,i,cur=>ua a b m (i+1) (qt (cf a i) b i b.length 0 cur)
theorem yl (a b:List Int):∀(m i:Nat) (cur:List Int),(ua a b m i cur).length=cur.length
 | 0,_,_=>rfl
 | m+1,i,cur=>by rw [ua,yl,po]
theorem Jj {x:Int} {b:List Int} {i:Nat} {cur:List Int} {M:Int} (hx:-1000≤x∧x≤1000) (hb:Small 1000 b) (hl:i+b.length≤cur.length) (h:∀j,-M≤cf cur j∧cf cur j≤M) (j:Nat) :
 -(M+1000000)≤cf (qt x b i b.length 0 cur) j∧cf (qt x b i b.length 0 cur) j≤M+1000000:=by
 rw [Ci _ _ _ _ _ _ _ (by omega)]
 have h1:=h j;have h2:=gv hx (hb.le (by omega) (j-i)) (by omega)
 split <;> omega
theorem Uo {O:af} {p:Int} {a b:List Int} (ha:Small 1000 a) (hb:Small 1000 b) (hal:a.length<10000) (hbl:b.length<10000) (hb0:0<b.length) {n:Nat} (hn:n=a.length+b.length-1) :
 ∀(m i:Nat) (cur:List Int),i+m=a.length→cur.length=n→(∀j,-((i:Int)*1000000)≤cf cur j∧cf cur j≤(i:Int)*1000000) →
 dn O 0 (.loop Z16_L1) ⟨[(0,(.d (.int .i64 p))),(2,(.d (.sl .leaf (am .i64 b)))),(7,.sl 0 [] 0 n (some n)),(29,(.d (.sl .leaf (am .i64 a)))),(30,(.d (.int .i64 a.length))),(31,(.d (.int .i64 i)))],[.sl false .leaf (am .i64 cur)]⟩ =
  some (.exit 0,⟨[(0,(.d (.int .i64 p))),(2,(.d (.sl .leaf (am .i64 b)))),(7,.sl 0 [] 0 n (some n)),(29,(.d (.sl .leaf (am .i64 a)))),(30,(.d (.int .i64 a.length))),(31,(.d (.int .i64 a.length))),(32,(.d (.bool false)))],[.sl false .leaf (am .i64 (ua a b m i cur))]⟩):=by
 intro m
 induction m with
 | zero=>
  intro i cur hi hc hs;have:i=a.length:=by omega
  subst this;exact bo (by simp -implicitDefEqProofs [Z16_L1,ap,ua])
 | succ m ih=>
  intro i cur hi hc hs;have hil:i<a.length:=by omega
  have hai:a[i]=cf a i:=(dp hil).symm;have gx:=ha.le (by omega) i
  have q1:i<10000:=by omega
  have q2:i+b.length≤n:=by omega
  have q3:n<1000000:=by omega
  have q4:∀j,i+0≤j→-9000000000000≤cf cur j∧cf cur j≤9000000000000:=fun j _=>by
   have h9:=hs j;omega
  have h0:=Lk (O:=O) (p:=p) (a:=a) (la:=a.length) (nb:=i) gx hb q1 hbl q2 q3 b.length 0 cur (b7 _) hc q4;have e0:((0:Nat):Int)=0:=rfl;rw [e0] at h0;have w4:IntKind.i64.wrap ((i:Int)+1)=((i+1:Nat):Int):=(w64 (x:=(i:Int)+1) (by omega)).trans (by omega)
  have hnew:∀j,-(((i+1:Nat):Int)*1000000)≤cf (qt (cf a i) b i b.length 0 cur) j∧cf (qt (cf a i) b i b.length 0 cur) j≤((i+1:Nat):Int)*1000000:=by
   intro j;have:=Jj (x:=cf a i) (b:=b) (i:=i) (cur:=cur) gx hb (by omega) hs j
   omega
  refine bm ?_ (ih (i+1) (qt (cf a i) b i b.length 0 cur) (by omega) (by rw [po]; exact hc) hnew)
  simp -implicitDefEqProofs [Z16_L1,ap,hil,hai,h0,w4]
theorem Jp {O:af} {p:Int} {out:List Int} (hp:0<p) {n:Nat} (hn:n<1000000) (hout:out.length=n) (hpos:∀j,-9000000000000000≤cf out j∧cf out j≤9000000000000000) :
 ∀(m i:Nat) (cur:List Int),i+m=n→cur.length=n→(∀j,i≤j→cf cur j=cf out j) →
 dn O 0 (.loop Z16_L2) ⟨[(0,(.d (.int .i64 p))),(7,.sl 0 [] 0 n (some n)),(56,.sl 0 [] 0 n (some n)),(57,(.d (.int .i64 n))),(58,(.d (.int .i64 i)))],[.sl false .leaf (am .i64 cur)]⟩ =
  some (.exit 4,⟨[(0,(.d (.int .i64 p))),(7,.sl 0 [] 0 n (some n)),(56,.sl 0 [] 0 n (some n)),(57,(.d (.int .i64 n))),(58,(.d (.int .i64 n))),(59,(.d (.bool false)))],[.sl false .leaf (am .i64 (upd (fun j=>(cf out j).tmod p) m i cur))]⟩)
 | 0,i,cur,hi,hc,hs=>by
  have:i=n:=by omega
  subst this;exact bo (by simp -implicitDefEqProofs [Z16_L2,ap,upd])
 | m+1,i,cur,hi,hc,hs=>by
  have hp0:p≠0:=by omega
  have hin:i<n:=by omega
  have hic:i<cur.length:=by omega
  have hci:cur[i]=cf out i:=by rw [←dp hic]; exact hs i (by omega)
  have w4:IntKind.i64.wrap ((i:Int)+1)=((i+1:Nat):Int):=by rw [w64 (by omega)]; omega
  refine bm ?_ (Jp hp hn hout hpos m (i+1) (cur.set i ((cf out i).tmod p)) (by omega) (by simpa using hc) (fun j hj=>by rw [tl,if_neg (by omega)]; exact hs j (by omega)))
  simp -implicitDefEqProofs [Z16_L2,ap,hin,hic,hci,hp0,w4]
def conv (a b:List Int):Nat→Nat→Int
 | 0,_=>0
 | m+1,j=>conv a b m j+if m≤j then cf a m*cf b (j-m) else 0
theorem Cb (a b:List Int):∀(m i:Nat) (cur:List Int) (j:Nat),i+m=a.length→a.length+b.length≤cur.length+1→0<b.length→(cf cur j=conv a b i j)→(∀j',cf cur j'=conv a b i j')→cf (ua a b m i cur) j=conv a b (i+m) j
 | 0,i,cur,j,_,_,_,h,_=>h
 | m+1,i,cur,j,hi,hl,hb,h,hall=>by
  have step:∀j',cf (qt (cf a i) b i b.length 0 cur) j'=conv a b (i+1) j':=by
   intro j';rw [Ci _ _ _ _ _ _ _ (by omega),hall j',conv]
   by_cases h1:i+0≤j'∧j'<i+0+b.length
   ·rw [if_pos h1,if_pos (by omega)]
   ·rw [if_neg h1]
    by_cases h2:i≤j'
    ·rw [if_pos h2,n4 (l:=b) (by omega),Int.mul_zero]
    ·rw [if_neg h2]
  rw [ua,show i+(m+1)=(i+1)+m by omega]
  exact Cb a b m (i+1) _ j (by omega) (by rw [po]; exact hl) hb (step j) step
def Can (p:Int) (l:List Int):Prop:=∀x∈l,0≤x∧x<p
theorem Can.small {p:Int} {l:List Int} (h:Can p l) {b:Int} (hp:p≤b):Small b l:=fun x hx=>by have:=h x hx; omega
theorem Can.le {p:Int} {l:List Int} (h:Can p l) (hp:0<p) (i:Nat):0≤cf l i∧cf l i<p:=by
 by_cases hi:i<l.length
 ·rw [dp hi]; exact h _ (bh hi)
 ·rw [n4 (by omega)]; omega
theorem v4 {p:Int} {a b:List Int} (hp:0<p) (ha:Can p a) (hb:Can p b):∀m j,0≤conv a b m j
 | 0,j=>by simp [conv]
 | m+1,j=>by
  have:=v4 hp ha hb m j;rw [conv]
  split
  ·have:=ec (ha.le hp m).1 (hb.le hp (j-m)).1
   omega
  ·omega
def mul (p:Int) (a b:List Int):List Int:=trim ((List.range (a.length+b.length-1)).map fun j=>conv a b a.length j%p)
theorem zy {l:List Int}:∀n,(∀j,j<n→cf l j=0)→mu l n=0
 | 0,_=>rfl
 | n+1,h=>by
  rw [mu,if_pos (h n (by omega))]
  exact zy n fun j hj=>h j (by omega)
theorem J7 (a:List Int):∀m j,conv a [] m j=0
 | 0,_=>rfl
 | m+1,j=>by rw [conv,J7 a m j,n4 (l:=[]) (by simp)]; simp
theorem ku (f:Nat→Int) (n j:Nat) (hj:j<n):cf ((List.range n).map f) j=f j:=by
 rw [dp (by simpa using hj)]; simp
theorem H6 (p:Int) (b:List Int):mul p [] b=[]:=by
 unfold mul trim;rw [zy,cz];intro j hj;rw [ku _ _ _ (by simpa using hj)]
 simp [conv]
theorem Em (p:Int) (a:List Int):mul p a []=[]:=by
 unfold mul trim;rw [zy,cz];intro j hj;rw [ku _ _ _ (by simpa using hj),J7]
 simp
def Hj (O:af):Prop:=∀(p:Int) (a b:List Int),0<p→p<1000→Can p a→Can p b→a.length<10000→b.length<10000 →
 ask O F16 [(D.int .i64 p),(D.sl .leaf (am .i64 a)),(D.sl .leaf (am .i64 b))]=some ((D.sl .leaf (am .i64 (mul p a b))))
theorem a0h (hT:T F16=some Z16) (htr:pr (den T A)):Hj (den T A):=by
 intro p a b hp hp' ha hb hal hbl;refine br hT rfl ?_
 by_cases h1:a=[]
 ·subst h1
  rw [H6];simp -implicitDefEqProofs [Z16,Z16_B,ap,gf]
 ·by_cases h2:b=[]
  ·subst h2
   have hal0:a.length≠0:=by simpa using h1
   rw [Em];simp -implicitDefEqProofs [Z16,Z16_B,ap,gf,h1]
  ·have g1:0<a.length:=iw.2 h1
   have g2:0<b.length:=iw.2 h2
   have l1:=Uo (O:=den T A) (p:=p) (ha.small (b:=1000) (by omega)) (hb.small (b:=1000) (by omega)) hal hbl g2 rfl a.length 0 (List.replicate (a.length+b.length-1) 0) (b7 _) (by simp) (fun j=>by
    have:cf (List.replicate (a.length+b.length-1) 0) j=0:=by
     by_cases hj:j<a.length+b.length-1
     ·rw [dp (by simpa using hj)]; simp
     ·exact n4 (by simp; omega)
    rw [this]; simp)
   have hz:∀j,cf (List.replicate (a.length+b.length-1) (0:Int)) j=0:=fun j=>by
    by_cases hj:j<a.length+b.length-1
    ·rw [dp (by simpa using hj)]; simp
    ·exact n4 (by simp; omega)
   have hrl:(ua a b a.length 0 (List.replicate (a.length+b.length-1) 0)).length=a.length+b.length-1:=by rw [yl]; simp
   have hrc:∀j,cf (ua a b a.length 0 (List.replicate (a.length+b.length-1) 0)) j=conv a b a.length j:=fun j=>by
    have:=Cb a b a.length 0 (List.replicate (a.length+b.length-1) 0) j (b7 _) (by simp; omega) g2 (by rw [hz]; rfl) (fun j'=>by rw [hz]; rfl)
    rwa [b7] at this
   have hcb:∀m j,conv a b m j≤(m:Int)*1000000:=by
    intro m
    induction m with
    | zero=>intro j; simp [conv]
    | succ m ih=>
     intro j;have h3:=ih j;have h4:=gv ((ha.small (b:=1000) (by omega)).le (by omega) m) ((hb.small (b:=1000) (by omega)).le (by omega) (j-m)) (by omega)
     rw [conv]
     split <;> omega
   have l2:=Jp (O:=den T A) (p:=p) (out:=ua a b a.length 0 (List.replicate (a.length+b.length-1) 0)) hp (n:=a.length+b.length-1) (by omega) hrl (fun j=>by
    rw [hrc];have h3:=v4 hp ha hb a.length j;have h4:=hcb a.length j;omega) (a.length+b.length-1) 0 (ua a b a.length 0 (List.replicate (a.length+b.length-1) 0)) (b7 _) hrl (fun _ _=>rfl)
   rw [ze _ _ _ hrl] at l2
   have hfun:(fun j=>(cf (ua a b a.length 0 (List.replicate (a.length+b.length-1) 0)) j).tmod p)=fun j=>conv a b a.length j%p:=by
    funext j
    rw [hrc,ci (v4 hp ha hb a.length j)]
   rw [hfun] at l2;have e0:((0:Nat):Int)=0:=rfl;rw [e0] at l1 l2;have e1:=htr ((List.range (a.length+b.length-1)).map fun j=>conv a b a.length j%p) (by simp; omega)
   have n1:a.length≠0:=by omega
   have n2:b.length≠0:=by omega
   have w1:IntKind.i64.wrap ((a.length:Int)+(b.length:Int))=(a.length:Int)+(b.length:Int):=w64 (by omega)
   have w2:IntKind.i64.wrap ((a.length:Int)+(b.length:Int)-1)=((a.length+b.length-1:Nat):Int):=(w64 (x:=(a.length:Int)+(b.length:Int)-1) (by omega)).trans (by omega)
   have h8:(a.length+b.length-1)*8≤1099511627776:=by omega
   unfold mul;generalize a.length+b.length-1=n at *;have htk:((List.range n).map fun j=>conv a b a.length j%p).take n=(List.range n).map fun j=>conv a b a.length j%p:=av (by simp)
   simp -implicitDefEqProofs [Z16,Z16_B,ap,h1,h2,w1,w2,h8,l1,l2,e1,htk]
end Pe

namespace Pe
open Go
variable {T:Nat→Option Fn} {A:af}
def Ae (p n:Int):Nat→Int
 | 0=>1
 | m+1=>Ae p n m*n%p
def inv (p n:Int):Int:=Ae p n (p-2).toNat
theorem Qu {p n:Int} (hp:1<p):∀m,0≤Ae p n m∧Ae p n m<p
 | 0=>by simp [Ae]; omega
 | m+1=>⟨d8 _ (by omega),ck _ (by omega)⟩
theorem G1 {O:af} {p n:Int} (hp:1<p) (hp':p<1000) (hn:0≤n∧n<p) {k:Nat} (hk:(k:Int)=p-2):∀(m i:Nat),i+m=k →
 dn O 0 (.loop Zx_L0) ⟨[(0,(.d (.int .i64 p))),(1,(.d (.int .i64 n))),(5,(.d (.int .i64 (Ae p n i)))),(7,(.d (.int .i64 k))),(8,(.d (.int .i64 i)))],[]⟩=some (.exit 0,⟨[(0,(.d (.int .i64 p))),(1,(.d (.int .i64 n))),(5,(.d (.int .i64 (Ae p n k)))),(7,(.d (.int .i64 k))),(8,(.d (.int .i64 k))),(9,(.d (.bool false)))],[]⟩)
 | 0,i,hi=>by
  have:i=k:=by omega
  subst this;exact bo (by simp -implicitDefEqProofs [Zx_L0,ap])
 | m+1,i,hi=>by
  have hik:i<k:=by omega
  have g:=Qu (n:=n) hp i;have hp0:p≠0:=by omega
  have gm:=gv (x:=Ae p n i) (y:=n) (b:=1000) (c:=1000) (by omega) (by omega) (by omega)
  have w1:IntKind.i64.wrap (Ae p n i*n)=Ae p n i*n:=w64 (by omega)
  have w2:(Ae p n i*n).tmod p=Ae p n (i+1):=ci (ec g.1 hn.1);have w4:IntKind.i64.wrap ((i:Int)+1)=((i+1:Nat):Int):=(w64 (x:=(i:Int)+1) (by omega)).trans (by omega)
  refine bm ?_ (G1 hp hp' hn hk m (i+1) (by omega))
  simp -implicitDefEqProofs [Zx_L0,ap,hik,hp0,w1,w2,w4]
def o8 (O:af):Prop:=∀p n:Int,1<p→p<1000→0≤n→n<p→ask O Fx [(D.int .i64 p),(D.int .i64 n)]=some ((D.int .i64 (inv p n)))
theorem Si (hT:T Fx=some Zx):o8 (den T A):=by
 intro p n hp hp' hn hn';have hk:(((p-2).toNat:Nat):Int)=p-2:=by omega
 have hl:=G1 (O:=den T A) hp hp' ⟨hn,hn'⟩ hk (p-2).toNat 0 (by omega)
 have w1:IntKind.i64.wrap (p-2)=(((p-2).toNat:Nat):Int):=(w64 (x:=p-2) (by omega)).trans (by omega)
 have e0:((0:Nat):Int)=0:=rfl;rw [e0] at hl;have e1:Ae p n 0=1:=rfl;rw [e1] at hl;refine br hT rfl ?_;unfold inv;generalize (p-2).toNat=k at *;simp -implicitDefEqProofs [Zx,Zx_B,w1,hl]
def lm (O:af):Prop:=∀l:List Int,l.length<1000000→ask O F1b [(D.sl .leaf (am .i64 l))]=some ((D.int .i64 ((l.length:Int)-1)))
theorem Wu (hT:T F1b=some Z1b):lm (den T A):=by
 intro l hl;have w1:IntKind.i64.wrap ((l.length:Int)-1)=(l.length:Int)-1:=w64 (by omega)
 refine br hT rfl ?_;simp -implicitDefEqProofs [Z1b,Z1b_B,w1]
def Bc (l:List Int):Int:=cf l (l.length-1)
def uw (O:af):Prop:=∀l:List Int,l.length<1000000→ask O F1c [(D.sl .leaf (am .i64 l))]=some ((D.int .i64 (Bc l)))
theorem a1n (hT:T F1c=some Z1c):uw (den T A):=by
 intro l hl;refine br hT rfl ?_
 by_cases h:l=[]
 ·subst h
  simp -implicitDefEqProofs [Z1c,Z1c_B,ap,gf,Bc,cf]
 ·have h1:0<l.length:=iw.2 h
  have w1:IntKind.i64.wrap ((l.length:Int)-1)=((l.length-1:Nat):Int):=(w64 (x:=(l.length:Int)-1) (by omega)).trans (by omega)
  have h2:l.length-1<l.length:=by omega
  have h3:l[l.length-1]? = some (Bc l):=by
   rw [al h2]; exact congrArg some (dp h2).symm
  have h4:(l.length:Int)≠0:=by omega
  simp -implicitDefEqProofs [Z1c,Z1c_B,ap,h,w1,h3]
def Cw (O:af):Prop:=∀n a b:Int,ask O F1g [(D.int .i64 n),(D.int .i64 a),(D.int .i64 b)]=some ((D.bool (decide (a≤n∧n≤b))))
theorem Xc (hT:T F1g=some Z1g):Cw (den T A):=by
 intro n a b;refine br hT rfl ?_
 by_cases h:a≤n <;> simp -implicitDefEqProofs [Z1g,Z1g_B,h]
def isP (p:Int):Bool:=decide (p=2∨p=3∨p=5∨p=7)
def A9 (O:af):Prop:=∀p:Int,ask O Fk [(D.int .i64 p)]=some ((D.bool (isP p)))
theorem T8 (hT:T Fk=some Zk):A9 (den T A):=by
 intro p;refine br hT rfl ?_
 by_cases h2:p=2
 ·simp -implicitDefEqProofs [Zk,Zk_B,h2,isP]
 ·by_cases h3:p=3
  ·simp -implicitDefEqProofs [Zk,Zk_B,h3,isP]
  ·by_cases h5:p=5
   ·simp -implicitDefEqProofs [Zk,Zk_B,h5,isP]
   ·simp -implicitDefEqProofs [Zk,Zk_B,h2,h3,h5,isP]
def Hi (O:af):Prop:=∀(p k:Int) (a:List Int),0<p→p<1000000→Small 1000000 a→-1000000≤k→k≤1000000→a.length<1000000 →
 ask O F14 [(D.int .i64 p),(D.sl .leaf (am .i64 a)),(D.int .i64 k)]=some ((D.sl .leaf (am .i64 (a0q p [] a k))))
theorem Yu (hT:T F14=some Z14) (hc:wu (den T A)):Hi (den T A):=by
 intro p k a hp hp' ha hk hk' hl;have e1:=hc p k [] a hp hp' (by intro x hx; simp at hx) ha hk hk' (by simp) hl
 rw [gf] at e1;refine br hT rfl ?_;simp -implicitDefEqProofs [Z14,Z14_B,e1]
def z5 (O:af):Prop:=ask O Fl []=some ((D.sl .leaf (am .i64 ([0,1]))))
theorem Xk (hT:T Fl=some Zl):z5 (den T A):=by
 refine br hT rfl ?_;simp -implicitDefEqProofs [Zl,Zl_B,am,List.replicate]
end Pe

namespace Pe
open Go
variable {T:Nat→Option Fn} {A:af}
def jo (p q:Int) (b:List Int) (i:Nat):Nat→Nat→List Int→List Int
 | 0,_,cur=>cur
 | m+1,k,cur=>jo p q b i m (k+1) (cur.set (i+k) ((cf cur (i+k)-q*cf b k)%p))
theorem ji (p q:Int) (b:List Int) (i:Nat):∀(m k:Nat) (cur:List Int),(jo p q b i m k cur).length=cur.length
 | 0,_,_=>rfl
 | m+1,k,cur=>by rw [jo,ji]; simp
theorem uj (p q:Int) (b:List Int) (i:Nat):∀(m k:Nat) (cur:List Int) (j:Nat),i+k+m≤cur.length→cf (jo p q b i m k cur) j=if i+k≤j∧j<i+k+m then (cf cur j-q*cf b (j-i))%p else cf cur j
 | 0,k,cur,j,_=>by rw [jo,if_neg (by omega)]
 | m+1,k,cur,j,h=>by
  rw [jo,uj p q b i m (k+1) _ j (by rw [c5]; omega),tl]
  by_cases hj:j=i+k
  ·subst hj
   rw [if_neg (by omega),if_pos ⟨rfl,by omega⟩,if_pos (by omega),show i+k-i=k by omega]
  ·have e:(if j=i+k∧i+k<cur.length then (cf cur (i+k)-q*cf b k)%p else cf cur j)=cf cur j:=if_neg fun h=>hj h.1
   rw [e]
   by_cases h2:i+k+1≤j∧j<i+k+1+m
   ·rw [if_pos (by omega),if_pos (by omega)]
   ·rw [if_neg (by omega),if_neg (by omega)]
theorem Can.of_cf {p:Int} {l:List Int} (h:∀j,j<l.length→0≤cf l j∧cf l j<p):Can p l:=by
 intro x hx;obtain ⟨j,hj,rfl⟩:=gh hx;have:=h j hj
 rwa [dp hj] at this
theorem zl {p q:Int} {b:List Int} {i:Nat} (hp:0<p) {m k:Nat} {cur:List Int} (hl:i+k+m≤cur.length) (hc:Can p cur):Can p (jo p q b i m k cur):=by
 apply Can.of_cf;intro j hj;rw [uj _ _ _ _ _ _ _ _ hl]
 split
 ·exact ⟨d8 _ (by omega),ck _ hp⟩
 ·exact hc.le hp j
theorem Sv {O:af} (hred:rg O) {p q by_:Int} {b quo:List Int} {i la nq:Nat} {cp:Option Nat} (hp:0<p) (hp':p<1000) (hq:0≤q∧q<p) (hb:Can p b) (hi:i<10000) (hbl:b.length<10000) (hn:i+b.length≤la) (hn':la<1000000) :
 ∀(m k:Nat) (cur:List Int),k+m=b.length→cur.length=la→Can p cur →
 dn O 0 (.loop Zt_L0) ⟨[(0,(.d (.int .i64 p))),(2,(.d (.sl .leaf (am .i64 b)))),(8,.sl 0 [] 0 la cp),(9,.sl 1 [] 0 nq (some nq)),(10,(.d (.int .i64 by_))),(11,(.d (.int .i64 i))),(12,(.d (.int .i64 q))),(57,(.d (.sl .leaf (am .i64 b)))),(58,(.d (.int .i64 b.length))),(59,(.d (.int .i64 k)))],[.sl false .leaf (am .i64 cur),.sl false .leaf (am .i64 quo)]⟩ =
  some (.exit 2,⟨[(0,(.d (.int .i64 p))),(2,(.d (.sl .leaf (am .i64 b)))),(8,.sl 0 [] 0 la cp),(9,.sl 1 [] 0 nq (some nq)),(10,(.d (.int .i64 by_))),(11,(.d (.int .i64 i))),(12,(.d (.int .i64 q))),(57,(.d (.sl .leaf (am .i64 b)))),(58,(.d (.int .i64 b.length))),(59,(.d (.int .i64 b.length))),(60,(.d (.bool false)))],[.sl false .leaf (am .i64 (jo p q b i m k cur)),.sl false .leaf (am .i64 quo)]⟩):=by
 intro m
 induction m with
 | zero=>
  intro k cur hk hc hcan;have:k=b.length:=by omega
  subst this;exact bo (by simp -implicitDefEqProofs [Zt_L0,ap,jo])
 | succ m ih=>
  intro k cur hk hc hcan;have hkl:k<b.length:=by omega
  have hbk:b[k]=cf b k:=(dp hkl).symm;have hik:i+k<la:=by omega
  have hikc:i+k<cur.length:=by omega
  have hck:cur[i+k]=cf cur (i+k):=(dp hikc).symm;have t1:(0:Int)≤(i:Int)+(k:Int):=by omega
  have t2:((i:Int)+(k:Int)).toNat=i+k:=by omega
  have w1:IntKind.i64.wrap ((i:Int)+(k:Int))=((i+k:Nat):Int):=(w64 (x:=(i:Int)+(k:Int)) (by omega)).trans (by omega)
  have gb:=hb.le hp k;have gc:=hcan.le hp (i+k);have gm:=gv (x:=q) (y:=cf b k) (b:=1000) (c:=1000) (by omega) (by omega) (by omega)
  have w2:IntKind.i64.wrap (q*cf b k)=q*cf b k:=w64 (by omega)
  have w3:IntKind.i64.wrap (cf cur (i+k)-q*cf b k)=cf cur (i+k)-q*cf b k:=w64 (by omega)
  have w4:IntKind.i64.wrap ((k:Int)+1)=((k+1:Nat):Int):=(w64 (x:=(k:Int)+1) (by omega)).trans (by omega)
  have e3:=hred p (cf cur (i+k)-q*cf b k) hp (by omega) (by omega) (by omega)
  have hcan':Can p (cur.set (i+k) ((cf cur (i+k)-q*cf b k)%p)):=by
   intro x hx;rcases d9 hx with h | h
   ·exact hcan x h
   ·subst h; exact ⟨d8 _ (by omega),ck _ hp⟩
  refine bm ?_ (ih (k+1) (cur.set (i+k) ((cf cur (i+k)-q*cf b k)%p)) (by omega) (by simpa using hc) hcan')
  simp -implicitDefEqProofs [Zt_L0,ap,hkl,hbk,w1,t1,t2,hik,hikc,hck,w2,w3,w4,e3]
def dv (p by_:Int) (b:List Int):Nat→List Int×List Int→List Int×List Int
 | 0,r=>r
 | c+1,(cur,quo)=>
  let q:=cf cur (c+b.length-1)*by_%p
  dv p by_ b c (jo p q b c b.length 0 cur,quo.set c q)
theorem Ru {O:af} (hred:rg O) {p by_:Int} {b:List Int} {la nq:Nat} {cp:Option Nat} (hp:0<p) (hp':p<1000) (hby:0≤by_∧by_<p) (hb:Can p b) (hb0:0<b.length) (hn:nq+b.length=la+1) (hn':la<10000) :
 ∀(c:Nat) (cur quo:List Int),c≤nq→cur.length=la→quo.length=nq→Can p cur →
 dn O 0 (.loop Zt_L1) ⟨[(0,(.d (.int .i64 p))),(2,(.d (.sl .leaf (am .i64 b)))),(8,.sl 0 [] 0 la cp),(9,.sl 1 [] 0 nq (some nq)),(10,(.d (.int .i64 by_))),(11,(.d (.int .i64 ((c:Int)-1))))],[.sl false .leaf (am .i64 cur),.sl false .leaf (am .i64 quo)]⟩ =
  some (.exit 0,⟨[(0,(.d (.int .i64 p))),(2,(.d (.sl .leaf (am .i64 b)))),(8,.sl 0 [] 0 la cp),(9,.sl 1 [] 0 nq (some nq)),(10,(.d (.int .i64 by_))),(11,(.d (.int .i64 (-1)))),(38,(.d (.bool false)))],[.sl false .leaf (am .i64 (dv p by_ b c (cur,quo)).1),.sl false .leaf (am .i64 (dv p by_ b c (cur,quo)).2)]⟩):=by
 intro c
 induction c with
 | zero=>
  intro cur quo hc h1 h2 hcan;exact bo (by simp -implicitDefEqProofs [Zt_L1,ap,dv])
 | succ c ih=>
  intro cur quo hc h1 h2 hcan;have hp0:p≠0:=by omega
  have t0:(((c+1:Nat):Int)-1)=(c:Int):=by omega
  rw [t0];have hil:c+b.length-1<cur.length:=by omega
  have hil2:c+b.length-1<la:=by omega
  have hci:cur[c+b.length-1]=cf cur (c+b.length-1):=(dp hil).symm;have gc:=hcan.le hp (c+b.length-1);have w1:IntKind.i64.wrap ((c:Int)+(b.length:Int))=(c:Int)+(b.length:Int):=w64 (by omega)
  have w2:IntKind.i64.wrap ((c:Int)+(b.length:Int)-1)=((c+b.length-1:Nat):Int):=(w64 (x:=(c:Int)+(b.length:Int)-1) (by omega)).trans (by omega)
  have gm:=gv (x:=cf cur (c+b.length-1)) (y:=by_) (b:=1000) (c:=1000) (by omega) (by omega) (by omega)
  have w3:IntKind.i64.wrap (cf cur (c+b.length-1)*by_)=cf cur (c+b.length-1)*by_:=w64 (by omega)
  have w4:(cf cur (c+b.length-1)*by_).tmod p=cf cur (c+b.length-1)*by_%p:=ci (ec gc.1 hby.1);have w5:IntKind.i64.wrap ((c:Int)-1)=(c:Int)-1:=w64 (by omega)
  have hcq:c<quo.length:=by omega
  have hcn:c<nq:=by omega
  have hq:0≤cf cur (c+b.length-1)*by_%p∧cf cur (c+b.length-1)*by_%p<p:=⟨d8 _ hp0,ck _ hp⟩;have l0:=Sv (by_:=by_) (quo:=quo.set c (cf cur (c+b.length-1)*by_%p)) (nq:=nq) (cp:=cp) hred hp hp' hq hb (i:=c) (by omega) (by omega) (la:=la) (by omega) (by omega) b.length 0 cur (b7 _) h1 hcan
  have e0:((0:Nat):Int)=0:=rfl;rw [e0] at l0;have ih':=ih (jo p (cf cur (c+b.length-1)*by_%p) b c b.length 0 cur) (quo.set c (cf cur (c+b.length-1)*by_%p)) (by omega) (by rw [ji]; exact h1) (by simpa using h2) (zl hp (by omega) hcan)
  refine bm ?_ ih';simp -implicitDefEqProofs [Zt_L1,ap,hp0,w1,w2,hil,hil2,hci,w3,w4,w5,hcq,hcn,l0]
end Pe

namespace Gq
class CR (α:Type) extends Zero α,One α,Add α,Mul α,Neg α,Sub α where
 add_zero:∀a:α,a+0=a
 add_comm:∀a b:α,a+b=b+a
 add_assoc:∀a b c:α,a+b+c=a+(b+c)
 mul_one:∀a:α,a*1=a
 mul_comm:∀a b:α,a*b=b*a
 mul_assoc:∀a b c:α,a*b*c=a*(b*c)
 mul_add:∀a b c:α,a*(b+c)=a*b+a*c
 add_neg:∀a:α,a + -a=0
 sub_eq:∀a b:α,a-b=a + -b
section
variable {α:Type} [CR α]
theorem add_zero (a:α):a+0=a:=CR.add_zero a
theorem add_comm (a b:α):a+b=b+a:=CR.add_comm a b
theorem add_assoc (a b c:α):a+b+c=a+(b+c):=CR.add_assoc a b c
theorem mul_one (a:α):a*1=a:=CR.mul_one a
theorem mul_comm (a b:α):a*b=b*a:=CR.mul_comm a b
theorem mul_assoc (a b c:α):a*b*c=a*(b*c):=CR.mul_assoc a b c
theorem mul_add (a b c:α):a*(b+c)=a*b+a*c:=CR.mul_add a b c
theorem add_neg (a:α):a + -a=0:=CR.add_neg a
theorem sub_eq (a b:α):a-b=a + -b:=CR.sub_eq a b
end
instance:CR Int where
 add_zero:=Int.add_zero
 add_comm:=Int.add_comm
 add_assoc:=Int.add_assoc
 mul_one:=mn
 mul_comm:=gq
 mul_assoc:=sf
 mul_add:=p9
 add_neg:=Int.add_right_neg
 sub_eq:=fun _ _=>Int.sub_eq_add_neg
section
variable {α:Type} [CR α]
def pw (a:α):Nat→α
 | 0=>1
 | n+1=>pw a n*a
instance (priority:=100):HPow α Nat α:=⟨pw⟩
theorem pow_zero (a:α):a^0=1:=rfl
theorem pow_succ (a:α) (n:Nat):a^(n+1)=a^n*a:=rfl
theorem zero_add (a:α):0+a=a:=by rw [add_comm,add_zero]
theorem Rp (a:α):-a+a=0:=by rw [add_comm,add_neg]
theorem one_mul (a:α):1*a=a:=by rw [mul_comm,mul_one]
theorem add_mul (a b c:α):(a+b)*c=a*c+b*c:=by rw [mul_comm,mul_add,mul_comm c,mul_comm c]
theorem oq (a b c:α):a+(b+c)=b+(a+c):=by rw [←add_assoc,add_comm a,add_assoc]
theorem ol (a b c:α):a*(b*c)=b*(a*c):=by rw [←mul_assoc,mul_comm a,mul_assoc]
theorem Cn {a b c:α} (h:a+b=a+c):b=c:=by
 have:-a+(a+b)=-a+(a+c):=by rw [h]
 rwa [←add_assoc,←add_assoc,Rp,zero_add,zero_add] at this
theorem mul_zero (a:α):a*0=0:=by
 apply Cn (a:=a*0);rw [←mul_add,add_zero,add_zero]
theorem zero_mul (a:α):0*a=0:=by rw [mul_comm,mul_zero]
theorem zr {a b:α} (h:a+b=0):b=-a:=Cn (a:=a) (by rw [h,add_neg])
theorem vv (a b:α):-a*b=-(a*b):=zr (by rw [←add_mul,add_neg,zero_mul])
theorem Y9 (a:α):- -a=a:=(zr (Rp a)).symm
theorem rh:-(0:α)=0:=(zr (add_zero 0)).symm
theorem uu (a b:α):-(a+b)=-a + -b:=by
 apply (zr _).symm;rw [add_assoc,oq b,←add_assoc,add_neg,zero_add,add_neg]
def nc:Nat→α
 | 0=>0
 | n+1=>nc n+1
theorem y8 (m n:Nat):nc (m+n)=(nc m+nc n:α):=by
 induction n with
 | zero=>exact (add_zero _).symm
 | succ n ih=>rw [←f8,nc,nc,ih,add_assoc]
theorem Hl (m n:Nat):nc (m*n)=(nc m*nc n:α):=by
 induction n with
 | zero=>exact (mul_zero _).symm
 | succ n ih=>rw [Nat.mul_succ,y8,nc,ih,mul_add,mul_one]
def ic:Int→α
 | .ofNat n=>nc n
 | .negSucc n=>-nc (n+1)
theorem I4:ic 0=(0:α):=rfl
theorem Nv:ic 1=(1:α):=zero_add 1
theorem zx (m n:Nat):ic ((m:Int)-n)=(nc m + -nc n:α):=by
 by_cases h:n≤m
 ·obtain ⟨k,rfl⟩:=f6 h
  have:((n+k:Nat):Int)-n=(k:Nat):=by omega
  rw [this];show nc k=_;rw [y8,add_comm (nc n),add_assoc,add_neg,add_zero]
 ·obtain ⟨k,rfl⟩:=f6 (show m+1≤n by omega)
  have:(m:Int)-((m+1+k:Nat):Int)=Int.negSucc k:=by omega
  rw [this];show -nc (k+1)=_;rw [show m+1+k=m+(k+1) by omega,y8 m,uu,←add_assoc,add_neg,zero_add]
theorem Bg (j:Int):∃m n:Nat,j=(m:Int)-n:=by
 cases j with
 | ofNat m=>exact ⟨m,0,by simp⟩
 | negSucc n=>exact ⟨0,n+1,by omega⟩
theorem Oj (j k:Int):ic (j+k)=(ic j+ic k:α):=by
 obtain ⟨a,b,rfl⟩:=Bg j;obtain ⟨c,d,rfl⟩:=Bg k;rw [show ((a:Int)-b)+((c:Int)-d)=((a+c:Nat):Int)-((b+d:Nat):Int) by omega,zx,zx,zx,y8,y8,uu,add_assoc,add_assoc,oq (nc c)]
theorem a2c (j:Int):ic (-j)=(-ic j:α):=zr (by rw [←Oj,Int.add_right_neg]; rfl)
theorem a22 (j k:Int):ic (j*k)=(ic j*ic k:α):=by
 obtain ⟨a,b,rfl⟩:=Bg j;obtain ⟨c,d,rfl⟩:=Bg k
 have e:((a:Int)-b)*((c:Int)-d)=((a*c+b*d:Nat):Int)-((a*d+b*c:Nat):Int):=by
  simp only [Int.sub_mul,Int.mul_sub,Int.natCast_add,Int.natCast_mul]; omega
 rw [e,zx,zx,zx,y8,y8,Hl,Hl,Hl,Hl,add_mul,mul_add,mul_add,vv,vv,mul_comm (nc a) (-nc d),vv,mul_comm (nc b) (-nc d),vv,Y9,uu,mul_comm (nc d) (nc a),mul_comm (nc d) (nc b)];simp only [add_assoc,oq,add_comm]
inductive RE where
 | zero | one
 | i (k:Int)
 | v (n:Nat)
 | add (a b:RE) | mul (a b:RE) | sub (a b:RE)
 | neg (a:RE)
 | pow (a:RE) (n:Nat)
def RE.ev (env:List α):RE→α
 | .zero=>0
 | .one=>1
 | .i k=>ic k
 | .v n=>(env[n]?).getD 0
 | .add a b=>a.ev env+b.ev env
 | .mul a b=>a.ev env*b.ev env
 | .sub a b=>a.ev env-b.ev env
 | .neg a=>-a.ev env
 | .pow a n=>pw (a.ev env) n
abbrev Mon:=List Nat
def Xw (n:Nat):Mon→Mon
 | []=>[n]
 | m::r=>if Nat.ble n m then n::m::r else m::Xw n r
def Y3:Mon→Mon→Mon
 | [],b=>b
 | n::a,b=>Xw n (Y3 a b)
def ltM:Mon→Mon→Bool
 | [],[]=>false
 | [],_::_=>true
 | _::_,[]=>false
 | a::r,b::s=>if Nat.beq a b then ltM r s else Nat.blt a b
def eqM:Mon→Mon→Bool
 | [],[]=>true
 | a::r,b::s=>Nat.beq a b&&eqM r s
 | _,_=>false
abbrev Pl:=List (Mon×Int)
def Ob (m:Mon) (k:Int):Pl→Pl
 | []=>if k=0 then [] else [(m,k)]
 | (m',k')::r=>if eqM m m' then (if k+k'=0 then r else (m,k+k')::r) else if ltM m m' then (if k=0 then (m',k')::r else (m,k)::(m',k')::r) else (m',k')::Ob m k r
def Sl:Pl→Pl→Pl
 | [],b=>b
 | (m,k)::a,b=>Ob m k (Sl a b)
def O6 (m:Mon) (k:Int):Pl→Pl
 | []=>[]
 | (m',k')::r=>Ob (Y3 m m') (k*k') (O6 m k r)
def U6:Pl→Pl→Pl
 | [],_=>[]
 | (m,k)::a,b=>Sl (O6 m k b) (U6 a b)
def Yt (a:Pl):Nat→Pl
 | 0=>[([],1)]
 | n+1=>U6 (Yt a n) a
def RE.nf:RE→Pl
 | .zero=>[]
 | .one=>[([],1)]
 | .i k=>Ob [] k []
 | .v n=>[([n],1)]
 | .add a b=>Sl a.nf b.nf
 | .mul a b=>U6 a.nf b.nf
 | .sub a b=>Sl a.nf (O6 [] (-1) b.nf)
 | .neg a=>O6 [] (-1) a.nf
 | .pow a n=>Yt a.nf n
def eqP:Pl→Pl→Bool
 | [],[]=>true
 | (m,k)::a,(m',k')::b=>eqM m m'&&decide (k=k')&&eqP a b
 | _,_=>false
def evM (env:List α):Mon→α
 | []=>1
 | n::m=>(env[n]?).getD 0*evM env m
def evP (env:List α):Pl→α
 | []=>0
 | (m,k)::r=>ic k*evM env m+evP env r
theorem Og:∀{a b:Mon},eqM a b=true→a=b
 | [],[],_=>rfl
 | x::a,y::b,h=>by
  simp only [eqM,ac] at h;rw [Nat.eq_of_beq_eq_true h.1,Og h.2]
theorem Wq:∀{a b:Pl},eqP a b=true→a=b
 | [],[],_=>rfl
 | (m,k)::a,(m',k')::b,h=>by
  simp only [eqP,ac,decide_eq_true_eq] at h;rw [Og h.1.1,h.1.2,Wq h.2]
theorem Rg (env:List α) (n:Nat):∀m,evM env (Xw n m)=(env[n]?).getD 0*evM env m
 | []=>rfl
 | m::r=>by
  unfold Xw
  split
  ·rfl
  ·rw [evM,evM,Rg env n r,ol]
theorem Rl (env:List α):∀a b,evM env (Y3 a b)=evM env a*evM env b
 | [],b=>(one_mul _).symm
 | n::a,b=>by rw [Y3,Rg,Rl env a b,evM,mul_assoc]
theorem Bp (env:List α) (m:Mon) (k:Int):∀r,evP env (Ob m k r)=ic k*evM env m+evP env r
 | []=>by
  unfold Ob
  split
  ·rename_i h; rw [h,I4,zero_mul,zero_add]
  ·rfl
 | (m',k')::r=>by
  unfold Ob
  split
  ·rename_i h
   obtain rfl:=Og h
   split
   ·rename_i h2
    rw [evP,←add_assoc,←add_mul,←Oj,h2,I4,zero_mul,zero_add]
   ·rw [evP,evP,Oj,add_mul,add_assoc]
  ·split
   ·split
    ·rename_i h; rw [h,I4,zero_mul,zero_add]
    ·rfl
   ·rw [evP,Bp env m k r,evP,oq]
theorem Bs (env:List α):∀a b,evP env (Sl a b)=evP env a+evP env b
 | [],b=>(zero_add _).symm
 | (m,k)::a,b=>by rw [Sl,Bp,Bs env a b,evP,add_assoc]
theorem Hw (env:List α) (m:Mon) (k:Int):∀r,evP env (O6 m k r)=ic k*evM env m*evP env r
 | []=>(mul_zero _).symm
 | (m',k')::r=>by
  rw [O6,Bp,Hw env m k r,evP,mul_add,Rl,a22,mul_assoc,mul_assoc,ol (ic k')];simp only [mul_assoc]
theorem Hy (env:List α):∀a b,evP env (U6 a b)=evP env a*evP env b
 | [],b=>(zero_mul _).symm
 | (m,k)::a,b=>by rw [U6,Bs,Hw,Hy env a b,evP,add_mul]
theorem Wp (env:List α):evP env [([],1)]=1:=by simp only [evP,evM,Nv,mul_one,add_zero]
theorem R6 (env:List α) (a:Pl):∀n,evP env (Yt a n)=pw (evP env a) n
 | 0=>Wp env
 | n+1=>by rw [Yt,Hy,R6 env a n]; rfl
theorem a0n (a b:α):a * -b=-(a*b):=by rw [mul_comm,vv,mul_comm]
theorem Wd (env:List α) (a:Pl):evP env (O6 [] (-1) a)=-evP env a:=by
 rw [Hw,evM,mul_one,a2c,Nv,vv,one_mul]
theorem xc (env:List α):∀e:RE,evP env e.nf=e.ev env
 | .zero=>rfl
 | .one=>Wp env
 | .i k=>by rw [RE.nf,Bp,evM,mul_one,evP,add_zero]; rfl
 | .v n=>by simp only [RE.nf,evP,evM,Nv,one_mul,mul_one,add_zero]; rfl
 | .add a b=>by rw [RE.nf,Bs,xc env a,xc env b]; rfl
 | .mul a b=>by rw [RE.nf,Hy,xc env a,xc env b]; rfl
 | .sub a b=>by rw [RE.nf,Bs,Wd,xc env a,xc env b,←sub_eq]; rfl
 | .neg a=>by rw [RE.nf,Wd,xc env a]; rfl
 | .pow a n=>by rw [RE.nf,R6,xc env a]; rfl
class Ix {α:Type} (env:List α) (x:α) (n:outParam Nat):Prop where
 h:env[n]? = some x
instance (priority:=1000) {l:List α} {x:α}:Ix (x::l) x 0:=⟨rfl⟩
instance (priority:=500) {l:List α} {x y:α} {n:Nat} [h:Ix l x n]:Ix (y::l) x (n+1):=⟨by simpa using h.h⟩
class Rf (env:List α) (x:α) (e:outParam RE):Prop where
 h:e.ev env=x
variable {env:List α} {x y:α} {a b:RE}
instance:Rf env (0:α) .zero:=⟨rfl⟩
instance:Rf env (1:α) .one:=⟨rfl⟩
instance {k:Int}:Rf env (ic k:α) (.i k):=⟨rfl⟩
instance [h:Rf env x a] [h':Rf env y b]:Rf env (x+y) (.add a b):=⟨by rw [RE.ev,h.h,h'.h]⟩
instance [h:Rf env x a] [h':Rf env y b]:Rf env (x*y) (.mul a b):=⟨by rw [RE.ev,h.h,h'.h]⟩
instance [h:Rf env x a] [h':Rf env y b]:Rf env (x-y) (.sub a b):=⟨by rw [RE.ev,h.h,h'.h]⟩
instance [h:Rf env x a]:Rf env (-x) (.neg a):=⟨by rw [RE.ev,h.h]⟩
instance {n:Nat} [h:Rf env x a]:Rf env (x^n) (.pow a n):=⟨by rw [RE.ev,h.h]; rfl⟩
instance (priority:=10) {n:Nat} [h:Ix env x n]:Rf env x (.v n):=⟨by rw [RE.ev,h.h]; rfl⟩
theorem bv (env:List α) {x y:α} {a b:RE} [h:Rf env x a] [h':Rf env y b] (e:eqP a.nf b.nf=true):x=y:=by
 rw [←h.h,←h'.h,←xc,←xc,Wq e]
end
end Gq

namespace Gq
section
variable {R:Type} [CR R]
def a37 (m:R):Setoid R where
 r a b:=∃c,a=b+m*c
 iseqv:={
  refl:=fun a=>⟨0,by rw [mul_zero,add_zero]⟩
  symm:=fun {a b} ⟨c,h⟩=>⟨-c,by rw [h]; exact bv [b,m,c] rfl⟩
  trans:=fun {a b c} ⟨u,h⟩ ⟨v,h'⟩=>⟨u+v,by rw [h,h']; exact bv [c,m,u,v] rfl⟩ }
def Quo (m:R):Type:=Quotient (a37 m)
variable {m:R}
def Quo.mk (m:R) (a:R):Quo m:=Quotient.mk (a37 m) a
theorem Quo.eq {a b:R}:Quo.mk m a=Quo.mk m b↔∃c,a=b+m*c:=⟨fun h=>Quotient.exact h,fun h=>Quotient.sound h⟩
theorem Quo.ind {P:Quo m→Prop} (h:∀a,P (Quo.mk m a)) (x:Quo m):P x:=Quotient.ind h x
instance:Zero (Quo m):=⟨Quo.mk m 0⟩
instance:One (Quo m):=⟨Quo.mk m 1⟩
instance:Add (Quo m):=⟨Quotient.lift₂ (fun a b=>Quo.mk m (a+b)) (fun a b a' b' ⟨c,h⟩ ⟨d,h'⟩=>Quo.eq.2 ⟨c+d,by rw [h,h']; exact bv [a',b',c,d,m] rfl⟩)⟩
instance:Mul (Quo m):=⟨Quotient.lift₂ (fun a b=>Quo.mk m (a*b)) (fun a b a' b' ⟨c,h⟩ ⟨d,h'⟩=>Quo.eq.2 ⟨c*b'+a'*d+m*c*d,by rw [h,h']; exact bv [a',b',c,d,m] rfl⟩)⟩
instance:Neg (Quo m):=⟨Quotient.lift (fun a=>Quo.mk m (-a)) (fun a a' ⟨c,h⟩=>Quo.eq.2 ⟨-c,by rw [h]; exact bv [a',c,m] rfl⟩)⟩
instance:Sub (Quo m):=⟨fun a b=>a + -b⟩
theorem Quo.mk_add (a b:R):Quo.mk m (a+b)=Quo.mk m a+Quo.mk m b:=rfl
theorem Quo.mk_mul (a b:R):Quo.mk m (a*b)=Quo.mk m a*Quo.mk m b:=rfl
theorem Quo.mk_neg (a:R):Quo.mk m (-a)=-Quo.mk m a:=rfl
theorem Quo.mk_zero:Quo.mk m 0=0:=rfl
theorem Quo.mk_one:Quo.mk m 1=1:=rfl
instance:CR (Quo m) where
 add_zero:=Quo.ind fun a=>congrArg (Quo.mk m) (add_zero a)
 add_comm:=Quo.ind fun a=>Quo.ind fun b=>congrArg (Quo.mk m) (add_comm a b)
 add_assoc:=Quo.ind fun a=>Quo.ind fun b=>Quo.ind fun c=>congrArg (Quo.mk m) (add_assoc a b c)
 mul_one:=Quo.ind fun a=>congrArg (Quo.mk m) (mul_one a)
 mul_comm:=Quo.ind fun a=>Quo.ind fun b=>congrArg (Quo.mk m) (mul_comm a b)
 mul_assoc:=Quo.ind fun a=>Quo.ind fun b=>Quo.ind fun c=>congrArg (Quo.mk m) (mul_assoc a b c)
 mul_add:=Quo.ind fun a=>Quo.ind fun b=>Quo.ind fun c=>congrArg (Quo.mk m) (mul_add a b c)
 add_neg:=Quo.ind fun a=>congrArg (Quo.mk m) (add_neg a)
 sub_eq:=fun _ _=>rfl
theorem Quo.mk_sub (a b:R):Quo.mk m (a-b)=Quo.mk m a-Quo.mk m b:=by rw [sub_eq,mk_add,mk_neg,←sub_eq]
theorem Quo.mk_pow (a:R):∀n,Quo.mk m (pw a n)=pw (Quo.mk m a) n
 | 0=>rfl
 | n+1=>by rw [pw,pw,mk_mul,mk_pow a n]
end
theorem sub_self {α:Type} [CR α] (a:α):a-a=0:=by rw [sub_eq,add_neg]
theorem nz {α:Type} [CR α] {a b:α} (h:a-b=0):a=b:=by
 have:a=(a-b)+b:=bv [a,b] rfl;rw [this,h,zero_add]
class Fd (K:Type) extends CR K where
 one_ne:(1:K)≠0
 inv:K→K
 mul_inv:∀a:K,a≠0→a*inv a=1
theorem Fd.mul_ne {K:Type} [Fd K] {a b:K} (ha:a≠0) (hb:b≠0):a*b≠0:=fun h=>by
 have:(inv a*inv b)*(a*b)=1:=by
  rw [show (inv a*inv b)*(a*b)=(a*inv a)*(b*inv b) from bv [a,b,inv a,inv b] rfl,Fd.mul_inv a ha,Fd.mul_inv b hb,mul_one]
 rw [h,mul_zero] at this;exact Fd.one_ne this.symm
theorem Fd.zero_or {K:Type} [Fd K] {a b:K} (h:a*b=0):a=0∨b=0:=by
 by_cases ha:a=0
 ·exact .inl ha
 ·by_cases hb:b=0
  ·exact .inr hb
  ·exact absurd h (Fd.mul_ne ha hb)
theorem Fd.inv_ne {K:Type} [Fd K] {a:K} (ha:a≠0):inv a≠0:=fun h=>by
 have:=Fd.mul_inv a ha;rw [h,mul_zero] at this;exact Fd.one_ne this.symm
class IsP (p:Int):Prop where
 h:p=2∨p=3∨p=5∨p=7
theorem IsP.pos {p:Int} [h:IsP p]:0<p:=by have:=h.h; omega
theorem IsP.le {p:Int} [h:IsP p]:p≤7:=by have:=h.h; omega
theorem IsP.ge {p:Int} [h:IsP p]:2≤p:=by have:=h.h; omega
abbrev Zp (p:Int):Type:=Quo p
abbrev zp (p:Int) (n:Int):Zp p:=Quo.mk p n
theorem Cv {p a b:Int}:zp p a=zp p b↔a%p=b%p:=by
 rw [Quo.eq];constructor
 ·rintro ⟨c,rfl⟩
  rw [kg]
 ·intro h
  obtain ⟨c,hc⟩:=Int.dvd_of_emod_eq_zero (Int.emod_eq_emod_iff_emod_sub_eq_zero.1 h);exact ⟨c,by omega⟩
theorem tt (p a:Int):zp p (a%p)=zp p a:=Cv.2 (ig _ (Int.dvd_refl p))
theorem Nw (p a b:Int):zp p (a+b)=zp p a+zp p b:=rfl
theorem xf (p a b:Int):zp p (a*b)=zp p a*zp p b:=rfl
theorem N9 (p a:Int):zp p (-a)=-zp p a:=rfl
theorem Xs (p a b:Int):zp p (a-b)=zp p a-zp p b:=rfl
theorem vm (p:Int):zp p 0=0:=rfl
theorem Nb (p:Int):zp p 1=1:=rfl
def rep {p:Int}:Zp p→Int:=Quotient.lift (fun a:Int=>a%p) fun a b h=>by
 have:=Cv.1 (Quotient.sound (s:=a37 p) h);exact this
theorem Ct (p a:Int):rep (zp p a)=a%p:=rfl
theorem jb {p:Int}:∀x:Zp p,zp p (rep x)=x:=Quo.ind fun a=>tt p a
theorem k8 {p:Int} [IsP p] (x:Zp p):0≤rep x∧rep x<p:=by
 rw [←jb x,Ct];have:=IsP.pos (p:=p);exact ⟨d8 _ (by omega),ck _ (by omega)⟩
theorem Ro {p:Int} {x y:Zp p} (h:rep x=rep y):x=y:=by rw [←jb x,←jb y,h]
theorem Hz {p a:Int} (h:0≤a∧a<p):rep (zp p a)=a:=by rw [Ct,ia h.1 h.2]
theorem n5 {p:Int}:rep (0:Zp p)=0:=by show (0:Int)%p=0; simp
theorem gt {p:Int} {x:Zp p}:rep x=0↔x=0:=⟨fun h=>Ro (by rw [h,n5]),fun h=>by rw [h,n5]⟩
theorem wd {p:Int} [IsP p]:rep (1:Zp p)=1:=by
 have:=IsP.ge (p:=p);exact Hz (a:=1) (by omega)
def Yi (p a:Int):Int:=(a^(p-2).toNat)%p
theorem a0a (p:Int) [h:IsP p] (a:Int) (h0:0<a) (h1:a<p):a*Yi p a%p=1:=by
 rcases h.h with rfl | rfl | rfl | rfl
 ·obtain rfl:a=1:=by omega
  decide
 ·have:a=1∨a=2:=by omega
  rcases this with rfl | rfl <;> decide
 ·have:a=1∨a=2∨a=3∨a=4:=by omega
  rcases this with rfl | rfl | rfl | rfl <;> decide
 ·have:a=1∨a=2∨a=3∨a=4∨a=5∨a=6:=by omega
  rcases this with rfl | rfl | rfl | rfl | rfl | rfl <;> decide
instance {p:Int} [IsP p]:Fd (Zp p) where
 one_ne:=fun h=>by
  have:=congrArg rep h;rw [wd,n5] at this;omega
 inv:=fun x=>zp p (Yi p (rep x))
 mul_inv:=fun x hx=>by
  have h0:=k8 x;have h1:rep x≠0:=fun h=>hx (gt.1 h)
  have h2:zp p (rep x*Yi p (rep x))=1:=by
   rw [←tt,a0a p _ (by omega) h0.2]; rfl
  have h3:zp p (rep x)*zp p (Yi p (rep x))=1:=h2
  rwa [jb] at h3
section
variable {K:Type} [CR K]
def cv:Nat→(Nat→K)→(Nat→K)→K
 | 0,f,g=>f 0*g 0
 | n+1,f,g=>f 0*g (n+1)+cv n (fun i=>f (i+1)) g
theorem Lj:∀(n:Nat) (f g:Nat→K),cv (n+1) f g=cv n f (fun i=>g (i+1))+f (n+1)*g 0
 | 0,f,g=>rfl
 | n+1,f,g=>by rw [cv,Lj n,cv]; simp only [add_assoc]
theorem wc:∀(n:Nat) (f g:Nat→K),cv n f g=cv n g f
 | 0,f,g=>mul_comm _ _
 | n+1,f,g=>by rw [cv,Lj,wc n,add_comm,mul_comm (f 0)]
theorem Ox:∀(n:Nat) (f f' g:Nat→K),cv n (fun i=>f i+f' i) g=cv n f g+cv n f' g
 | 0,f,f',g=>add_mul _ _ _
 | n+1,f,f',g=>by rw [cv,Ox n,cv,cv,add_mul]; exact bv [f 0*g (n+1),f' 0*g (n+1),cv n (fun i=>f (i+1)) g,cv n (fun i=>f' (i+1)) g] rfl
theorem Q7 (k:K):∀(n:Nat) (f g:Nat→K),cv n (fun i=>k*f i) g=k*cv n f g
 | 0,f,g=>mul_assoc _ _ _
 | n+1,f,g=>by rw [cv,Q7 k n,cv,mul_add,mul_assoc]
theorem H8 (n:Nat) (f g g':Nat→K):cv n f (fun i=>g i+g' i)=cv n f g+cv n f g':=by rw [wc,Ox,wc n g,wc n g']
theorem Lq:∀(n:Nat) (f g h:Nat→K),cv n (fun i=>cv i f g) h=cv n f (fun i=>cv i g h)
 | 0,f,g,h=>mul_assoc _ _ _
 | n+1,f,g,h=>by
  rw [cv,cv];show f 0*g 0*h (n+1)+cv n (fun i=>f 0*g (i+1)+cv i (fun i=>f (i+1)) g) h=f 0*cv (n+1) g h+cv n (fun i=>f (i+1)) (fun i=>cv i g h)
  rw [Ox,Q7,Lq n,cv,mul_add,mul_assoc,add_assoc]
theorem wg {g:Nat→K}:∀(n:Nat) {f:Nat→K},(∀i,f i=0)→cv n f g=0
 | 0,f,h=>by rw [cv,h,zero_mul]
 | n+1,f,h=>by rw [cv,h,zero_mul,wg n (fun i=>h _),add_zero]
theorem Mg {g:Nat→K} {b:Nat} (hg:∀i,b≤i→g i=0):∀(a n:Nat) {f:Nat→K},(∀i,a≤i→f i=0)→a+b≤n+1→cv n f g=0
 | 0,n,f,hf,_=>wg n fun i=>hf i (mj i)
 | a+1,0,f,hf,h=>by
  have:b=0:=by omega
  subst this;rw [cv,hg 0 (b9 _),mul_zero]
 | a+1,n+1,f,hf,h=>by rw [cv,hg (n+1) (by omega),mul_zero,Mg hg a n (fun i hi=>hf _ (by omega)) (by omega),add_zero]
structure Pol (K:Type) [CR K] where
 c:Nat→K
 fin:∃n,∀i,n≤i→c i=0
theorem Pol.ext {a b:Pol K} (h:∀i,a.c i=b.c i):a=b:=by
 obtain ⟨f,hf⟩:=a;obtain ⟨g,hg⟩:=b;have:f=g:=funext h;subst this;rfl
def T9:Nat→K:=fun i=>if i=0 then 1 else 0
instance:Zero (Pol K):=⟨⟨fun _=>0,0,fun _ _=>rfl⟩⟩
instance:One (Pol K):=⟨⟨T9,1,fun i hi=>if_neg (by omega)⟩⟩
instance:Add (Pol K):=⟨fun a b=>⟨fun i=>a.c i+b.c i,by
 obtain ⟨n,hn⟩:=a.fin;obtain ⟨m,hm⟩:=b.fin;exact ⟨max n m,fun i hi=>by rw [hn i (by omega),hm i (by omega),add_zero]⟩⟩⟩
instance:Neg (Pol K):=⟨fun a=>⟨fun i=>-a.c i,by
 obtain ⟨n,hn⟩:=a.fin;exact ⟨n,fun i hi=>by rw [hn i hi,rh]⟩⟩⟩
instance:Sub (Pol K):=⟨fun a b=>a + -b⟩
instance:Mul (Pol K):=⟨fun a b=>⟨fun i=>cv i a.c b.c,by
 obtain ⟨n,hn⟩:=a.fin;obtain ⟨m,hm⟩:=b.fin;exact ⟨n+m,fun i hi=>Mg hm n i hn (by omega)⟩⟩⟩
theorem Pol.c_zero (i:Nat):(0:Pol K).c i=0:=rfl
theorem Pol.c_add (a b:Pol K) (i:Nat):(a+b).c i=a.c i+b.c i:=rfl
theorem Pol.c_neg (a:Pol K) (i:Nat):(-a).c i=-a.c i:=rfl
theorem Pol.c_mul (a b:Pol K) (i:Nat):(a*b).c i=cv i a.c b.c:=rfl
theorem V0 (n:Nat) (f:Nat→K):cv n T9 f=f n:=by
 cases n with
 | zero=>exact one_mul _
 | succ n=>
  have e:cv n (fun i=>T9 (i+1)) f=0:=wg n (f:=fun i=>T9 (i+1)) (fun i=>if_neg (Nat.succ_ne_zero i))
  rw [cv,e,add_zero];exact one_mul _
instance:CR (Pol K) where
 add_zero:=fun a=>Pol.ext fun i=>add_zero _
 add_comm:=fun a b=>Pol.ext fun i=>add_comm _ _
 add_assoc:=fun a b c=>Pol.ext fun i=>add_assoc _ _ _
 mul_one:=fun a=>Pol.ext fun i=>by rw [Pol.c_mul,wc]; exact V0 i a.c
 mul_comm:=fun a b=>Pol.ext fun i=>wc _ _ _
 mul_assoc:=fun a b c=>Pol.ext fun i=>Lq _ _ _ _
 mul_add:=fun a b c=>Pol.ext fun i=>H8 _ _ _ _
 add_neg:=fun a=>Pol.ext fun i=>add_neg _
 sub_eq:=fun _ _=>rfl
theorem Pol.c_sub (a b:Pol K) (i:Nat):(a-b).c i=a.c i-b.c i:=by rw [sub_eq,c_add,c_neg,←sub_eq]
def Pol.C (k:K):Pol K:=⟨fun i=>if i=0 then k else 0,1,fun i hi=>if_neg (by omega)⟩
def Pol.X:Pol K:=⟨fun i=>if i=1 then 1 else 0,2,fun i hi=>if_neg (by omega)⟩
theorem Pol.c_C (k:K) (i:Nat):(Pol.C k).c i=if i=0 then k else 0:=rfl
theorem Pol.c_X (i:Nat):(Pol.X:Pol K).c i=if i=1 then 1 else 0:=rfl
theorem Pol.c_Cmul (k:K) (a:Pol K) (i:Nat):(Pol.C k*a).c i=k*a.c i:=by
 rw [c_mul];cases i with
 | zero=>rfl
 | succ n=>
  have e:cv n (fun i=>(Pol.C k).c (i+1)) a.c=0:=wg n (f:=fun i=>(Pol.C k).c (i+1)) (fun i=>by rw [c_C,if_neg (Nat.succ_ne_zero i)])
  rw [cv,e,add_zero]; rfl
theorem Pol.c_Xmul (a:Pol K) (i:Nat):(Pol.X*a).c i=if i=0 then 0 else a.c (i-1):=by
 rw [c_mul];cases i with
 | zero=>exact zero_mul _
 | succ n=>
  have e:(fun i=>(Pol.X:Pol K).c (i+1))=T9:=funext fun i=>by
   rw [c_X]; unfold T9
   by_cases h:i=0
   ·rw [if_pos h,if_pos (by omega)]
   ·rw [if_neg h,if_neg (by omega)]
  rw [cv,e,V0,c_X,if_neg (by omega),zero_mul,zero_add,if_neg (by omega)]; rfl
theorem Pol.C_zero:Pol.C (0:K)=0:=Pol.ext fun i=>by rw [c_C,c_zero]; split <;> rfl
theorem Pol.C_one:Pol.C (1:K)=1:=rfl
theorem Pol.C_add (a b:K):Pol.C (a+b)=Pol.C a+Pol.C b:=Pol.ext fun i=>by
 rw [c_add,c_C,c_C,c_C]; split
 ·rfl
 ·rw [add_zero]
theorem Pol.C_mul (a b:K):Pol.C (a*b)=Pol.C a*Pol.C b:=Pol.ext fun i=>by
 rw [c_Cmul,c_C,c_C]; split
 ·rfl
 ·rw [mul_zero]
theorem Pol.C_neg (a:K):Pol.C (-a)=-Pol.C a:=zr (by rw [←C_add,add_neg,C_zero])
def Pol.lt (a:Pol K) (n:Nat):Prop:=∀i,n≤i→a.c i=0
theorem Pol.lt.mono {a:Pol K} {n m:Nat} (h:a.lt n) (hnm:n≤m):a.lt m:=fun i hi=>h i (by omega)
theorem Pol.lt_zero {a:Pol K}:a.lt 0↔a=0:=⟨fun h=>Pol.ext fun i=>h i (mj i),fun h=>by rw [h]; exact fun _ _=>rfl⟩
theorem Pol.lt_add {a b:Pol K} {n:Nat} (ha:a.lt n) (hb:b.lt n):(a+b).lt n:=fun i hi=>by rw [c_add,ha i hi,hb i hi,add_zero]
theorem Pol.lt_neg {a:Pol K} {n:Nat} (ha:a.lt n):(-a).lt n:=fun i hi=>by rw [c_neg,ha i hi,rh]
theorem Pol.lt_sub {a b:Pol K} {n:Nat} (ha:a.lt n) (hb:b.lt n):(a-b).lt n:=by rw [sub_eq]; exact lt_add ha (lt_neg hb)
theorem Pol.lt_mul {a b:Pol K} {n m:Nat} (ha:a.lt n) (hb:b.lt m):(a*b).lt (n+m-1):=fun i hi=>Mg hb n i ha (by omega)
theorem Pol.lt_Cmul {a:Pol K} {n:Nat} (k:K) (ha:a.lt n):(C k*a).lt n:=fun i hi=>by rw [c_Cmul,ha i hi,mul_zero]
theorem Pol.lt_one:(1:Pol K).lt 1:=fun i hi=>if_neg (by omega)
theorem Pol.lt_C (k:K):(C k).lt 1:=fun i hi=>if_neg (by omega)
theorem Pol.lt_X:(X:Pol K).lt 2:=fun i hi=>if_neg (by omega)
theorem Pol.eq_C {a:Pol K} (h:a.lt 1):a=C (a.c 0):=Pol.ext fun i=>by
 rw [c_C]; split
 ·rename_i h0; rw [h0]
 ·exact h i (by omega)
theorem Pol.len_ex (a:Pol K):∃n,a.lt n∧∀m,a.lt m→n≤m:=by
 obtain ⟨n,hn⟩:=a.fin
 have h:∀k,∀n,n≤k→a.lt n→∃n,a.lt n∧∀m,a.lt m→n≤m:=by
  intro k
  induction k with
  | zero=>exact fun n hk hn=>⟨n,hn,fun m _=>by omega⟩
  | succ k ih=>
   intro n hk hn
   by_cases h:∃m,m<n∧a.lt m
   ·obtain ⟨m,h1,h2⟩:=h
    exact ih m (by omega) h2
   ·exact ⟨n,hn,fun m hm=>by
     rcases dg m n with h1 | h1
     ·exact absurd ⟨m,h1,hm⟩ h
     ·exact h1⟩
 exact h n n (b9 n) hn
noncomputable def Pol.len (a:Pol K):Nat:=Classical.choose a.len_ex
theorem Pol.lt_len (a:Pol K):a.lt a.len:=(ch a.len_ex).1
theorem Pol.len_le {a:Pol K} {n:Nat} (h:a.lt n):a.len≤n:=(ch a.len_ex).2 n h
theorem Pol.lt_iff {a:Pol K} {n:Nat}:a.lt n↔a.len≤n:=⟨len_le,fun h=>a.lt_len.mono h⟩
theorem Pol.len_zero_iff {a:Pol K}:a.len=0↔a=0:=by rw [←lt_zero,lt_iff]; omega
theorem Pol.len_zero:(0:Pol K).len=0:=len_zero_iff.2 rfl
theorem Pol.len_pos {a:Pol K} (h:a≠0):0<a.len:=by
 have:a.len≠0:=fun h'=>h (len_zero_iff.1 h')
 omega
noncomputable def Pol.ld (a:Pol K):K:=a.c (a.len-1)
theorem Pol.ld_ne {a:Pol K} (h:a≠0):a.ld≠0:=fun h0=>by
 have hp:=len_pos h
 have:a.lt (a.len-1):=fun i hi=>by
  rcases dg i a.len with h1 | h1
  ·rw [show i=a.len-1 by omega]; exact h0
  ·exact a.lt_len i h1
 have:=len_le this;omega
theorem Pol.len_eq {a:Pol K} {n:Nat} (h:a.lt (n+1)) (h':a.c n≠0):a.len=n+1:=by
 have h1:=len_le h;rcases dg n a.len with h2 | h2
 ·omega
 ·exact absurd (a.lt_len n h2) h'
theorem My {g:Nat→K} {b:Nat} (hg:∀i,b+1≤i→g i=0):∀(a:Nat) {f:Nat→K},(∀i,a+1≤i→f i=0)→cv (a+b) f g=f a*g b
 | 0,f,hf=>by
  rw [b7];cases b with
  | zero=>rfl
  | succ b=>rw [cv,wg b (fun i=>hf _ (by omega)),add_zero]
 | a+1,f,hf=>by
  rw [show a+1+b=(a+b)+1 by omega,cv,hg (a+b+1) (by omega),mul_zero,zero_add,My hg a (fun i hi=>hf _ (by omega))]
end
section
variable {K:Type} [Fd K]
theorem Pol.len_mul {a b:Pol K} (ha:a≠0) (hb:b≠0):(a*b).len+1=a.len+b.len:=by
 have h1:=len_pos ha;have h2:=len_pos hb
 have e:(a*b).c ((a.len-1)+(b.len-1))=a.ld*b.ld:=by
  rw [c_mul];exact My (f:=a.c) (fun i hi=>b.lt_len i (by omega)) _ (fun i hi=>a.lt_len i (by omega))
 have l:=len_eq (a:=a*b) (n:=(a.len-1)+(b.len-1)) ((lt_mul a.lt_len b.lt_len).mono (by omega)) (by rw [e]; exact Fd.mul_ne (ld_ne ha) (ld_ne hb))
 omega
theorem Pol.ld_mul {a b:Pol K} (ha:a≠0) (hb:b≠0):(a*b).ld=a.ld*b.ld:=by
 have h1:=len_pos ha;have h2:=len_pos hb
 have e:(a*b).c ((a.len-1)+(b.len-1))=a.ld*b.ld:=by
  rw [c_mul];exact My (f:=a.c) (fun i hi=>b.lt_len i (by omega)) _ (fun i hi=>a.lt_len i (by omega))
 have l:=len_mul ha hb;unfold ld at *;rw [←e]; congr 1; omega
theorem Pol.mul_ne {a b:Pol K} (ha:a≠0) (hb:b≠0):a*b≠0:=fun h=>by
 have l:=len_mul ha hb;have h1:=len_pos ha;have h2:=len_pos hb;rw [h,len_zero] at l;omega
theorem Pol.zero_or {a b:Pol K} (h:a*b=0):a=0∨b=0:=by
 by_cases ha:a=0
 ·exact .inl ha
 ·by_cases hb:b=0
  ·exact .inr hb
  ·exact absurd h (mul_ne ha hb)
theorem Pol.mul_cancel {a b c:Pol K} (ha:a≠0) (h:a*b=a*c):b=c:=by
 have:a*(b-c)=0:=by
  rw [show a*(b-c)=a*b-a*c from bv [a,b,c] rfl,h,sub_self]
 exact nz ((zero_or this).resolve_left ha)
theorem Pol.one_ne:(1:Pol K)≠0:=fun h=>Fd.one_ne (K:=K) (congrArg (fun f=>Pol.c f 0) h)
theorem Pol.len_one:(1:Pol K).len=1:=len_eq lt_one Fd.one_ne
theorem Pol.ld_one:(1:Pol K).ld=1:=by unfold ld; rw [len_one]; rfl
theorem Pol.len_X:(X:Pol K).len=2:=len_eq lt_X Fd.one_ne
theorem Pol.len_C {k:K} (h:k≠0):(C k).len=1:=len_eq (lt_C k) h
theorem Pol.C_ne {k:K} (h:k≠0):C k≠0:=fun h'=>by have:=len_C h; rw [h',len_zero] at this; omega
theorem Pol.len_Cmul {k:K} (h:k≠0) (a:Pol K):(C k*a).len=a.len:=by
 by_cases ha:a=0
 ·rw [ha,mul_zero]
 ·have:=len_mul (C_ne h) ha
  rw [len_C h] at this;omega
def Pol.mo (k:K) (n:Nat):Pol K:=⟨fun i=>if i=n then k else 0,n+1,fun i hi=>if_neg (by omega)⟩
theorem a13 (k:K) (g:Nat→K):∀(n j:Nat),cv (n+j) (fun i=>if i=n then k else 0) g=k*g j
 | 0,0=>rfl
 | 0,j+1=>by
  rw [b7,cv,wg j (fun i=>if_neg (by omega)),add_zero]; rfl
 | n+1,j=>by
  have e:(fun i=>if i+1=n+1 then k else 0)=(fun i=>if i=n then k else 0):=funext fun i=>by
   by_cases h:i=n
   ·rw [if_pos h,if_pos (by omega)]
   ·rw [if_neg h,if_neg (by omega)]
  rw [show n+1+j=(n+j)+1 by omega,cv,if_neg (by omega),zero_mul,zero_add,e,a13 k g n j]
theorem Pol.c_momul (k:K) (n:Nat) (a:Pol K) (i:Nat) (h:n≤i):(mo k n*a).c i=k*a.c (i-n):=by
 obtain ⟨j,rfl⟩:=f6 h;rw [c_mul,Nat.add_sub_cancel_left];exact a13 k a.c n j
theorem Pol.div_ex (b:Pol K) (hb:b≠0):∀(n:Nat) (a:Pol K),a.lt n→∃q r:Pol K,a=q*b+r∧r.len<b.len
 | 0,a,h=>⟨0,0,by rw [lt_zero.1 h,zero_mul,add_zero],by rw [len_zero]; exact len_pos hb⟩
 | n+1,a,h=>by
  rcases dg n (b.len-1) with h1 | h1
  ·exact ⟨0,a,by rw [zero_mul,zero_add],by have:=len_le h; omega⟩
  ·have hp:=len_pos hb
   have key:(a-mo (a.c n*Fd.inv b.ld) (n-(b.len-1))*b).lt n:=fun i hi=>by
    rw [c_sub,c_momul _ _ _ _ (by omega)]
    by_cases h2:i=n
    ·subst h2
     rw [show i-(i-(b.len-1))=b.len-1 by omega]
     have:=Fd.mul_inv b.ld (ld_ne hb);show a.c i-a.c i*Fd.inv b.ld*b.ld=0;rw [mul_assoc,mul_comm (Fd.inv b.ld),this,mul_one,sub_self]
    ·rw [h i (by omega),b.lt_len _ (by omega),mul_zero,sub_self]
   obtain ⟨q,r,h2,h3⟩:=div_ex b hb n _ key;refine ⟨mo (a.c n*Fd.inv b.ld) (n-(b.len-1))+q,r,?_,h3⟩
   revert h2
   generalize mo (a.c n*Fd.inv b.ld) (n-(b.len-1))=t;intro h2;have:a=(a-t*b)+t*b:=bv [a,t,b] rfl;rw [this,h2];exact bv [q,b,r,t] rfl
theorem Pol.div_unique {b q r q' r':Pol K} (h:q*b+r=q'*b+r') (hr:r.len<b.len) (hr':r'.len<b.len):q=q'∧r=r':=by
 have e:(q-q')*b=r'-r:=by
  have:(q-q')*b=(q*b+r)-(q'*b+r):=bv [q,q',b,r] rfl;rw [this,h];exact bv [q',b,r,r'] rfl
 have hb:b≠0:=fun h0=>by rw [h0,len_zero] at hr; omega
 by_cases hq:q-q'=0
 ·have hq':=nz hq
  rw [hq,zero_mul] at e;exact ⟨hq',(nz e.symm).symm⟩
 ·have l:=len_mul hq hb
  rw [e] at l;have h1:=len_le (lt_sub (Pol.lt_iff.2 (show r'.len≤b.len-1 by omega)) (Pol.lt_iff.2 (show r.len≤b.len-1 by omega)))
  have:=len_pos hq;omega
open Classical in
noncomputable def Pol.qr (a b:Pol K):Pol K×Pol K:=
 if hb:b=0 then (0,a) else ((Classical.choose (div_ex b hb a.len a a.lt_len)),Classical.choose (ch (div_ex b hb a.len a a.lt_len)))
noncomputable instance:Div (Pol K):=⟨fun a b=>(Pol.qr a b).1⟩
noncomputable instance:Mod (Pol K):=⟨fun a b=>(Pol.qr a b).2⟩
theorem Pol.div_mod (a b:Pol K):a=(a/b)*b+a%b:=by
 show a=(qr a b).1*b+(qr a b).2;unfold qr
 split
 ·rename_i h; rw [h,mul_zero,zero_add]
 ·rename_i h; exact (ch (ch (div_ex b h a.len a a.lt_len))).1
theorem Pol.len_mod (a:Pol K) {b:Pol K} (h:b≠0):(a%b).len<b.len:=by
 show (qr a b).2.len<_;unfold qr;rw [dif_neg h];exact (ch (ch (div_ex b h a.len a a.lt_len))).2
theorem Pol.div_mod_eq {a b q r:Pol K} (h:a=q*b+r) (hr:r.len<b.len):a/b=q∧a%b=r:=by
 have hb:b≠0:=fun h0=>by rw [h0,len_zero] at hr; omega
 exact div_unique ((div_mod a b).symm.trans h) (len_mod a hb) hr
end
end Gq

namespace Pe
open Go Gq
abbrev Fp (p:Int):Type:=Pol (Zp p)
noncomputable def row {p:Int} (a:Fp p):List Int:=(List.range a.len).map fun i=>rep (a.c i)
def pad (l:List Int):List Int:=(List.range 64).map (cf l)
section
variable {p:Int}
@[simp] theorem bn (a:Fp p):(row a).length=a.len:=by simp [row]
theorem ff (a:Fp p) (i:Nat):cf (row a) i=rep (a.c i):=by
 rcases dg i a.len with h | h
 ·exact ku _ _ _ h
 ·rw [n4 (by rw [bn]; exact h),a.lt_len i h,n5]
theorem gp [IsP p] (a:Fp p):Can p (row a):=Can.of_cf fun j _=>by rw [ff]; exact k8 _
theorem Ab [IsP p] (a:Fp p) {b:Int} (hb:7≤b):Small b (row a):=(gp a).small (by have:=IsP.le (p:=p); omega)
theorem du:row (0:Fp p)=[]:=by
 apply pa;rw [bn,Pol.len_zero]
theorem Ye {a:Fp p}:row a=[]↔a=0:=by rw [←di,bn,Pol.len_zero_iff]
theorem Gb (l:List Int):∀n,(∀i,mu l n≤i→i<n→cf l i=0)∧(mu l n=0∨cf l (mu l n-1)≠0)
 | 0=>⟨fun i _ h=>absurd h (Nat.not_lt_zero i),.inl rfl⟩
 | n+1=>by
  have ih:=Gb l n;unfold mu
  by_cases h:cf l n=0
  ·rw [if_pos h]
   refine ⟨fun i h1 h2=>?_,ih.2⟩
   by_cases hi:i=n
   ·rw [hi,h]
   ·exact ih.1 i h1 (by omega)
  ·rw [if_neg h]
   exact ⟨fun i h1 h2=>by omega,.inr h⟩
theorem ui {l:List Int} {f:Fp p} (h:∀i,cf l i=rep (f.c i)):trim l=row f:=by
 have ht:=Gb l l.length;have hl:=Bn l l.length
 have e:mu l l.length=f.len:=by
  apply Nat.le_antisymm
  ·rcases ht.2 with h0 | h0
   ·omega
   ·rw [h] at h0
    rcases dg (mu l l.length-1) f.len with h1 | h1
    ·omega
    ·exact absurd (by rw [f.lt_len _ h1,n5]) h0
  ·apply Pol.len_le
   intro i hi;apply gt.1;rw [←h];rcases dg i l.length with h1 | h1
   ·exact ht.1 i hi h1
   ·exact n4 h1
 apply oe
 ·rw [bn,←e]; unfold trim; rw [b8]; omega
 ·intro i h1 h2
  have e1:(trim l)[i]=cf l i:=by
   unfold trim at h1 ⊢;rw [nm,dp]
  have e2:(row f)[i]=cf (row f) i:=(dp h2).symm;rw [e1,e2,ff,h]
def f7 (p:Int) (l:List Int):Fp p:=⟨fun i=>zp p (cf l i),l.length,fun i hi=>by rw [n4 hi]; rfl⟩
theorem gn (l:List Int) (i:Nat):(f7 p l).c i=zp p (cf l i):=rfl
theorem Xq (l:List Int):(f7 p l).lt l.length:=fun i hi=>by rw [gn,n4 hi]; rfl
theorem sx (a:Fp p):f7 p (row a)=a:=Pol.ext fun i=>by rw [gn,ff,jb]
theorem md [IsP p] {l:List Int} (h:Can p l):trim l=row (f7 p l):=ui fun i=>by
 have h1:=h.le IsP.pos i;rw [gn,Hz h1]
theorem a00 {a b:Fp p} (h:row a=row b):a=b:=by rw [←sx a,←sx b,h]
theorem Xv:pad []=List.replicate 64 0:=by decide +kernel
@[simp] theorem aat:z64=am .u8 (pad []):=by rw [Xv]; unfold am z64; rw [List.map_replicate]
theorem cx (l:List Int):(pad l).length=64:=by simp [pad]
theorem Aa {l:List Int} (h:l.length≤64) (i:Nat):cf (pad l) i=cf l i:=by
 rcases dg i 64 with h1 | h1
 ·exact ku _ _ _ h1
 ·rw [n4 (by rw [cx]; exact h1),n4 (by omega)]
theorem om (l:List Int) (i:Nat) (h:i<64):(pad l)[i]? = some (cf l i):=by
 rw [pad,dj,eg h]; rfl
theorem Nj {l m:List Int} (hl:m.length=64) (h:∀i,i<64→cf l i=cf m i):pad l=m:=by
 apply oe
 ·rw [cx,hl]
 ·intro i h1 h2
  rw [←dp h2,←h i (by omega)]
  simp [pad]
theorem J6 [IsP p] (a b:Fp p) (k:Int):a0q p (row a) (row b) k=row (a+Pol.C (zp p k)*b):=by
 apply ui;intro i
 have e:rep ((a+Pol.C (zp p k)*b).c i)=(rep (a.c i)+k*rep (b.c i))%p:=by
  rw [Pol.c_add,Pol.c_Cmul,←Ct]
  congr 1
  rw [Nw,xf,jb,jb]
 rw [e];rcases dg i (max a.len b.len) with h | h
 ·rw [ku _ _ _ (by simpa using h)]
  unfold lin;rw [ff,ff]
 ·rw [n4 (by simpa using h),a.lt_len i (by omega),b.lt_len i (by omega)]
  simp [n5]
def cvs {K:Type} [CR K] (f g:Nat→K):Nat→Nat→K
 | 0,_=>0
 | m+1,j=>cvs f g m j+if m≤j then f m*g (j-m) else 0
theorem Cy {K:Type} [CR K] (f g:Nat→K):∀m j,cvs f g (m+1) j=f 0*g j+if j=0 then 0 else cvs (fun i=>f (i+1)) g m (j-1)
 | 0,j=>by
  show 0+(if 0≤j then f 0*g (j-0) else 0)=_
  rw [if_pos (mj j),Nat.sub_zero,Gq.zero_add]
  split <;> exact (Gq.add_zero _).symm
 | m+1,j=>by
  rw [cvs,Cy f g m j]
  by_cases h:j=0
  ·subst h
   rw [if_pos rfl,if_neg (by omega),if_pos rfl,Gq.add_zero]
  ·rw [if_neg h,if_neg h,cvs]
   rw [Gq.add_assoc]
   congr 2
   by_cases h2:m+1≤j
   ·rw [if_pos h2,if_pos (by omega),show j-(m+1)=j-1-m by omega]
   ·rw [if_neg h2,if_neg (by omega)]
theorem X4 {K:Type} [CR K] (g:Nat→K):∀(j m:Nat) (f:Nat→K),j<m→cvs f g m j=cv j f g
 | 0,0,f,h=>by omega
 | 0,m+1,f,_=>by rw [Cy,if_pos rfl,Gq.add_zero]; rfl
 | j+1,0,f,h=>by omega
 | j+1,m+1,f,h=>by rw [Cy,if_neg (by omega),cv,Nat.add_sub_cancel,X4 g j m _ (by omega)]
theorem Je {K:Type} [CR K] (f g:Nat→K) {m:Nat} (h:∀i,m≤i→f i=0) (j:Nat):∀k,cvs f g (m+k) j=cvs f g m j
 | 0=>rfl
 | k+1=>by
  rw [←f8,cvs,Je f g h j k,h (m+k) (by omega),Gq.zero_mul]
  split <;> exact Gq.add_zero _
theorem Q1 (l m:List Int):∀n j,zp p (conv l m n j)=cvs (f7 p l).c (f7 p m).c n j
 | 0,j=>rfl
 | n+1,j=>by
  rw [conv,cvs,←Q1 l m n j]
  split
  ·rfl
  ·rfl
theorem Yg [IsP p] (a b:Fp p):mul p (row a) (row b)=row (a*b):=by
 apply ui;intro i
 have e:∀i,conv (row a) (row b) (row a).length i%p=rep ((a*b).c i):=fun i=>by
  rw [←Ct,Q1,sx,sx,bn,Pol.c_mul]
  congr 1
  rw [←Je a.c b.c a.lt_len i (i+1),X4];omega
 rcases dg i (a.len+b.len-1) with h | h
 ·rw [ku _ _ _ (by simpa using h),e]
 ·rw [n4 (by simpa using h),Pol.lt_mul a.lt_len b.lt_len i h,n5]
end
end Pe

namespace Pe
open Go Gq
variable {T:Nat→Option Fn} {A:af}
theorem Xf (p:Int) [h:IsP p] (a:Int) (h0:0<a) (h1:a<p):a*inv p a%p=1:=by
 rcases h.h with rfl | rfl | rfl | rfl
 ·obtain rfl:a=1:=by omega
  decide
 ·have:a=1∨a=2:=by omega
  rcases this with rfl | rfl <;> decide
 ·have:a=1∨a=2∨a=3∨a=4:=by omega
  rcases this with rfl | rfl | rfl | rfl <;> decide
 ·have:a=1∨a=2∨a=3∨a=4∨a=5∨a=6:=by omega
  rcases this with rfl | rfl | rfl | rfl | rfl | rfl <;> decide
theorem xq (p:Int) [IsP p] (a:Int):0≤inv p a∧inv p a<p:=by
 have:=IsP.ge (p:=p);exact Qu (by omega) _
@[simp] theorem Vu {p:Int} (a:Fp p):(row a).take a.len=row a:=av (by simp)
def zi (O:af):Prop:=∀(p:Int) [IsP p] (k:Int) (a b:Fp p),-1000000≤k→k≤1000000→a.len<1000000→b.len<1000000 →
 ask O Fs [(D.int .i64 p),(D.sl .leaf (am .i64 (row a))),(D.sl .leaf (am .i64 (row b))),(D.int .i64 k)]=some (D.sl .leaf (am .i64 (row (a+Pol.C (zp p k)*b))))
theorem Rv {O:af} (h:wu O):zi O:=fun p i k a b h1 h2 h3 h4=>by
 have h5:=IsP.pos (p:=p);have h6:=IsP.le (p:=p);rw [h p k (row a) (row b) h5 (by omega) (Ab a (by omega)) (Ab b (by omega)) h1 h2 (by simpa using h3) (by simpa using h4),J6]
def vr (O:af):Prop:=∀(p:Int) [IsP p] (a b:Fp p),a.len<10000→b.len<10000 →
 ask O F16 [(D.int .i64 p),(D.sl .leaf (am .i64 (row a))),(D.sl .leaf (am .i64 (row b)))]=some (D.sl .leaf (am .i64 (row (a*b))))
theorem Y2 {O:af} (h:Hj O):vr O:=fun p i a b h1 h2=>by
 have h5:=IsP.pos (p:=p);have h6:=IsP.le (p:=p);rw [h p (row a) (row b) h5 (by omega) (gp a) (gp b) (by simpa using h1) (by simpa using h2),Yg]
def wm (O:af):Prop:=∀(p:Int) [IsP p] (k:Int) (a:Fp p),-1000000≤k→k≤1000000→a.len<1000000 →
 ask O F14 [(D.int .i64 p),(D.sl .leaf (am .i64 (row a))),(D.int .i64 k)]=some (D.sl .leaf (am .i64 (row (Pol.C (zp p k)*a))))
theorem a08 {O:af} (h:Hi O):wm O:=fun p i k a h1 h2 h3=>by
 have h5:=IsP.pos (p:=p);have h6:=IsP.le (p:=p);have e:=J6 (0:Fp p) a k;rw [du,Gq.zero_add] at e;rw [h p k (row a) h5 (by omega) (Ab a (by omega)) h1 h2 (by simpa using h3),e]
theorem Ve {K:Type} [CR K] {g:Nat→K}:∀{i:Nat} {f:Nat→K},(∀j,j≤i→f j=0)→cv i f g=0
 | 0,f,h=>by rw [cv,h 0 (b9 0),Gq.zero_mul]
 | i+1,f,h=>by rw [cv,h 0 (mj _),Gq.zero_mul,Ve (fun j hj=>h (j+1) (by omega)),Gq.add_zero]
theorem M4 {K:Type} [Fd K] (k:K) (n:Nat) (a:Pol K) (i:Nat):(Pol.mo k n*a).c i=if n≤i then k*a.c (i-n) else 0:=by
 split
 ·rename_i h; exact Pol.c_momul k n a i h
 ·rename_i h
  rw [Pol.c_mul];exact Ve fun j hj=>if_neg (by omega)
section
variable {p:Int} [IsP p]
theorem Jx (q:Int) (b:Fp p) (c:Nat) (cur:List Int) (h:c+b.len≤cur.length):f7 p (jo p q (row b) c b.len 0 cur)=f7 p cur-Pol.mo (zp p q) c*b:=Pol.ext fun j=>by
 rw [Pol.c_sub,M4,gn,gn,uj _ _ _ _ _ _ _ _ (by omega)]
 by_cases h1:c+0≤j∧j<c+0+b.len
 ·rw [if_pos h1,if_pos (by omega),tt,Xs,xf,ff,jb]
 ·rw [if_neg h1]
  split
  ·rw [b.lt_len _ (by omega),Gq.mul_zero,sub_eq,rh,Gq.add_zero]
  ·rw [sub_eq,rh,Gq.add_zero]
theorem T0 (q:Int) (c:Nat) (quo:List Int) (h:c<quo.length) (h0:cf quo c=0):f7 p (quo.set c q)=f7 p quo+Pol.mo (zp p q) c:=Pol.ext fun j=>by
 rw [Pol.c_add,gn,gn,tl];show _=_+(if j=c then zp p q else 0)
 by_cases h1:j=c
 ·subst h1
  rw [if_pos ⟨rfl,h⟩,if_pos rfl,h0,vm,Gq.zero_add]
 ·rw [if_neg (by omega),if_neg h1,Gq.add_zero]
theorem Hc (b:Fp p) (hb:b≠0):∀(c:Nat) (cur quo:List Int),c+b.len≤cur.length+1→c≤quo.length→Can p cur→(∀j,j<c→cf quo j=0)→(∀j,c+b.len-1≤j→cf cur j=0)→Can p quo →
 let r:=dv p (inv p (rep b.ld)) (row b) c (cur,quo)
 f7 p r.1+f7 p r.2*b=f7 p cur+f7 p quo*b∧(∀j,b.len-1≤j→cf r.1 j=0)∧Can p r.1∧Can p r.2
 | 0,cur,quo,_,_,hcan,_,h,hq=>⟨rfl,fun j hj=>h j (by omega),hcan,hq⟩
 | c+1,cur,quo,hl,hlq,hcan,hq0,h,hq=>by
  have hp:=IsP.pos (p:=p);have hbl:=Pol.len_pos hb;have hr:=k8 b.ld;have hld:rep b.ld≠0:=fun h0=>Pol.ld_ne hb (gt.1 h0)
  generalize hqd:cf cur (c+b.len-1)*inv p (rep b.ld)%p=q;have hqin:0≤q∧q<p:=by subst hqd; exact ⟨d8 _ (by omega),ck _ hp⟩
  have hlen:c+b.len≤cur.length:=by omega
  have e:dv p (inv p (rep b.ld)) (row b) (c+1) (cur,quo)=dv p (inv p (rep b.ld)) (row b) c (jo p q (row b) c b.len 0 cur,quo.set c q):=by
   rw [dv]; simp only [bn,hqd]
  rw [e]
  have key:(cf cur (c+b.len-1)-q*rep b.ld)%p=0:=by
   have h1:=Xf p (rep b.ld) (by omega) hr.2
   have h2:q*rep b.ld%p=cf cur (c+b.len-1)%p:=by
    subst hqd;rw [Int.mul_emod,ig _ (Int.dvd_refl p),←Int.mul_emod,sf,gq (inv p _),Int.mul_emod,h1,mn,ig _ (Int.dvd_refl p)]
   rw [Int.sub_emod,h2,←Int.sub_emod,Int.sub_self,Int.zero_emod]
  have ih:=Hc b hb c (jo p q (row b) c b.len 0 cur) (quo.set c q) (by rw [ji]; omega) (by simp; omega) (zl hp (by omega) hcan)
   (fun j hj=>by rw [tl,if_neg (by omega)]; exact hq0 j (by omega))
   (fun j hj=>by
    rw [uj _ _ _ _ _ _ _ _ (by omega)]
    by_cases hj2:j=c+b.len-1
    ·subst hj2
     rw [if_pos (by omega),ff,show c+b.len-1-c=b.len-1 by omega]; exact key
    ·rw [if_neg (by omega)]; exact h j (by omega))
   (fun x hx=>by
    rcases d9 hx with h1 | h1
    ·exact hq x h1
    ·subst h1; exact hqin)
  refine ⟨?_,ih.2⟩;rw [ih.1,Jx q b c cur hlen,T0 q c quo (by omega) (hq0 c (by omega))]
  exact bv [f7 p cur,Pol.mo (zp p q) c,b,f7 p quo] rfl
def Qg (O:af):Prop:=∀l:List Int,l.length<1000000→O F1w [(.d (.sl .leaf (am .i64 l)))] []=some (.sl 0 [] 0 l.length none,[],[.sl false .leaf (am .i64 l)])
def qd (O:af):Prop:=∀(p:Int) [IsP p] (a b:Fp p),b≠0→a.len<5000→b.len<5000 →
 ask O Ft [(D.int .i64 p),(D.sl .leaf (am .i64 (row a))),(D.sl .leaf (am .i64 (row b)))]=some (.tup [(D.sl .leaf (am .i64 (row (a/b)))),(D.sl .leaf (am .i64 (row (a%b))))])
end
section
variable {p:Int}
theorem Ca (b:Fp p):Bc (row b)=rep b.ld:=by unfold Bc Pol.ld; rw [ff,bn]
end
section
variable {p:Int} [IsP p]
theorem W2 (hT:T Ft=some Zt) (hcl:Qg (den T A)) (htr:pr (den T A)) (hld:uw (den T A)) (hinv:o8 (den T A)) (hred:rg (den T A)):qd (den T A):=by
 intro p ip a b hb ha hbl;have hp:=IsP.ge (p:=p);have hp7:=IsP.le (p:=p);have e1:=hcl (row a) (by simpa using (show a.len<1000000 by omega))
 rw [bn] at e1;have hb0:=Pol.len_pos hb;refine br hT rfl ?_
 by_cases hlt:a.len<b.len
 ·obtain ⟨h1,h2⟩:=Pol.div_mod_eq (a:=a) (b:=b) (q:=0) (r:=a) (by rw [Gq.zero_mul,Gq.zero_add]) hlt
  rw [h1,h2,du];have h3:(a.len:Int)<(b.len:Int):=by omega
  simp -implicitDefEqProofs [Zt,Zt_B,ap,e1,h3,gf,Vu]
 ·have h3:¬ (a.len:Int)<(b.len:Int):=by omega
  have hr:=k8 b.ld;have e2:=hld (row b) (by simpa using (show b.len<1000000 by omega))
  rw [Ca] at e2;have e3:=hinv p (rep b.ld) (by omega) (by omega) hr.1 hr.2
  have w1:IntKind.i64.wrap ((a.len:Int)-b.len)=(a.len:Int)-b.len:=w64 (by omega)
  have w2:IntKind.i64.wrap ((a.len:Int)-b.len+1)=((a.len-b.len+1:Nat):Int):=(w64 (x:=(a.len:Int)-b.len+1) (by omega)).trans (by omega)
  have w3:IntKind.i64.wrap (((a.len-b.len+1:Nat):Int)-1)=((a.len-b.len+1:Nat):Int)-1:=w64 (by omega)
  have h8:(a.len-b.len+1)*8≤1099511627776:=by omega
  have l1:=Ru (O:=den T A) (by_:=inv p (rep b.ld)) (b:=row b) (la:=a.len) (nq:=a.len-b.len+1) (cp:=none) hred (by omega) (by omega) (xq p _) (gp b) (by rw [bn]; omega) (by rw [bn]; omega) (by omega)
   (a.len-b.len+1) (row a) (List.replicate (a.len-b.len+1) 0) (b9 _) (bn a) (by simp) (gp a)
  have hz:∀n j,cf (List.replicate n (0:Int)) j=0:=fun n j=>by
   by_cases hj:j<n
   ·rw [dp (by simpa using hj)]; simp
   ·exact n4 (by simp; omega)
  have sp:=Hc b hb (a.len-b.len+1) (row a) (List.replicate (a.len-b.len+1) 0) (by rw [bn]; omega) (by simp) (gp a) (fun j _=>hz _ j) (fun j hj=>by rw [n4]; rw [bn]; omega) (fun x hx=>by
   obtain rfl:=(List.mem_replicate.1 hx).2; omega)
  have hl1:∀(c:Nat) (x y:List Int),(dv p (inv p (rep b.ld)) (row b) c (x,y)).1.length=x.length∧(dv p (inv p (rep b.ld)) (row b) c (x,y)).2.length=y.length:=by
   intro c
   induction c with
   | zero=>exact fun x y=>⟨rfl,rfl⟩
   | succ c ih=>
    intro x y;rw [dv];obtain ⟨i1,i2⟩:=ih (jo p (cf x (c+(row b).length-1)*inv p (rep b.ld)%p) (row b) c (row b).length 0 x) (y.set c (cf x (c+(row b).length-1)*inv p (rep b.ld)%p));exact ⟨by rw [i1,ji],by rw [i2,c5]⟩
  obtain ⟨l2,l3⟩:=hl1 (a.len-b.len+1) (row a) (List.replicate (a.len-b.len+1) 0);generalize dv p (inv p (rep b.ld)) (row b) (a.len-b.len+1) (row a,List.replicate (a.len-b.len+1) 0)=r at *;obtain ⟨s1,s2,s3,s4⟩:=sp;have z0:f7 p (List.replicate (a.len-b.len+1) 0)=0:=Pol.ext fun j=>by rw [gn,hz]; rfl
  rw [z0,Gq.zero_mul,Gq.add_zero,sx,Gq.add_comm] at s1
  have hrl:(f7 p r.1).len<b.len:=by
   have:(f7 p r.1).lt (b.len-1):=fun i hi=>by rw [gn,s2 i hi]; rfl
   have:=Pol.len_le this;omega
  obtain ⟨h1,h2⟩:=Pol.div_mod_eq s1.symm hrl;rw [h1,h2,←md s3,←md s4];have t1:=htr r.1 (by rw [l2,bn]; omega)
  have t2:=htr r.2 (by rw [l3,c7]; omega)
  have k1:r.1.take a.len=r.1:=av (by rw [l2,bn]; omega)
  have k2:r.2.take (a.len-b.len+1)=r.2:=av (by rw [l3,c7]; omega)
  rw [c7] at l3;rw [bn] at l2;generalize a.len-b.len+1=n at *;simp -implicitDefEqProofs [Zt,Zt_B,ap,e1,h3,w1,w2,w3,h8,e2,e3,l1,t1,t2,l2,l3,k1,k2]
end
end Pe

/-
 Functions of the program in the small form,printed by a program.
-/
namespace Pe
open Go
def Z20_L0:Cd:=
 .seq (.region [Ll 9 (.bin .lss (.t 8) (.t 7))] [0,1,7,8,9])
 (.seq (.cond (.t 9)
 (.skip)
 (.exit 0))
 (.seq (.block 1 (.seq (.region [Lw 10 8,
 Lw 5 10] [0,1,5,7,8])
 (.seq (.region [Lw 11 1,
 Lw 12 0,
 Lw 13 5,
 Ll 14 (.idxA none Sx6 (.t 12) (.t 13)),
 Ipx 15 14,
 Ll 16 (.call .flat [] (.t 11) [(.t 15)])] [0,1,5,7,8,16])
 (.cond (.t 16)
 (.seq (.region [Lw 17 5,
 Lw 4 17] [4])
 (.ret))
 (.skip)))))
 (.region [Ll 18 (.bin .add (.t 8) (Acx 1)),
 Lw 8 18] [0,1,7,8])))
def Z20_B:Cd:=
 .seq (.region [Ll 4 (.mv (Acx 0))] [0,1])
 (.seq (.seq (.region [Lw 6 0,
 Ll 7 (.len false (.t 6)),
 Ll 8 (.mv (Acx 0))] [0,1,7,8])
 (.block 0 (.loop (Z20_L0))))
 (.seq (.region [Ll 4 (.mv (Acx (-1)))] [4])
 (.ret)))
def Z20:Fn:=
 { nparams:=2,nblk:=0,results:=[.tmp 4],body:=Z20_B }
def Z1y_B:Cd:=
 .seq (.region [Ll 4 (.mv (.c (.bool false)))] [0,1])
 (.seq (.region [Lw 5 0,
 Lw 6 1,
 Ll 7 (Ofx F20 [(.t 5),(.t 6)]),
 Ll 8 (.bin .geq (.t 7) (Acx 0)),
 Lw 4 8] [4])
 (.ret))
def Z1y:Fn:=
 { nparams:=2,nblk:=0,results:=[.tmp 4],body:=Z1y_B }
def Z1z_L0:Cd:=
 .seq (.region [Ll 9 (.bin .lss (.t 8) (.t 7))] [0,1,7,8,9])
 (.seq (.cond (.t 9)
 (.skip)
 (.exit 0))
 (.seq (.block 1 (.seq (.region [Lw 10 8,
 Lw 5 10] [0,1,5,7,8])
 (.seq (.region [Lw 11 1,
 Lw 12 0,
 Lw 13 5,
 Ll 14 (.idxA none .leaf (.t 12) (.t 13)),
 Ilx 15 14,
 Ll 16 (.call .flat [] (.t 11) [(.t 15)])] [0,1,5,7,8,16])
 (.cond (.t 16)
 (.seq (.region [Lw 17 5,
 Lw 4 17] [4])
 (.ret))
 (.skip)))))
 (.region [Ll 18 (.bin .add (.t 8) (Acx 1)),
 Lw 8 18] [0,1,7,8])))
def Z1z_B:Cd:=
 .seq (.region [Ll 4 (.mv (Acx 0))] [0,1])
 (.seq (.seq (.region [Lw 6 0,
 Ll 7 (.len false (.t 6)),
 Ll 8 (.mv (Acx 0))] [0,1,7,8])
 (.block 0 (.loop (Z1z_L0))))
 (.seq (.region [Ll 4 (.mv (Acx (-1)))] [4])
 (.ret)))
def Z1z:Fn:=
 { nparams:=2,nblk:=0,results:=[.tmp 4],body:=Z1z_B }
def Z1x_B:Cd:=
 .seq (.region [Ll 4 (.mv (.c (.bool false)))] [0,1])
 (.seq (.region [Lw 5 0,
 Lw 6 1,
 Ll 7 (Ofx F1z [(.t 5),(.t 6)]),
 Ll 8 (.bin .geq (.t 7) (Acx 0)),
 Lw 4 8] [4])
 (.ret))
def Z1x:Fn:=
 { nparams:=2,nblk:=0,results:=[.tmp 4],body:=Z1x_B }
def Z25_L0:Cd:=
 .seq (.seq (.region [Lw 18 9,
 Lw 19 1,
 Ll 20 (.bin .gtr (.t 18) (.t 19)),
 Lw 21 20,
 Lx 22 3 21 true,
 Lx 23 0 21 true,
 Lx 24 9 21 true,
 Lg 25 (.idxA none (.st [.leaf,.leaf]) (.t 23) (.t 24)) 21 true,
 Lg 26 (.load (.st [.leaf,.leaf]) (.t 25)) 21 true,
 Lx 27 0 21 true,
 Lx 28 9 21 true,
 Lg 29 (.bin .sub (.t 28) (Acx 1)) 21 true,
 Lg 30 (.idxA none (.st [.leaf,.leaf]) (.t 27) (.t 29)) 21 true,
 Lg 31 (.load (.st [.leaf,.leaf]) (.t 30)) 21 true,
 Lg 32 (.call .flat [] (.t 22) [(.t 26),(.t 31)]) 21 true,
 Lg 33 (.bin .lss (.t 32) (Acx 0)) 21 true,
 Ll 34 (.pick (.t 21) (.t 33) (.c (.bool false)))] [0,1,2,3,8,9,34])
 (.cond (.t 34)
 (.skip)
 (.exit 2)))
 (.seq (.block 3 (.region [Lw 37 0,
 Lw 38 9,
 Lw 39 0,
 Lw 40 9,
 Ll 41 (.bin .sub (.t 40) (Acx 1)),
 Lw 42 0,
 Lw 43 9,
 Ll 44 (.bin .sub (.t 43) (Acx 1)),
 Ll 45 (.idxA none (.st [.leaf,.leaf]) (.t 42) (.t 44)),
 Ll 46 (.load (.st [.leaf,.leaf]) (.t 45)),
 Lw 47 0,
 Lw 48 9,
 Ll 49 (.idxA none (.st [.leaf,.leaf]) (.t 47) (.t 48)),
 Ll 50 (.load (.st [.leaf,.leaf]) (.t 49)),
 Ll 51 (.idxA none (.st [.leaf,.leaf]) (.t 37) (.t 38)),
 Ls (.store false (.st [.leaf,.leaf]) (.t 51) (.t 46)),
 Ll 52 (.idxA none (.st [.leaf,.leaf]) (.t 39) (.t 41)),
 Ls (.store false (.st [.leaf,.leaf]) (.t 52) (.t 50))] [0,1,2,3,8,9]))
 (.region [Lw 35 9,
 Ll 36 (.bin .sub (.t 35) (Acx 1)),
 Lw 9 36] [0,1,2,3,8,9]))
def Z25_L1:Cd:=
 .seq (.seq (.region [Lw 12 8,
 Lw 13 2,
 Ll 14 (.bin .lss (.t 12) (.t 13))] [0,1,2,3,8,14])
 (.cond (.t 14)
 (.skip)
 (.exit 0)))
 (.seq (.block 1 (.seq (.region [Lw 17 8,
 Lw 9 17] [0,1,2,3,8,9])
 (.block 2 (.loop (Z25_L0)))))
 (.region [Lw 15 8,
 Ll 16 (.bin .add (.t 15) (Acx 1)),
 Lw 8 16] [0,1,2,3,8]))
def Z25_B:Cd:=
 .seq (.region [Lw 10 1,
 Ll 11 (.bin .add (.t 10) (Acx 1)),
 Lw 8 11] [0,1,2,3,8])
 (.block 0 (.loop (Z25_L1)))
def Z25:Fn:=
 { nparams:=4,nblk:=0,results:=[],body:=Z25_B }
def Z1v_B:Cd:=
 .seq (.region [Ll 2 (.mv (Acx 0))] [0,2])
 (.seq (.seq (.region [Lw 3 0,
 Ll 4 (.bin .geq (.t 3) (.c (.int .u64 4294967296)))] [0,2,4])
 (.cond (.t 4)
 (.seq (.region [Lw 5 0,
 Ll 6 (.bin .shr (.t 5) (.c (.int .u64 32))),
 Lw 0 6] [0])
 (.region [Ll 2 (.mv (Acx 32))] [0,2]))
 (.skip)))
 (.seq (.seq (.region [Lw 7 0,
 Ll 8 (.bin .geq (.t 7) (.c (.int .u64 65536)))] [0,2,8])
 (.cond (.t 8)
 (.seq (.region [Lw 9 0,
 Ll 10 (.bin .shr (.t 9) (.c (.int .u64 16))),
 Lw 0 10] [0,2])
 (.region [Lw 11 2,
 Ll 12 (.bin .add (.t 11) (Acx 16)),
 Lw 2 12] [0,2]))
 (.skip)))
 (.seq (.seq (.region [Lw 13 0,
 Ll 14 (.bin .geq (.t 13) (.c (.int .u64 256)))] [0,2,14])
 (.cond (.t 14)
 (.seq (.region [Lw 15 0,
 Ll 16 (.bin .shr (.t 15) (.c (.int .u64 8))),
 Lw 0 16] [0,2])
 (.region [Lw 17 2,
 Ll 18 (.bin .add (.t 17) (Acx 8)),
 Lw 2 18] [0,2]))
 (.skip)))
 (.seq (.region [Lw 19 2,
 Lw 20 0,
 Ll 21 (.conv .u8 (.t 20)),
 Ll 22 (.idx none .leaf (.c (.str (ByteArray.mk #[0,1,2,2,3,3,3,3,4,4,4,4,4,4,4,4,5,5,5,5,5,5,5,5,5,5,5,5,5,5,5,5,6,6,6,6,6,6,6,6,6,6,6,6,6,6,6,6,6,6,6,6,6,6,6,6,6,6,6,6,6,6,6,6,7,7,7,7,7,7,7,7,7,7,7,7,7,7,7,7,7,7,7,7,7,7,7,7,7,7,7,7,7,7,7,7,7,7,7,7,7,7,7,7,7,7,7,7,7,7,7,7,7,7,7,7,7,7,7,7,7,7,7,7,7,7,7,7,8,8,8,8,8,8,8,8,8,8,8,8,8,8,8,8,8,8,8,8,8,8,8,8,8,8,8,8,8,8,8,8,8,8,8,8,8,8,8,8,8,8,8,8,8,8,8,8,8,8,8,8,8,8,8,8,8,8,8,8,8,8,8,8,8,8,8,8,8,8,8,8,8,8,8,8,8,8,8,8,8,8,8,8,8,8,8,8,8,8,8,8,8,8,8,8,8,8,8,8,8,8,8,8,8,8,8,8,8,8,8,8,8,8,8,8,8,8,8,8,8,8,8,8,8,8,8,8]))) (.t 21)),
 Ll 23 (.conv .i64 (.t 22)),
 Ll 24 (.bin .add (.t 19) (.t 23)),
 Lw 2 24] [2])
 (.ret)))))
def Z1v:Fn:=
 { nparams:=1,nblk:=0,results:=[.tmp 2],body:=Z1v_B }
def Z1t_B:Cd:=
 .seq (.region [Ll 2 (.mv (Acx 0))] [0])
 (.seq (.cond (.c (.bool false))
 (.seq (.region [Lw 3 0,
 Ll 4 (.conv .u32 (.t 3)),
 Ll 5 (Ofx F1u [(.t 4)]),
 Lw 2 5] [2])
 (.ret))
 (.skip))
 (.seq (.region [Lw 6 0,
 Ll 7 (Ofx F1v [(.t 6)]),
 Lw 2 7] [2])
 (.ret)))
def Z1t:Fn:=
 { nparams:=1,nblk:=0,results:=[.tmp 2],body:=Z1t_B }
def Z2d_L0:Cd:=
 .block 1 (.seq (.region [Lw 21 2,
 Lw 22 1,
 Ll 23 (.bin .sub (.t 21) (.t 22)),
 Lw 12 23] [0,1,2,3,4,10,11,12])
 (.seq (.seq (.region [Lw 24 12,
 Ll 25 (.bin .leq (.t 24) (Acx 12))] [0,1,2,3,4,10,11,12,25])
 (.cond (.t 25)
 (.seq (.region [Lw 26 0,
 Lw 27 1,
 Lw 28 2,
 Lw 29 4,
 Ll 30 (.call .heap [] (.f F25) [(.t 26),(.t 27),(.t 28),(.t 29)])] [])
 (.ret))
 (.skip)))
 (.seq (.seq (.region [Lw 31 3,
 Ll 32 (.bin .eql (.t 31) (Acx 0))] [0,1,2,3,4,10,11,12,32])
 (.cond (.t 32)
 (.seq (.region [Lw 33 0,
 Lw 34 1,
 Lw 35 2,
 Lw 36 4,
 Ll 37 (.call .heap [] (.f F24) [(.t 33),(.t 34),(.t 35),(.t 36)])] [])
 (.ret))
 (.skip)))
 (.seq (.seq (.region [Lw 38 10,
 Ll 39 (.un .not (.t 38))] [0,1,2,3,4,10,11,12,39])
 (.cond (.t 39)
 (.seq (.region [Lw 40 0,
 Lw 41 1,
 Lw 42 2,
 Lw 43 4,
 Ll 44 (.call .heap [] (.f F22) [(.t 40),(.t 41),(.t 42),(.t 43)])] [0,1,2,3,4,10,11,12])
 (.region [Lw 45 3,
 Ll 46 (.bin .sub (.t 45) (Acx 1)),
 Lw 3 46] [0,1,2,3,4,10,11,12]))
 (.skip)))
 (.seq (.region [Lw 48 0,
 Lw 49 1,
 Lw 50 2,
 Lw 51 4,
 Ll 52 (Ofx F23 [(.t 48),(.t 49),(.t 50),(.t 51)]),
 Lw 47 52,
 Iex 53 47 0,
 Iex 54 47 1,
 Lw 13 53,
 Lw 14 54] [0,1,2,3,4,10,11,12,13,14])
 (.seq (.seq (.region [Lw 55 14,
 Ll 56 (.bin .eql (.t 55) (Acx 2))] [0,1,2,3,4,10,11,12,13,14,56])
 (.cond (.t 56)
 (.seq (.region [Lw 57 0,
 Lw 58 1,
 Lw 59 2,
 Lw 60 4,
 Ll 61 (.call .heap [] (.f F2e) [(.t 57),(.t 58),(.t 59),(.t 60)])] [0,1,2,3,4,10,11,12,13])
 (.seq (.region [Lw 62 2,
 Ll 63 (.bin .sub (.t 62) (Acx 1)),
 Lw 64 13,
 Lw 65 1,
 Ll 66 (.bin .sub (.t 64) (.t 65)),
 Ll 67 (.bin .sub (.t 63) (.t 66)),
 Lw 13 67] [0,1,2,3,4,10,11,12,13])
 (.region [Ll 14 (.mv (Acx 1))] [0,1,2,3,4,10,11,12,13,14])))
 (.skip)))
 (.seq (.seq (.region [Lw 68 10,
 Lw 69 68,
 Lx 70 11 69 true,
 Ll 71 (.pick (.t 69) (.t 70) (.c (.bool false))),
 Lw 72 71,
 Lx 73 14 72 true,
 Lg 74 (.bin .eql (.t 73) (Acx 1)) 72 true,
 Ll 75 (.pick (.t 72) (.t 74) (.c (.bool false)))] [0,1,2,3,4,10,11,12,13,75])
 (.cond (.t 75)
 (.seq (.region [Lw 76 0,
 Lw 77 1,
 Lw 78 2,
 Lw 79 4,
 Ll 80 (.call .heap [] (.f F2a) [(.t 76),(.t 77),(.t 78),(.t 79)])] [0,1,2,3,4,10,11,12,13,80])
 (.cond (.t 80)
 (.ret)
 (.skip)))
 (.skip)))
 (.seq (.seq (.region [Lw 81 1,
 Ll 82 (.bin .gtr (.t 81) (Acx 0)),
 Lw 83 82,
 Lx 84 4 83 true,
 Lx 85 0 83 true,
 Lx 86 1 83 true,
 Lg 87 (.bin .sub (.t 86) (Acx 1)) 83 true,
 Lg 88 (.idxA none (.st [.leaf,.leaf]) (.t 85) (.t 87)) 83 true,
 Lg 89 (.load (.st [.leaf,.leaf]) (.t 88)) 83 true,
 Lx 90 0 83 true,
 Lx 91 13 83 true,
 Lg 92 (.idxA none (.st [.leaf,.leaf]) (.t 90) (.t 91)) 83 true,
 Lg 93 (.load (.st [.leaf,.leaf]) (.t 92)) 83 true,
 Lg 94 (.call .flat [] (.t 84) [(.t 89),(.t 93)]) 83 true,
 Lg 95 (.bin .lss (.t 94) (Acx 0)) 83 true,
 Lg 96 (.un .not (.t 95)) 83 true,
 Ll 97 (.pick (.t 83) (.t 96) (.c (.bool false)))] [0,1,2,3,4,10,11,12,13,97])
 (.cond (.t 97)
 (.seq (.region [Lw 98 0,
 Lw 99 1,
 Lw 100 2,
 Lw 101 13,
 Lw 102 4,
 Ll 103 (.call .heap [] (.f F2c) [(.t 98),(.t 99),(.t 100),(.t 101),(.t 102)]),
 Lw 15 103] [0,2,3,4,10,11,15])
 (.seq (.region [Lw 104 15,
 Lw 1 104] [0,1,2,3,4,10,11])
 (.exit 1)))
 (.skip)))
 (.seq (.region [Lw 106 0,
 Lw 107 1,
 Lw 108 2,
 Lw 109 13,
 Lw 110 4,
 Ll 111 (.call .heap [] (.f F2b) [(.t 106),(.t 107),(.t 108),(.t 109),(.t 110)]),
 Lw 105 111,
 Iex 112 105 0,
 Iex 113 105 1,
 Lw 16 112,
 Lw 17 113] [0,1,2,3,4,12,16,17])
 (.seq (.region [Lw 114 17,
 Lw 11 114] [0,1,2,3,4,11,12,16])
 (.seq (.region [Lw 115 16,
 Lw 116 1,
 Ll 117 (.bin .sub (.t 115) (.t 116)),
 Lw 118 2,
 Lw 119 16,
 Ll 120 (.bin .sub (.t 118) (.t 119)),
 Lw 18 117,
 Lw 19 120] [0,1,2,3,4,11,12,16,18,19])
 (.seq (.region [Lw 121 12,
 Ll 122 (.bin .quo (.t 121) (Acx 8)),
 Lw 20 122] [0,1,2,3,4,11,16,18,19,20])
 (.seq (.region [Lw 123 18,
 Lw 124 19,
 Ll 125 (.bin .lss (.t 123) (.t 124))] [0,1,2,3,4,11,16,18,19,20,125])
 (.cond (.t 125)
 (.seq (.region [Lw 126 18,
 Lw 127 20,
 Ll 128 (.bin .geq (.t 126) (.t 127)),
 Lw 10 128] [0,1,2,3,4,10,11,16])
 (.seq (.region [Lw 129 0,
 Lw 130 1,
 Lw 131 16,
 Lw 132 3,
 Lw 133 4,
 Ll 134 (.call .heap [] (.f F2d) [(.t 129),(.t 130),(.t 131),(.t 132),(.t 133)])] [0,2,3,4,10,11,16])
 (.region [Lw 135 16,
 Ll 136 (.bin .add (.t 135) (Acx 1)),
 Lw 1 136] [0,1,2,3,4,10,11])))
 (.seq (.region [Lw 137 19,
 Lw 138 20,
 Ll 139 (.bin .geq (.t 137) (.t 138)),
 Lw 10 139] [0,1,2,3,4,10,11,16])
 (.seq (.region [Lw 140 0,
 Lw 141 16,
 Ll 142 (.bin .add (.t 141) (Acx 1)),
 Lw 143 2,
 Lw 144 3,
 Lw 145 4,
 Ll 146 (.call .heap [] (.f F2d) [(.t 140),(.t 142),(.t 143),(.t 144),(.t 145)])] [0,1,3,4,10,11,16])
 (.region [Lw 147 16,
 Lw 2 147] [0,1,2,3,4,10,11])))))))))))))))))
def Z2d_B:Cd:=
 .seq (.region [Ll 10 (.mv (.c (.bool true)))] [0,1,2,3,4,10])
 (.seq (.region [Ll 11 (.mv (.c (.bool true)))] [0,1,2,3,4,10,11])
 (.block 0 (.loop (Z2d_L0))))
def Z2d:Fn:=
 { nparams:=5,nblk:=0,results:=[],body:=Z2d_B }
def Z21_B:Cd:=
 .seq (.region [Lw 5 0,
 Ll 6 (.len false (.t 5)),
 Lw 4 6] [0,1,4])
 (.region [Lw 7 0,
 Lw 8 4,
 Lw 9 4,
 Ll 10 (.conv .u64 (.t 9)),
 Ll 11 (Ofx F1t [(.t 10)]),
 Lw 12 1,
 Ll 13 (.call .heap [] (.f F2d) [(.t 7),(Acx 0),(.t 8),(.t 11),(.t 12)])] [])
def Z21:Fn:=
 { nparams:=2,nblk:=0,results:=[],body:=Z21_B }
def Z2_B:Cd:=
 .seq (.region [Ll 2 (.mv (.c (.bool false)))] [0])
 (.seq (.region [Lw 3 0,
 Lw 4 0,
 Ll 5 (.bin .neq (.t 3) (.t 4)),
 Lw 2 5] [2])
 (.ret))
def Z2:Fn:=
 { nparams:=1,nblk:=0,results:=[.tmp 2],body:=Z2_B }
def Z0_B:Cd:=
 .seq (.region [Ll 4 (.mv (Acx 0))] [0,1])
 (.seq (.region [Lw 7 0,
 Ll 8 (Ofx F2 [(.t 7)]),
 Lw 5 8] [0,1,5])
 (.seq (.region [Lw 9 1,
 Ll 10 (Ofx F2 [(.t 9)]),
 Lw 6 10] [0,1,5,6])
 (.seq (.seq (.region [Lw 11 5] [0,1,6,11])
 (.cond (.t 11)
 (.seq (.seq (.region [Lw 12 6] [12])
 (.cond (.t 12)
 (.seq (.region [Ll 4 (.mv (Acx 0))] [4])
 (.ret))
 (.skip)))
 (.seq (.region [Ll 4 (.mv (Acx (-1)))] [4])
 (.ret)))
 (.skip)))
 (.seq (.seq (.region [Lw 13 6] [0,1,13])
 (.cond (.t 13)
 (.seq (.region [Ll 4 (.mv (Acx 1))] [4])
 (.ret))
 (.skip)))
 (.seq (.seq (.region [Lw 14 0,
 Lw 15 1,
 Ll 16 (.bin .lss (.t 14) (.t 15))] [0,1,16])
 (.cond (.t 16)
 (.seq (.region [Ll 4 (.mv (Acx (-1)))] [4])
 (.ret))
 (.skip)))
 (.seq (.seq (.region [Lw 17 0,
 Lw 18 1,
 Ll 19 (.bin .gtr (.t 17) (.t 18))] [19])
 (.cond (.t 19)
 (.seq (.region [Ll 4 (.mv (Acx 1))] [4])
 (.ret))
 (.skip)))
 (.seq (.region [Ll 4 (.mv (Acx 0))] [4])
 (.ret))))))))
def Z0:Fn:=
 { nparams:=2,nblk:=0,results:=[.tmp 4],body:=Z0_B }
def Z3_B:Cd:=
 .seq (.region [Ll 2 (.mv (.c (.bool false)))] [0])
 (.seq (.region [Lw 3 0,
 Lw 4 0,
 Ll 5 (.bin .neq (.t 3) (.t 4)),
 Lw 2 5] [2])
 (.ret))
def Z3:Fn:=
 { nparams:=1,nblk:=0,results:=[.tmp 2],body:=Z3_B }
def Z1_B:Cd:=
 .seq (.region [Ll 4 (.mv (Acx 0))] [0,1])
 (.seq (.region [Lw 7 0,
 Ll 8 (Ofx F3 [(.t 7)]),
 Lw 5 8] [0,1,5])
 (.seq (.region [Lw 9 1,
 Ll 10 (Ofx F3 [(.t 9)]),
 Lw 6 10] [0,1,5,6])
 (.seq (.seq (.region [Lw 11 5] [0,1,6,11])
 (.cond (.t 11)
 (.seq (.seq (.region [Lw 12 6] [12])
 (.cond (.t 12)
 (.seq (.region [Ll 4 (.mv (Acx 0))] [4])
 (.ret))
 (.skip)))
 (.seq (.region [Ll 4 (.mv (Acx (-1)))] [4])
 (.ret)))
 (.skip)))
 (.seq (.seq (.region [Lw 13 6] [0,1,13])
 (.cond (.t 13)
 (.seq (.region [Ll 4 (.mv (Acx 1))] [4])
 (.ret))
 (.skip)))
 (.seq (.seq (.region [Lw 14 0,
 Lw 15 1,
 Ll 16 (.bin .lss (.t 14) (.t 15))] [0,1,16])
 (.cond (.t 16)
 (.seq (.region [Ll 4 (.mv (Acx (-1)))] [4])
 (.ret))
 (.skip)))
 (.seq (.seq (.region [Lw 17 0,
 Lw 18 1,
 Ll 19 (.bin .gtr (.t 17) (.t 18))] [19])
 (.cond (.t 19)
 (.seq (.region [Ll 4 (.mv (Acx 1))] [4])
 (.ret))
 (.skip)))
 (.seq (.region [Ll 4 (.mv (Acx 0))] [4])
 (.ret))))))))
def Z1:Fn:=
 { nparams:=2,nblk:=0,results:=[.tmp 4],body:=Z1_B }
end Pe

namespace Pe
open Go Gq
variable {T:Nat→Option Fn} {A:af}
def u9 (ds:List D):Prop:=∀x∈ds,x.isTup=false
theorem jq (h:Heap):∀{ds:List D},u9 ds→kj h (ds.map .d)=some ds
 | [],_=>rfl
 | d::ds,hn=>by
  have h1:d.isTup=false:=hn d (by simp)
  have h2:=jq h (ds:=ds) fun x hx=>hn x (by simp [hx])
  simp [h1,h2]
theorem qq (h:Heap):∀{a b:List V} {x y:List D},kj h a=some x→kj h b=some y→kj h (a++b)=some (x++y)
 | [],b,x,y,h1,h2=>by simp at h1; subst h1; simpa using h2
 | v::a,b,x,y,h1,h2=>by
  simp only [Tp] at h1;obtain ⟨d,hd,h1⟩:=a5.1 h1;simp only [a3j] at h1
  split at h1
  ·cases h1
  ·rename_i hn
   obtain ⟨z,hz,rfl⟩:=a9.1 h1;have:=qq h hz h2;simp [hd,hn,this]
theorem Bt {O:af} {np:Nat} {h:Heap} {news:List Nat} {g:Nat} {first caps:List D} {x r:D} (h1:u9 first) (h2:u9 caps) (hx:x.isTup=false) (ha:ask O g (first++[x]++caps)=some r) (hr:r.flat=true) :
 yi O np h .flat news (g,first.map .d,caps.map .d) [.d x]=some (.d r,h):=by
 have e:kj h (first.map .d++[.d x]++caps.map .d)=some (first++[x]++caps):=
  qq h (qq h (jq h h1) (jq h (ds:=[x]) (by intro y hy; simp at hy; subst hy; exact hx))) (jq h h2)
 rw [xo,e,aa,D0,ha,aa,zg,hr,if_pos rfl]
def rz (P:D→Bool):List D→Nat→Int
 | [],_=>-1
 | d::ds,i=>if P d then i else rz P ds (i+1)
theorem I8 (P:D→Bool):∀(ds:List D) (i:Nat),(0≤rz P ds i)↔ds.any P=true
 | [],i=>by simp [rz]
 | d::ds,i=>by
  rw [rz];cases h:P d
  ·simp [h,I8 P ds (i+1)]
  ·simp [h]
def qf (O:af) (g:Nat) (first caps cs:List D) (P:D→Bool):Prop:=u9 first∧u9 caps∧u9 cs∧∀x∈cs,ask O g (first++[x]++caps)=some (D.bool (P x))
def Ax (s:Sh) (cs:List D):Prop:=∀x∈cs,x.sh=s
theorem Jy {O:af} {g:Nat} {first caps cs:List D} {P:D→Bool} (hF:qf O g first caps cs P) (hs:Ax .leaf cs) (hl:cs.length<2000000):∀(m i:Nat),i+m=cs.length →
 dn O 0 (.loop Z1z_L0) ⟨[(0,.d (.sl .leaf cs)),(1,.d (.fn g first caps)),(7,(.d (.int .i64 cs.length))),(8,(.d (.int .i64 i)))],[]⟩ =
  if (cs.drop i).any P then some (.ret,⟨[(4,(.d (.int .i64 (rz P (cs.drop i) i))))],[]⟩) else some (.exit 0,⟨[(0,.d (.sl .leaf cs)),(1,.d (.fn g first caps)),(7,(.d (.int .i64 cs.length))),(8,(.d (.int .i64 cs.length))),(9,(.d (.bool false)))],[]⟩)
 | 0,i,hi=>by
  have:i=cs.length:=by omega
  subst this;rw [kw];exact bo (by simp -implicitDefEqProofs [Z1z_L0,ap])
 | m+1,i,hi=>by
  have hlt:i<cs.length:=by omega
  have h1:(i:Int)<cs.length:=by omega
  have hx:cs[i]? = some cs[i]:=al hlt;have hm:cs[i]∈cs:=bh hlt;have hc:=Bt (O:=O) (np:=0) (h:=[]) (news:=[]) hF.1 hF.2.1 (hF.2.2.1 _ hm) (hF.2.2.2 _ hm) rfl;have hsh:=hs _ hm;have w4:IntKind.i64.wrap ((i:Int)+1)=((i+1:Nat):Int):=(w64 (x:=(i:Int)+1) (by omega)).trans (by omega)
  rw [cd hlt];cases hp:P cs[i]
  ·rw [hp] at hc
   refine bm (s1:=⟨[(0,.d (.sl .leaf cs)),(1,.d (.fn g first caps)),(7,(.d (.int .i64 cs.length))),(8,(.d (.int .i64 ((i+1:Nat)))))],[]⟩) ?_ ?_
   ·simp -implicitDefEqProofs [Z1z_L0,ap,h1,hx,hsh,hc,w4]
   ·rw [Jy hF hs hl m (i+1) (by omega)]
    simp only [ot,hp,Bool.false_or,rz,au,if_false]
  ·rw [hp] at hc
   have e:rz P (cs[i]::cs.drop (i+1)) i=i:=by simp [rz,hp]
   rw [e];simp only [ot,hp,Bool.true_or,if_true];exact pk (by simp -implicitDefEqProofs [Z1z_L0,ap,h1,hx,hsh,hc])
theorem Lh {O:af} {g:Nat} {first caps cs:List D} {P:D→Bool} (hF:qf O g first caps cs P) (hs:Ax (.arr 64 .leaf) cs) (hl:cs.length<2000000):∀(m i:Nat),i+m=cs.length →
 dn O 0 (.loop Z20_L0) ⟨[(0,.d (.sl (.arr 64 .leaf) cs)),(1,.d (.fn g first caps)),(7,(.d (.int .i64 cs.length))),(8,(.d (.int .i64 i)))],[]⟩ =
  if (cs.drop i).any P then some (.ret,⟨[(4,(.d (.int .i64 (rz P (cs.drop i) i))))],[]⟩) else some (.exit 0,⟨[(0,.d (.sl (.arr 64 .leaf) cs)),(1,.d (.fn g first caps)),(7,(.d (.int .i64 cs.length))),(8,(.d (.int .i64 cs.length))),(9,(.d (.bool false)))],[]⟩)
 | 0,i,hi=>by
  have:i=cs.length:=by omega
  subst this;rw [kw];exact bo (by simp -implicitDefEqProofs [Z20_L0,ap])
 | m+1,i,hi=>by
  have hlt:i<cs.length:=by omega
  have h1:(i:Int)<cs.length:=by omega
  have hx:cs[i]? = some cs[i]:=al hlt;have hm:cs[i]∈cs:=bh hlt;have hc:=Bt (O:=O) (np:=0) (h:=[]) (news:=[]) hF.1 hF.2.1 (hF.2.2.1 _ hm) (hF.2.2.2 _ hm) rfl;have hsh:=hs _ hm;have w4:IntKind.i64.wrap ((i:Int)+1)=((i+1:Nat):Int):=(w64 (x:=(i:Int)+1) (by omega)).trans (by omega)
  rw [cd hlt];cases hp:P cs[i]
  ·rw [hp] at hc
   refine bm (s1:=⟨[(0,.d (.sl (.arr 64 .leaf) cs)),(1,.d (.fn g first caps)),(7,(.d (.int .i64 cs.length))),(8,(.d (.int .i64 ((i+1:Nat)))))],[]⟩) ?_ ?_
   ·simp -implicitDefEqProofs [Z20_L0,ap,h1,hx,hsh,hc,w4]
   ·rw [Lh hF hs hl m (i+1) (by omega)]
    simp only [ot,hp,Bool.false_or,rz,au,if_false]
  ·rw [hp] at hc
   have e:rz P (cs[i]::cs.drop (i+1)) i=i:=by simp [rz,hp]
   rw [e];simp only [ot,hp,Bool.true_or,if_true];exact pk (by simp -implicitDefEqProofs [Z20_L0,ap,h1,hx,hsh,hc])
def pt (O:af) (F:Nat) (s:Sh):Prop:=∀(g:Nat) (first caps cs:List D) (P:D→Bool),qf O g first caps cs P→Ax s cs→cs.length<2000000 →
 ask O F [.sl s cs,.fn g first caps]=some (D.int .i64 (rz P cs 0))
theorem Xt (hT:T F1z=some Z1z):pt (den T A) F1z .leaf:=by
 intro g first caps cs P hF hs hl;have h:=Jy hF hs hl cs.length 0 (b7 _);rw [fp] at h;have e0:((0:Nat):Int)=0:=rfl;rw [e0] at h;refine br hT rfl ?_
 by_cases ha:cs.any P=true
 ·rw [if_pos ha] at h
  simp -implicitDefEqProofs [Z1z,Z1z_B,h]
 ·rw [if_neg ha] at h
  have hn:rz P cs 0=-1:=by
   have hi:∀(ds:List D) (i:Nat),ds.any P=false→rz P ds i=-1:=by
    intro ds
    induction ds with
    | nil=>intro i _; rfl
    | cons d ds ih=>intro i hd; simp at hd; rw [rz,hd.1]; simpa using ih (i+1) (by simpa using hd.2)
   exact hi cs 0 (by simpa using ha)
  simp -implicitDefEqProofs [Z1z,Z1z_B,h,hn]
theorem Wy (hT:T F20=some Z20):pt (den T A) F20 (.arr 64 .leaf):=by
 intro g first caps cs P hF hs hl;have h:=Lh hF hs hl cs.length 0 (b7 _);rw [fp] at h;have e0:((0:Nat):Int)=0:=rfl;rw [e0] at h;refine br hT rfl ?_
 by_cases ha:cs.any P=true
 ·rw [if_pos ha] at h
  simp -implicitDefEqProofs [Z20,Z20_B,h]
 ·rw [if_neg ha] at h
  have hn:rz P cs 0=-1:=by
   have hi:∀(ds:List D) (i:Nat),ds.any P=false→rz P ds i=-1:=by
    intro ds
    induction ds with
    | nil=>intro i _; rfl
    | cons d ds ih=>intro i hd; simp at hd; rw [rz,hd.1]; simpa using ih (i+1) (by simpa using hd.2)
   exact hi cs 0 (by simpa using ha)
  simp -implicitDefEqProofs [Z20,Z20_B,h,hn]
def wn (O:af) (F:Nat) (s:Sh):Prop:=∀(g:Nat) (first caps cs:List D) (P:D→Bool),qf O g first caps cs P→Ax s cs→cs.length<2000000 →
 ask O F [.sl s cs,.fn g first caps]=some (D.bool (cs.any P))
theorem L0 (hT:T F1x=some Z1x) (hi:pt (den T A) F1z .leaf):wn (den T A) F1x .leaf:=by
 intro g first caps cs P hF hs hl;have h:=hi g first caps cs P hF hs hl;have e:decide (0≤rz P cs 0)=cs.any P:=by rw [Bool.eq_iff_iff]; simpa using I8 P cs 0
 refine br hT rfl ?_;simp -implicitDefEqProofs [Z1x,Z1x_B,h,e]
theorem Jg (hT:T F1y=some Z1y) (hi:pt (den T A) F20 (.arr 64 .leaf)):wn (den T A) F1y (.arr 64 .leaf):=by
 intro g first caps cs P hF hs hl;have h:=hi g first caps cs P hF hs hl;have e:decide (0≤rz P cs 0)=cs.any P:=by rw [Bool.eq_iff_iff]; simpa using I8 P cs 0
 refine br hT rfl ?_;simp -implicitDefEqProofs [Z1y,Z1y_B,h,e]
end Pe

namespace Pe
open Go Gq
variable {T:Nat→Option Fn} {A:af}
def D.num:D→Int
 | .int _ n=>n
 | _=>0
def iu (l:List Int):Prop:=∀x∈l,0≤x∧x<256
abbrev bt (l:List Int):D:=(D.arr 64 .leaf (am .u8 l))
def vj (O:af) (F:Nat) (s:Sh):Prop:=∀(g:Nat) (first caps cs:List D) (P:D→Bool),qf O g first caps cs P→Ax s cs→cs.length<2000000 →
 ask O F [.sl s cs,.fn g first caps]=some (D.bool (cs.all P))
theorem Rn (P:D→Bool) (cs:List D):(!cs.any fun x=>!P x)=cs.all P:=by
 induction cs with
 | nil=>rfl
 | cons c cs ih=>simp [←ih]
theorem a2x {g:Nat} {first caps cs:List D} {P:D→Bool} (hT:T F8=some Z8) (hF:qf (den T A) g first caps cs P):qf (den T A) F8 [] [.ip (.fn g first caps)] cs fun x=>!P x:=by
 refine ⟨fun x hx=>by simp at hx,fun x hx=>by simp at hx; subst hx; rfl,hF.2.2.1,fun x hx=>?_⟩
 have hc:=Bt (O:=den T A) (np:=0) (h:=[]) (news:=[]) hF.1 hF.2.1 (hF.2.2.1 _ hx) (hF.2.2.2 _ hx) rfl;refine br hT rfl ?_;simp -implicitDefEqProofs [Z8,Z8_B,hc]
theorem Tt (hT:T F7=some Z7) (hT1:T F8=some Z8) (hc:wn (den T A) F1x .leaf):vj (den T A) F7 .leaf:=by
 intro g first caps cs P hF hs hl;have e:=hc _ _ _ _ _ (a2x hT1 hF) hs hl;have e2:=Rn P cs;have t1:=jq [.box false (.fn g first caps)] hF.1;have t2:=jq [.box false (.fn g first caps)] hF.2.1;rw [←e2];generalize (cs.any fun x=>!P x)=r at *
 refine br hT rfl ?_;simp -implicitDefEqProofs [Z7,Z7_B,e]
theorem a3f {g:Nat} {first caps cs:List D} {P:D→Bool} (hT:T Fa=some Za) (hs:Ax (.arr 64 .leaf) cs) (hF:qf (den T A) g first caps cs P):qf (den T A) Fa [] [.ip (.fn g first caps)] cs fun x=>!P x:=by
 refine ⟨fun x hx=>by simp at hx,fun x hx=>by simp at hx; subst hx; rfl,hF.2.2.1,fun x hx=>?_⟩
 have hc:=Bt (O:=den T A) (np:=0) (h:=[.box false x]) (news:=[]) hF.1 hF.2.1 (hF.2.2.1 _ hx) (hF.2.2.2 _ hx) rfl;have h1:=hF.2.2.1 _ hx;have h2:=hs _ hx;refine br hT rfl ?_;simp -implicitDefEqProofs [Za,Za_B,hc,h1,h2]
theorem Sw (hT:T F9=some Z9) (hT1:T Fa=some Za) (hc:wn (den T A) F1y (.arr 64 .leaf)):vj (den T A) F9 (.arr 64 .leaf):=by
 intro g first caps cs P hF hs hl;have e:=hc _ _ _ _ _ (a3f hT1 hs hF) hs hl;have e2:=Rn P cs;rw [←e2];generalize (cs.any fun x=>!P x)=r at *
 refine br hT rfl ?_;simp -implicitDefEqProofs [Z9,Z9_B,e]
def rk (p:Int) (l:List Int):Bool:=l.all fun x=>decide (x<p)
def yq (O:af):Prop:=∀(p:Int) (l:List Int),iu l→l.length=64→ask O Fi [(D.int .i64 p),(D.arr 64 .leaf (am .u8 l))]=some (D.bool (rk p l))
theorem Vn (p:Int) (l:List Int):((am .u8 l).all fun x=>decide (x.num<p))=rk p l:=by
 unfold am rk;rw [List.all_map];rfl
theorem Uy (hT:T Fi=some Zi) (hT1:T Fj=some Zj) (ha:vj (den T A) F7 .leaf):yq (den T A):=by
 intro p l hb hl
 have hF:qf (den T A) Fj [] [.ip (D.int .i64 p)] (am .u8 l) fun x=>decide (x.num<p):=by
  refine ⟨fun x hx=>by simp at hx,fun x hx=>by simp at hx; subst hx; rfl,fun x hx=>?_,fun x hx=>?_⟩
  ·obtain ⟨n,_,rfl⟩:=ca.1 hx; rfl
  ·obtain ⟨n,hn,rfl⟩:=ca.1 hx
   have h1:=hb n hn;have w1:IntKind.i64.wrap n=n:=w64 (by omega)
   refine br hT1 rfl ?_;simp -implicitDefEqProofs [Zj,Zj_B,w1,D.num];exact decide_eq_decide.2 nj
 have e:=ha _ _ _ _ _ hF (fun x hx=>by obtain ⟨n,_,rfl⟩:=ca.1 hx; rfl) (by simp [hl])
 rw [Vn] at e;have ht:l.take 64=l:=av (by omega)
 refine br hT rfl ?_;simp -implicitDefEqProofs [Zi,Zi_B,e,hl,ht]
def V5 (p:Int) (ls:List (List Int)):Int:=if isP p∧ls.all (rk p) then 0 else 1
def xj (ls:List (List Int)):Prop:=∀l∈ls,l.length=64∧iu l
def D.nums:D→List Int
 | .arr _ _ cs=>cs.map D.num
 | _=>[]
theorem Ga (l:List Int):(bt l).nums=l:=by
 simp only [D.nums,am,kz];have:(D.num ∘ D.int .u8)=id:=rfl;rw [this,List.map_id]
end Pe

namespace Pe
open Go
abbrev tyN:Ty:=.int .i64
abbrev tyP:Ty:=.arr 64 (.int .u8)
theorem a6f {d:D} (h:tyN.has d):∃n:Int,d=(D.int .i64 n)∧-9223372036854775808≤n∧n≤9223372036854775807:=by
 cases d <;> simp only [Ty.has] at h
 obtain ⟨rfl,h⟩:=h;exact ⟨_,rfl,bounds_i64 h⟩
theorem Gu:∀(xs:List D),(∀x∈xs,(Ty.int .u8).has x)→∃l:List Int,xs=am .u8 l∧iu l
 | [],_=>⟨[],rfl,fun _ h=>by cases h⟩
 | x::xs,h=>by
  obtain ⟨l,rfl,hb⟩:=Gu xs fun y hy=>h y (p8 _ hy)
  have h1:=h x (by simp)
  cases x <;> simp only [Ty.has] at h1
  obtain ⟨rfl,h1⟩:=h1;refine ⟨_::l,rfl,fun y hy=>?_⟩
  rcases d5.1 hy with rfl | hy
  ·have:=bounds_u8 h1; omega
  ·exact hb y hy
theorem a19 {d:D} (h:tyP.has d):∃l:List Int,d=(D.arr 64 .leaf (am .u8 l))∧iu l∧l.length=64:=by
 cases d <;> simp only [Ty.has] at h
 obtain ⟨rfl,rfl,h1,h2⟩:=h;obtain ⟨l,rfl,hb⟩:=Gu _ h2;exact ⟨l,rfl,hb,by simpa [am] using h1⟩
theorem O5 {xs:List D} (h:Ty.hasAll [] xs):xs=[]:=by
 cases xs <;> simp only [Ty.hasAll] at h; rfl
theorem v6 {T:Ty} {Ts:List Ty} {xs:List D} (h:Ty.hasAll (T::Ts) xs):∃x r,xs=x::r∧T.has x∧Ty.hasAll Ts r:=by
 cases xs <;> simp only [Ty.hasAll] at h; exact ⟨_,_,rfl,h⟩
def db (P:Program) (num:Nat→Nat) (g:Nat) (fn:Fn):Bool:=match P.funcs[g]? with
 | some x=>Be P num fn x
 | none=>false
def a1h (P:Program) (num:Nat→Nat):List (Nat×Fn)→Prop
 | []=>True
 | e::r=>db P num (num e.1) e.2=true∧a1h P num r
theorem G4 {P:Program} {num:Nat→Nat}:∀{l:List (Nat×Fn)},a1h P num l→∀f fn,l.lookup f=some fn→∃g,P.funcs[num f]? = some g∧Be P num fn g=true
 | [],_,f,fn,h=>by cases h
 | (a,b)::r,⟨h1,h2⟩,f,fn,h=>by
  rw [List.lookup_cons] at h
  split at h
  ·rename_i e
   obtain rfl:=ao h;have:f=a:=by simpa using e
   subst this;unfold db at h1
   split at h1
   ·rename_i g hg; exact ⟨g,hg,h1⟩
   ·cases h1
  ·exact G4 h2 f fn h
end Pe

namespace Pe
open Go
variable {P:Program} {num:Nat→Nat}
theorem Nn {C:Cx} {φ:Loc} {s:St} {a:Act} {ops:Array Oper} {N np:Nat} {o:Oper} {j d:Nat} {v:V} {K:Act→World→Prop} {Q:Exit→Act→World→Prop}
 (hs:SR C φ s a.tmps) (hN:N≤a.tmps.size) (hd:o.dst=some d) (hdN:d<N) (hg:o.guard=none) (hj:ops[j]? = some o) (hop:OpWp P o a C φ s.h v s.h (fun _=>False))
 (hK:∀C' φ' u,Runs np C C' φ φ' s.h s.h→SR C' φ' ⟨(d,v)::s.e,s.h⟩ (a.put o.dst u).tmps→K (a.put o.dst u) C'.w):wpOp P ops Q j K a C.w:=by
 have hw:Region.wanted o (yielded ops a.tmps)=true:=by unfold Region.wanted; rw [hg]
 unfold wpOp;simp only [hj];rw [hw,if_pos rfl];left;refine hop K Q fun C' φ' u st hx k=>hK C' φ' u ⟨st,k.mono fun _ h=>h.elim⟩ ⟨st.hr,st.bd,fun n w hn=>?_⟩
 simp only [Env.get] at hn;rw [hd,I6 (jn hdN hN)]
 by_cases hdn:d=n
 ·subst hdn
  simp only [if_true,a8] at hn;subst hn;refine ⟨u,if_pos rfl,?_⟩;rcases hx with hx | hx
  ·rw [hd] at hx; cases hx
  ·exact hx
 ·rw [if_neg hdn] at hn
  rw [if_neg (fa hdn)];obtain ⟨u0,h1,h2⟩:=hs.env n w hn;exact ⟨u0,h1,k w u0 (fun _ _ h=>h.elim) h2⟩
theorem Vc {C:Cx} {φ:Loc} {s:St} {a:Act} {o:Oper} (hs:SR C φ s a.tmps) {x:Arg} {x' y':Operand} {t yt e:TypeId} (ho:o.op=.binOp .eql t x' y' yt) (hx:bx C.num x x'=true) (ht:P.underlying t=some (.slice e)) (hy:a.eval y'=.slice none 0 0)
 {sh:Sh} {cs:List D} (hv:s.e.arg x=some (.d (.sl sh cs))):∃b,OpGood P o a C φ s.h (.d (.bool b)) s.h (fun _=>False):=by
 obtain ⟨ad,c,e1,_,_⟩:=G9 (bb hs hx hv);refine ⟨decide (ad=none),bq hs (u:=.bool (decide (ad=none))) ?_ (g9 ..)⟩
 have hq:(Go.Op.equal t (.slice ad cs.length c) (.slice none 0 0)).run P C.w=.ok (decide (ad=none)) C.w:=by
  show (Go.Op.equalIn (9999+1) t (.slice ad cs.length c) (.slice none 0 0)).run P C.w=.ok (decide (ad=none)) C.w;generalize 9999=d;cases ad <;> simp [Go.Op.equalIn,Sem.run_bind,run_underlying ht,Result.andThen_ok,Sem.run_pure]
 have hb:binOp .eql t (.slice ad cs.length c) (.slice none 0 0)=(do pure (.bool (←Go.Op.equal t (.slice ad cs.length c) (.slice none 0 0)))):=rfl;simp [execOp,ho,e1,hy,eqGuard,hb,hq]
theorem Tq {x:Arg} {o:Oper} (h:Ti P num (.nilq false x) o=true):∃t x' y' yt e,o.op=.binOp .eql t x' y' yt∧bx num x x'=true∧ka y'=true∧P.underlying t=some (.slice e):=by
 cases hq:o.op with
 | binOp op t x' y' yt=>
  simp only [Ti,hq,ac,decide_eq_true_eq] at h;obtain ⟨⟨⟨h3,h4⟩,h5⟩,h6⟩:=h
  split at h6
  ·rename_i e he
   exact ⟨t,x',y',yt,e,by rw [h3]; rfl,h4,h5,he⟩
  ·cases h6
 | _=>simp only [Ti,hq,au] at h
def H9 (s:Sh) (z:D) (bytes:Nat):Cd:=
 .seq (.region [⟨some 2,.nilOwn 0 s,none,[]⟩] [0])
 (.seq (.seq (.region [⟨some 3,.mv (.t 0),none,[]⟩,
  ⟨some 4,.nilq false (.t 3),none,[]⟩] [0,4])
  (.cond (.t 4)
   (.seq (.region [⟨some 2,.nilOwn 2 s,none,[]⟩] [2])
    (.ret))
   (.skip)))
  (.seq (.region [⟨some 5,.buildSl false 2 s z 0 [],none,[]⟩,
   ⟨some 6,.mv (.t 0),none,[]⟩,
   ⟨some 7,.append s 3 bytes (.t 5) (.t 6),none,[]⟩,
   ⟨some 2,.mv (.t 7),none,[]⟩] [2])
   (.ret)))
def ro (s:Sh) (z:D) (bytes:Nat):Fn:={ nparams:=1,nblk:=4,results:=[.tmp 2],body:=H9 s z bytes }
def oc:Code→Bool
 | .seq _ (.seq (.seq (.region _ _ false) _) _)=>true
 | _=>false
theorem xi {N:Nat} {a b:Cd} {x:Code} (h:g8 P num N (.seq a b) x=true):∃y z,x=.seq y z∧g8 P num N a y=true∧g8 P num N b z=true:=by
 cases x <;> simp only [g8,au,ac] at h
 exact ⟨_,_,rfl,h⟩
def sw (s:Sh):St:=⟨[(2,.sl 2 [] 0 0 none)],[.hole,.hole,.sl false s [],.hole]⟩
theorem Qx:jg P num (fun _ _ _=>none):=fun f vs bs ans h=>by cases h
theorem L1 {s:Sh} {z:D} {bytes N:Nat} (hm:P.follows .mixedOrders=true) {x:Code} (hok:g8 P num N (H9 s z bytes) x=true) (hshape:oc x=true) (hbeq:Sh.beq s s=true)
 (C:Cx) (φ:Loc) (a:Act) (hC:C.num=num) (hs:SR C φ ⟨params 0 [.d (.sl s [])],[]++List.replicate 4 .hole⟩ a.tmps) (hN:N≤a.tmps.size)
 (Q:Exit→Act→World→Prop) (hQ:a0u num 0 Q .ret C φ ([]++List.replicate 4 .hole) (sw s) a):x.wp P Q a C.w:=by
 obtain ⟨x1,x2,rfl,ok1,ok2⟩:=xi hok;obtain ⟨x3,x4,rfl,ok3,ok4⟩:=xi ok2;obtain ⟨x5,x6,rfl,ok5,ok6⟩:=xi ok3;have nc:jg P num (fun _ _ _=>none):=Qx
 -- ahead
 refine wp_seq (qu (O:=fun _ _ _=>none) (np:=0) (N:=N) nc hm 1 _ _ ok1 C φ _ ⟨[(0,.d (.sl s []))],[.hole,.hole,.hole,.hole]⟩ a .normal hC hs hN rfl _ ?_)
 intro C1 φ1 a1 k1 r1 hs1 z1 d1;refine wp_seq (wp_seq ?_)
 -- the question
 cases x5 <;> simp only [g8,au,ac] at ok5
 rename_i id ops draw
 cases draw with
 | true=>simp [oc] at hshape
 | false=>
 have hops:=ok5.1;obtain ⟨hl,hget⟩:=qx hops;have hl2:ops.size=2:=by simpa using hl.symm
 have g0:ops.toList[0]? = some ops[0]:=by simp [hl2]
 have g1:ops.toList[1]? = some ops[1]:=by simp [hl2]
 have i0:=hget 0 _ _ rfl g0;have i1:=hget 1 _ _ rfl g1;have N1:N≤a1.tmps.size:=by rw [z1]; exact hN
 refine wp_region ?_;rw [hl2];show wpOps P ops _ [0,1] a1 C1.w;rw [wpOps_cons];refine zf (O:=fun _ _ _=>none) (np:=0) (k1▸nc) hs1 N1 (k1▸i0) (by simp) (s':=⟨[(3,.d (.sl s [])),(0,.d (.sl s []))],[.hole,.hole,.hole,.hole]⟩) rfl fun C2 φ2 u2 rn2 hs2=>?_
 have k2:C2.num=num:=rn2.st.le.num.trans k1;rw [wpOps_cons];unfold Gc at i1;simp only [ac,decide_eq_true_eq] at i1;obtain ⟨⟨⟨hdst,hdN⟩,hop⟩,hguard⟩:=i1;have hdst':ops[1].dst=some 4:=hdst.symm;have hdN':4<N:=by simpa [hdst'] using hdN
 have hg:ops[1].guard=none:=by
  cases hq:ops[1].guard with
  | none=>rfl
  | some q=>rw [hq] at hguard; simp at hguard
 have N2:N≤(a1.put ops[0].dst u2).tmps.size:=by rw [p6]; exact N1
 have key:∃b,OpGood P ops[1] (a1.put ops[0].dst u2) C2 φ2 [.hole,.hole,.hole,.hole] (.d (.bool b)) [.hole,.hole,.hole,.hole] (fun _=>False):=by
  obtain ⟨t,x',y',yt,e,h1,h2,h3,h4⟩:=Tq hop;refine Vc hs2 h1 (k2▸h2) h4 ?_ (x:=.t 3) (sh:=s) (cs:=[]) rfl;unfold ka at h3
  split at h3
  ·rfl
  ·cases h3
 obtain ⟨b,key⟩:=key;refine Nn (np:=0) hs2 N2 hdst' hdN' hg (by simp) key.wp fun C3 φ3 u3 rn3 hs3=>?_
 have k3:C3.num=num:=rn3.st.le.num.trans k2;show (Exit.then _ _) .normal _ _;obtain ⟨rn4,hs4⟩:=Ec 0 hs3 [0,4];have N4:N≤((a1.put ops[0].dst u2).put ops[1].dst u3).tmps.size:=by rw [p6]; exact N2
 have d4:((a1.put ops[0].dst u2).put ops[1].dst u3).defers=a.defers:=by
  rw [←d1];cases ops[0].dst <;> cases ops[1].dst <;> rfl
 have z4:((a1.put ops[0].dst u2).put ops[1].dst u3).tmps.size=a.tmps.size:=by rw [p6,p6,z1]
 have back:Runs 0 C C3 φ φ3 ([]++List.replicate 4 .hole) [.hole,.hole,.hole,.hole]:=(r1.trans (rn2.trans rn3)).trans rn4;generalize ((a1.put ops[0].dst u2).put ops[1].dst u3)=a3 at *;have hs5:SR C3 φ3 ⟨[(0,.d (.sl s [])),(4,.d (.bool b))],[.hole,.hole,.hole,.hole]⟩ a3.tmps:=hs4;cases b with
 | true=>
  have ev:cw (fun _ _ _=>none) 0 1 (.cond (.t 4) (.seq (.region [⟨some 2,.nilOwn 2 s,none,[]⟩] [2]) (.ret)) (.skip)) ⟨[(0,.d (.sl s [])),(4,.d (.bool true))],[.hole,.hole,.hole,.hole]⟩=some (.ret,⟨[(2,.sl 2 [] 0 0 (some 0))],[.hole,.hole,.sl false s [],.hole]⟩):=rfl
  refine qu (O:=fun _ _ _=>none) (np:=0) (N:=N) nc hm 1 _ _ ok6 C3 φ3 _ _ a3 .ret k3 hs5 N4 ev _ ?_
  intro C6 φ6 a6 k6 r6 hs6 z6 d6;refine hQ C6 φ6 a6 k6 (back.trans r6) ⟨hs6.hr,hs6.bd,fun n v hn=>?_⟩ (z6.trans z4) (d6.trans d4)
  simp only [sw,Env.get] at hn
  split at hn
  ·rename_i h2
   subst h2;obtain rfl:=ao hn;obtain ⟨u,h5,h6⟩:=hs6.env 2 (.sl 2 [] 0 0 (some 0)) rfl;refine ⟨u,h5,?_⟩;simp only [RX] at h6 ⊢;obtain ⟨B,base,sh,m,ad,c,e1,e2,e3,e4,e5,e6,e7⟩:=h6;exact ⟨B,base,sh,m,ad,c,e1,e2,e3,e4,e5,(fun k hk=>by cases hk),e7⟩
  ·cases hn
 | false=>
  have ev:cw (fun _ _ _=>none) 0 1 (.cond (.t 4) (.seq (.region [⟨some 2,.nilOwn 2 s,none,[]⟩] [2]) (.ret)) (.skip)) ⟨[(0,.d (.sl s [])),(4,.d (.bool false))],[.hole,.hole,.hole,.hole]⟩=some (.normal,⟨[(0,.d (.sl s [])),(4,.d (.bool false))],[.hole,.hole,.hole,.hole]⟩):=rfl
  refine qu (O:=fun _ _ _=>none) (np:=0) (N:=N) nc hm 1 _ _ ok6 C3 φ3 _ _ a3 .normal k3 hs5 N4 ev _ ?_
  intro C6 φ6 a6 k6 r6 hs6 z6 d6
  have ev2:cw (fun _ _ _=>none) 0 1 (.seq (.region [⟨some 5,.buildSl false 2 s z 0 [],none,[]⟩,⟨some 6,.mv (.t 0),none,[]⟩,⟨some 7,.append s 3 bytes (.t 5) (.t 6),none,[]⟩,⟨some 2,.mv (.t 7),none,[]⟩] [2]) (.ret)) ⟨[(0,.d (.sl s [])),(4,.d (.bool false))],[.hole,.hole,.hole,.hole]⟩=some (.ret,sw s):=by
   simp [cw,ep,mw,jk,Ins.side,Ins.on,aq,fx,mi,freezeIf,dh,eh,Env.arg,Env.get,Env.putO,Env.kill,Op.kill,toE,hbeq,Env.keep,ox,Env.refd,V.refs,sw,Env.clear]
  refine qu (O:=fun _ _ _=>none) (np:=0) (N:=N) nc hm 1 _ _ ok4 C6 φ6 _ _ a6 .ret k6 hs6 (by rw [z6]; exact N4) ev2 _ ?_
  intro C7 φ7 a7 k7 r7 hs7 z7 d7;exact hQ C7 φ7 a7 k7 ((back.trans r6).trans r7) hs7 (z7.trans (z6.trans z4)) (d7.trans (d6.trans d4))
theorem M0 {s:Sh} {z:D} {bytes:Nat} (hm:P.follows .mixedOrders=true) {f:Nat} {g:Func} (hg:P.funcs[num f]? = some g) (hok:Be P num (ro s z bytes) g=true) (hshape:(match g.body with | some x=>oc x | none=>false)=true) (hbeq:Sh.beq s s=true)
 {cs:List D} (hl:cs.length*bytes≤1099511627776) {C:Cx} {φ:Loc} {us:List Value} (hC:C.num=num) (hr:HR C φ []) (hb:∀b,C.I b→b<C.w.heap.size) (hv:RXs C φ [] [.d (.sl s cs)] us) :
 O7 P (num f) us C φ [] [.sl false s cs] (.sl 0 [] 0 cs.length none):=by
 cases cs with
 | cons c cs=>
  have hl':(cs.length+1)*bytes≤1099511627776:=hl
  have hrun:run (fun _ _ _=>none) 1 (ro s z bytes) [.d (.sl s (c::cs))] []=some (.sl 0 [] 0 (c::cs).length none,[],[.sl false s (c::cs)]):=by
   simp [hl',run,ro,H9,cw,ep,mw,jk,Ins.side,Ins.on,aq,fx,mi,freezeIf,dh,eh,Env.arg,Env.get,Env.putO,Env.kill,Op.kill,toE,hbeq,Env.keep,ox,Env.refd,V.refs,Env.clear,params,u5,Oc,iz,pb,Heap.pick,V.ren,List.idxOf,List.findIdx,List.findIdx.go]
  exact (Gx Qx hm hg hok hrun hC hr hb hv).2
 | nil=>
  unfold Be at hok;simp only [ac,bne_iff_ne,ne_eq,decide_eq_true_eq] at hok;obtain ⟨⟨⟨hname,hnp⟩,hres⟩,hbody⟩:=hok;cases hcode:g.body with
  | none=>rw [hcode] at hbody; cases hbody
  | some code=>
   rw [hcode] at hbody hshape;simp only at hbody hshape;refine (Us (ro s z bytes) hg hname hnp hres hcode (vs:=[.d (.sl s [])]) (bs:=[]) (ans:=(.sl 0 [] 0 0 none,[],[.sl false s []])) .ret (sw s) rfl ?_ (fun C φ a hC hs hN Q hQ=>L1 hm hbody hshape hbeq C φ a hC hs hN Q hQ) hC hr hb hv).2
   simp [ro,sw,u5,Oc,Env.get,iz,pb,V.refs,Heap.pick,V.ren,List.idxOf,List.findIdx,List.findIdx.go]
def Ac (ids:Nat→Option (Sh×D×Nat)):af:=fun f vs bs=>
 match ids f with
 | some (s,_,bytes)=>match vs with
  | [.d (.sl t cs)]=>match bs with
   | []=>if Sh.beq t s=true∧cs.length*bytes≤1099511627776 then some (.sl 0 [] 0 cs.length none,[],[.sl false t cs]) else none
   | _=>none
  | _=>none
 | none=>none
theorem T5 {ids:Nat→Option (Sh×D×Nat)} {f:Nat} {s:Sh} {z:D} {bytes:Nat} {cs:List D} (h1:ids f=some (s,z,bytes)) (h0:Sh.beq s s=true) (h2:cs.length*bytes≤1099511627776) :
 Ac ids f [.d (.sl s cs)] []=some (.sl 0 [] 0 cs.length none,[],[.sl false s cs]):=by
 simp [Ac,h1,h0,h2]
theorem He {ids:Nat→Option (Sh×D×Nat)} (hm:P.follows .mixedOrders=true)
 (hids:∀f s z bytes,ids f=some (s,z,bytes)→Sh.beq s s=true∧∃g,P.funcs[num f]? = some g∧Be P num (ro s z bytes) g=true∧(match g.body with | some x=>oc x | none=>false)=true):jg P num (Ac ids):=by
 intro f vs bs ans h C φ us hC hr hb hv;unfold Ac at h
 split at h
 ·rename_i s z bytes hi
  split at h
  ·rename_i t cs
   split at h
   ·split at h
    ·rename_i hc
     obtain rfl:=ao h;obtain ⟨hbeq,g,hg,hok,hshape⟩:=hids f s z bytes hi;obtain rfl:=Sh.beq_eq _ _ hc.1;exact ⟨rfl,M0 hm hg hok hshape hbeq hc.2 hC hr hb hv⟩
    ·cases h
   ·cases h
  ·cases h
 ·cases h
end Pe

/-
 Functions of the laws in the small form,printed by a program.
-/
namespace Pe
open Go
def Z1q_L0:Cd:=
 .seq (.seq (.region [Lw 5 4,
 Ll 6 (.bin .lss (.t 5) (Acx 64))] [1,2,3,4,6])
 (.cond (.t 6)
 (.skip)
 (.exit 0)))
 (.seq (.block 1 (.region [Lw 9 4,
 Lw 10 4,
 Ll 11 (.idxA (some 64) .leaf (.t 1) (.t 10)),
 Ilx 12 11,
 Ll 13 (.idxA (some 64) .leaf (.t 3) (.t 9)),
 Ls (.store false .leaf (.t 13) (.t 12))] [1,2,3,4]))
 (.region [Lw 7 4,
 Ll 8 (.bin .add (.t 7) (Acx 1)),
 Lw 4 8] [1,2,3,4]))
def Z1q_B:Cd:=
 .seq (.region [Ll 1 (.box false 0 (.t 0)),
 Ll 2 (.box false 1 (.c (.arr 64 .leaf z64)))] [1,2])
 (.seq (.region [Ll 3 (.box false 2 (.c (.arr 64 .leaf z64)))] [1,2,3])
 (.seq (.seq (.region [Ll 4 (.mv (Acx 0))] [1,2,3,4])
 (.block 0 (.loop (Z1q_L0))))
 (.seq (.region [Ipx 14 3,
 Ls (.store false Sx6 (.t 2) (.t 14))] [2])
 (.ret))))
def Z1q:Fn:=
 { nparams:=1,nblk:=3,results:=[.cell 2 Sx6],body:=Z1q_B }
end Pe

/-
 Functions of the laws in the small form,printed by a program.
-/
namespace Pe
open Go
def Z1i_L0:Cd:=
 .seq (.seq (.region [Lw 6 5,
 Ll 7 (.bin .lss (.t 6) (Acx 64))] [2,3,5,7])
 (.cond (.t 7)
 (.skip)
 (.exit 0)))
 (.seq (.block 1 (.seq (.region [Lw 10 5,
 Ll 11 (.idxA (some 64) .leaf (.t 2) (.t 10)),
 Ilx 12 11,
 Lw 13 5,
 Ll 14 (.idxA (some 64) .leaf (.t 3) (.t 13)),
 Ilx 15 14,
 Ll 16 (.bin .neq (.t 12) (.t 15))] [2,3,5,16])
 (.cond (.t 16)
 (.seq (.region [Ll 4 (.mv (.c (.bool false)))] [4])
 (.ret))
 (.skip))))
 (.region [Lw 8 5,
 Ll 9 (.bin .add (.t 8) (Acx 1)),
 Lw 5 9] [2,3,5]))
def Z1i_B:Cd:=
 .seq (.region [Ll 2 (.box false 0 (.t 0)),
 Ll 3 (.box false 1 (.t 1)),
 Ll 4 (.mv (.c (.bool false)))] [2,3])
 (.seq (.seq (.region [Ll 5 (.mv (Acx 0))] [2,3,5])
 (.block 0 (.loop (Z1i_L0))))
 (.seq (.region [Ll 4 (.mv (.c (.bool true)))] [4])
 (.ret)))
def Z1i:Fn:=
 { nparams:=2,nblk:=2,results:=[.tmp 4],body:=Z1i_B }
end Pe

/-
 Functions of the laws in the small form,printed by a program.
-/
namespace Pe
open Go
def Z1p_B:Cd:=
 .seq (.region [Ll 4 (.mv (Acx 0))] [0,1])
 (.seq (.region [Lw 5 1,
 Lw 6 0,
 Ll 7 (.len false (.t 6)),
 Ll 8 (.bin .sub (.t 5) (.t 7)),
 Lw 1 8] [1])
 (.seq (.seq (.region [Lw 9 1,
 Ll 10 (.bin .lss (.t 9) (Acx 0))] [1,10])
 (.cond (.t 10)
 (.seq (.region [Ll 4 (.mv (Acx (-1)))] [4])
 (.ret))
 (.skip)))
 (.seq (.region [Lw 11 1,
 Lw 4 11] [4])
 (.ret))))
def Z1p:Fn:=
 { nparams:=2,nblk:=0,results:=[.tmp 4],body:=Z1p_B }
def Z1r_L0:Cd:=
 .seq (.seq (.region [Lw 8 4,
 Lw 9 0,
 Ll 10 (.len false (.t 9)),
 Ll 11 (.bin .lss (.t 8) (.t 10))] [0,3,4,11])
 (.cond (.t 11)
 (.skip)
 (.exit 0)))
 (.seq (.block 1 (.region [Lw 14 3,
 Lw 15 4,
 Lw 16 0,
 Lw 17 4,
 Ll 18 (.idxA none Sx6 (.t 16) (.t 17)),
 Ipx 19 18,
 Ll 20 (Ofx F1q [(.t 19)]),
 Ll 21 (.idxA none Sx6 (.t 14) (.t 15)),
 Ls (.store false Sx6 (.t 21) (.t 20))] [0,3,4]))
 (.region [Lw 12 4,
 Ll 13 (.bin .add (.t 12) (Acx 1)),
 Lw 4 13] [0,3,4]))
def Z1r_B:Cd:=
 .seq (.region [Ll 2 (.mv (.c (.sl Sx6 [])))] [0])
 (.seq (.region [Lw 5 0,
 Ll 6 (.len false (.t 5)),
 Ll 7 (.mkSl 0 Sx6 (.arr 64 .leaf z64) 64 (.t 6) (.t 6)),
 Lw 3 7] [0,3])
 (.seq (.seq (.region [Ll 4 (.mv (Acx 0))] [0,3,4])
 (.block 0 (.loop (Z1r_L0))))
 (.seq (.region [Lw 22 3,
 Lw 2 22] [2])
 (.ret))))
def Z1r:Fn:=
 { nparams:=1,nblk:=1,results:=[.tmp 2],body:=Z1r_B }
def Z1s_L0:Cd:=
 .seq (.seq (.region [Lw 8 4,
 Lw 9 0,
 Ll 10 (.len false (.t 9)),
 Ll 11 (.bin .lss (.t 8) (.t 10))] [0,3,4,11])
 (.cond (.t 11)
 (.skip)
 (.exit 0)))
 (.seq (.block 1 (.region [Lw 14 3,
 Lw 15 4,
 Lw 16 0,
 Lw 17 4,
 Ll 18 (.idxA none Sx6 (.t 16) (.t 17)),
 Ipx 19 18,
 Ll 20 (Ofx F1q [(.t 19)]),
 Ll 21 (.idxA none Sx6 (.t 14) (.t 15)),
 Ls (.store false Sx6 (.t 21) (.t 20))] [0,3,4]))
 (.region [Lw 12 4,
 Ll 13 (.bin .add (.t 12) (Acx 1)),
 Lw 4 13] [0,3,4]))
def Z1s_B:Cd:=
 .seq (.region [Ll 2 (.nilOwn 0 Sx6)] [0])
 (.seq (.region [Lw 5 0,
 Ll 6 (.len false (.t 5)),
 Ll 7 (.mkSl 1 Sx6 (.arr 64 .leaf z64) 64 (.t 6) (.t 6)),
 Lw 3 7] [0,3])
 (.seq (.seq (.region [Ll 4 (.mv (Acx 0))] [0,3,4])
 (.block 0 (.loop (Z1s_L0))))
 (.seq (.region [Lw 22 3,
 Lw 2 22] [2])
 (.ret))))
def Z1s:Fn:=
 { nparams:=1,nblk:=2,results:=[.tmp 2],body:=Z1s_B }
def Z1j_L0:Cd:=
 .seq (.seq (.region [Lw 11 5,
 Lw 12 0,
 Ll 13 (.len false (.t 12)),
 Ll 14 (.bin .lss (.t 11) (.t 13))] [0,1,5,14])
 (.cond (.t 14)
 (.skip)
 (.exit 0)))
 (.seq (.block 1 (.seq (.region [Lw 17 0,
 Lw 18 5,
 Ll 19 (.idxA none Sx6 (.t 17) (.t 18)),
 Ipx 20 19,
 Lw 21 1,
 Lw 22 5,
 Ll 23 (.idxA none Sx6 (.t 21) (.t 22)),
 Ipx 24 23,
 Ll 25 (Ofx F1i [(.t 20),(.t 24)]),
 Ll 26 (.un .not (.t 25))] [0,1,5,26])
 (.cond (.t 26)
 (.seq (.region [Ll 4 (.mv (.c (.bool false)))] [4])
 (.ret))
 (.skip))))
 (.region [Lw 15 5,
 Ll 16 (.bin .add (.t 15) (Acx 1)),
 Lw 5 16] [0,1,5]))
def Z1j_B:Cd:=
 .seq (.region [Ll 4 (.mv (.c (.bool false)))] [0,1])
 (.seq (.seq (.region [Lw 6 0,
 Ll 7 (.len false (.t 6)),
 Lw 8 1,
 Ll 9 (.len false (.t 8)),
 Ll 10 (.bin .neq (.t 7) (.t 9))] [0,1,10])
 (.cond (.t 10)
 (.seq (.region [Ll 4 (.mv (.c (.bool false)))] [4])
 (.ret))
 (.skip)))
 (.seq (.seq (.region [Ll 5 (.mv (Acx 0))] [0,1,5])
 (.block 0 (.loop (Z1j_L0))))
 (.seq (.region [Ll 4 (.mv (.c (.bool true)))] [4])
 (.ret))))
def Z1j:Fn:=
 { nparams:=2,nblk:=0,results:=[.tmp 4],body:=Z1j_B }
def Z1n_L0:Cd:=
 .seq (.seq (.region [Lw 13 6,
 Ll 14 (.bin .lss (.t 13) (Acx 64))] [0,1,5,6,14])
 (.cond (.t 14)
 (.skip)
 (.exit 2)))
 (.seq (.block 3 (.seq (.region [Lw 17 0,
 Lw 18 5,
 Lw 19 6,
 Lw 20 1,
 Ll 21 (.conv .u8 (.t 20)),
 Ll 22 (.idxA none Sx6 (.t 17) (.t 18)),
 Ll 23 (.idxA (some 64) .leaf (.t 22) (.t 19)),
 Ls (.store false .leaf (.t 23) (.t 21))] [0,1,5,6])
 (.region [Lw 24 1,
 Ll 25 (.bin .add (.t 24) (Acx 1)),
 Lw 1 25] [0,1,5,6])))
 (.region [Lw 15 6,
 Ll 16 (.bin .add (.t 15) (Acx 1)),
 Lw 6 16] [0,1,5,6]))
def Z1n_L1:Cd:=
 .seq (.seq (.region [Lw 7 5,
 Lw 8 0,
 Ll 9 (.len false (.t 8)),
 Ll 10 (.bin .lss (.t 7) (.t 9))] [0,1,5,10])
 (.cond (.t 10)
 (.skip)
 (.exit 0)))
 (.seq (.block 1 (.seq (.region [Ll 6 (.mv (Acx 0))] [0,1,5,6])
 (.block 2 (.loop (Z1n_L0)))))
 (.region [Lw 11 5,
 Ll 12 (.bin .add (.t 11) (Acx 1)),
 Lw 5 12] [0,1,5]))
def Z1n_B:Cd:=
 .seq (.region [Ll 4 (.mv (Acx 0))] [0,1])
 (.seq (.seq (.region [Ll 5 (.mv (Acx 0))] [0,1,5])
 (.block 0 (.loop (Z1n_L1))))
 (.seq (.region [Lw 26 1,
 Lw 4 26] [4])
 (.ret)))
def Z1n:Fn:=
 { nparams:=2,nblk:=0,results:=[.tmp 4],body:=Z1n_B }
def Z1l_L0:Cd:=
 .seq (.seq (.region [Lw 13 6,
 Ll 14 (.bin .lss (.t 13) (Acx 64))] [0,1,5,6,14])
 (.cond (.t 14)
 (.skip)
 (.exit 2)))
 (.seq (.block 3 (.seq (.seq (.region [Lw 17 0,
 Lw 18 5,
 Lw 19 6,
 Ll 20 (.idxA none Sx6 (.t 17) (.t 18)),
 Ll 21 (.idxA (some 64) .leaf (.t 20) (.t 19)),
 Ilx 22 21,
 Lw 23 1,
 Ll 24 (.conv .u8 (.t 23)),
 Ll 25 (.bin .neq (.t 22) (.t 24))] [0,1,5,6,25])
 (.cond (.t 25)
 (.seq (.region [Ll 4 (.mv (Acx (-1)))] [4])
 (.ret))
 (.skip)))
 (.region [Lw 26 1,
 Ll 27 (.bin .add (.t 26) (Acx 1)),
 Lw 1 27] [0,1,5,6])))
 (.region [Lw 15 6,
 Ll 16 (.bin .add (.t 15) (Acx 1)),
 Lw 6 16] [0,1,5,6]))
def Z1l_L1:Cd:=
 .seq (.seq (.region [Lw 7 5,
 Lw 8 0,
 Ll 9 (.len false (.t 8)),
 Ll 10 (.bin .lss (.t 7) (.t 9))] [0,1,5,10])
 (.cond (.t 10)
 (.skip)
 (.exit 0)))
 (.seq (.block 1 (.seq (.region [Ll 6 (.mv (Acx 0))] [0,1,5,6])
 (.block 2 (.loop (Z1l_L0)))))
 (.region [Lw 11 5,
 Ll 12 (.bin .add (.t 11) (Acx 1)),
 Lw 5 12] [0,1,5]))
def Z1l_B:Cd:=
 .seq (.region [Ll 4 (.mv (Acx 0))] [0,1])
 (.seq (.seq (.region [Ll 5 (.mv (Acx 0))] [0,1,5])
 (.block 0 (.loop (Z1l_L1))))
 (.seq (.region [Lw 28 1,
 Lw 4 28] [4])
 (.ret)))
def Z1l:Fn:=
 { nparams:=2,nblk:=0,results:=[.tmp 4],body:=Z1l_B }
end Pe

/-
 Functions of the program in the small form,printed by a program.
-/
namespace Pe
open Go
def Zf_B:Cd:=
 .seq (.region [Ll 2 (.box false 0 (.t 0)),
 Ll 3 (.box false 1 (.t 1)),
 Ll 4 (.mv (.c (.bool false)))] [2,3])
 (.seq (.region [Ll 5 (.fldA [.leaf,.leaf] (.t 2) 0),
 Ilx 6 5,
 Ipx 7 3,
 Ll 8 (Ofx Fi [(.t 6),(.t 7)]),
 Lw 9 8,
 Lg 10 (.load Sx6 (.t 3)) 9 true,
 Lg 11 (Opx F19 [(.t 10)]) 9 true,
 Lg 12 (Ofx F1b [(.t 11)]) 9 true,
 Lg 13 (.fldA [.leaf,.leaf] (.t 2) 1) 9 true,
 Lg 14 (.load .leaf (.t 13)) 9 true,
 Lg 15 (Ofx F1b [(.t 14)]) 9 true,
 Lg 16 (.bin .lss (.t 12) (.t 15)) 9 true,
 Ll 17 (.pick (.t 9) (.t 16) (.c (.bool false))),
 Lw 4 17] [4])
 (.ret))
def Zf:Fn:=
 { nparams:=2,nblk:=2,results:=[.tmp 4],body:=Zf_B }
def Zc_B:Cd:=
 .seq (.region [Ll 3 (.box false 0 (.t 1)),
 Ll 4 (.box false 1 (.c (.st [.leaf,.leaf] [(.int .i64 0),(.sl .leaf [])])))] [0,3,4])
 (.seq (.region [Lw 5 0,
 Ipx 6 3,
 Ll 7 (Opx F19 [(.t 6)]),
 Ll 8 (.build false (.st [.leaf,.leaf] [(.int .i64 0),(.sl .leaf [])]) [(0,(.t 5)),(1,(.t 7))]),
 Ls (.store false (.st [.leaf,.leaf]) (.t 4) (.t 8))] [4])
 (.ret))
def Zc:Fn:=
 { nparams:=2,nblk:=2,results:=[.cell 4 (.st [.leaf,.leaf])],body:=Zc_B }
def Zh_B:Cd:=
 .seq (.region [Ll 3 (.box false 0 (.t 1)),
 Ll 4 (.mv (.c (.bool false)))] [0,3])
 (.seq (.region [Ipx 6 3,
 Ll 7 (Opx F19 [(.t 6)]),
 Lw 5 7] [0,3,5])
 (.seq (.region [Lw 8 0,
 Ipx 9 3,
 Ll 10 (Ofx F4 [(.t 8),(.t 9)]),
 Lw 11 10,
 Lx 12 5 11 true,
 Lg 13 (Ofx F1b [(.t 12)]) 11 true,
 Lg 14 (Ofx F1g [(.t 13),(Acx 1),(Acx 4)]) 11 true,
 Ll 15 (.pick (.t 11) (.t 14) (.c (.bool false))),
 Lw 16 15,
 Lx 17 0 16 true,
 Lx 18 5 16 true,
 Lg 19 (Ofx Fy [(.t 17),(.t 18)]) 16 true,
 Ll 20 (.pick (.t 16) (.t 19) (.c (.bool false))),
 Lw 4 20] [4])
 (.ret)))
def Zh:Fn:=
 { nparams:=2,nblk:=1,results:=[.tmp 4],body:=Zh_B }
def Ze_L0:Cd:=
 .seq (.region [Ll 13 (.bin .lss (.t 12) (.t 11))] [1,3,11,12,13])
 (.seq (.cond (.t 13)
 (.skip)
 (.exit 0))
 (.seq (.block 1 (.region [Ll 14 (.fldA [.leaf,.leaf] (.t 3) 0),
 Ilx 15 14,
 Lw 16 1,
 Ll 17 (.fldA [.leaf,.leaf] (.t 3) 0),
 Ilx 18 17,
 Ll 19 (.fldA [.leaf,.leaf] (.t 3) 1),
 Ilx 20 19,
 Ll 21 (Opx F11 [(.t 15),(.t 16),(.t 18),(.t 20)]),
 Lw 1 21] [1,3,11,12]))
 (.region [Ll 22 (.bin .add (.t 12) (Acx 1)),
 Lw 12 22] [1,3,11,12])))
def Ze_B:Cd:=
 .seq (.region [Ll 3 (.box false 0 (.t 0)),
 Ll 6 (.mv (.c (.sl .leaf [])))] [1,2,3])
 (.seq (.seq (.region [Lw 7 2,
 Ll 8 (.fldA [.leaf,.leaf] (.t 3) 1),
 Ilx 9 8,
 Ll 10 (Ofx F1b [(.t 9)]),
 Ll 11 (.bin .rem (.t 7) (.t 10)),
 Ll 12 (.mv (Acx 0))] [1,3,11,12])
 (.block 0 (.loop (Ze_L0))))
 (.seq (.region [Lw 23 1,
 Lw 6 23] [6])
 (.ret)))
def Ze:Fn:=
 { nparams:=3,nblk:=1,results:=[.tmp 6],body:=Ze_B }
def Z18_B:Cd:=
 .seq (.region [Ll 4 (.box false 0 (.t 1)),
 Ll 6 (.mv (Acx 0))] [0,2,4])
 (.seq (.seq (.region [Lw 7 0,
 Ipx 8 4,
 Ll 9 (Ofx Fh [(.t 7),(.t 8)]),
 Ll 10 (.un .not (.t 9)),
 Lw 11 10,
 Lx 12 2 11 false,
 Lx 13 0 11 false,
 Lg 14 (.load Sx6 (.t 4)) 11 false,
 Lg 15 (Opx Fc [(.t 13),(.t 14)]) 11 false,
 Lg 16 (.mkFn Ff [(.t 15)] []) 11 false,
 Lg 17 (Ofx F9 [(.t 12),(.t 16)]) 11 false,
 Lg 18 (.un .not (.t 17)) 11 false,
 Ll 19 (.pick (.t 11) (.c (.bool true)) (.t 18))] [19])
 (.cond (.t 19)
 (.seq (.region [Ll 6 (.mv (Acx 1))] [6])
 (.ret))
 (.skip)))
 (.seq (.region [Ll 6 (.mv (Acx 0))] [6])
 (.ret)))
def Z18:Fn:=
 { nparams:=3,nblk:=1,results:=[.tmp 6],body:=Z18_B }
end Pe

/-
 Functions of the program in the small form,printed by a program.
-/
namespace Pe
open Go
def Z1f_L0:Cd:=
 .seq (.region [Ll 9 (.bin .lss (.t 8) (.t 7))] [3,6,7,8,9])
 (.seq (.cond (.t 9)
 (.skip)
 (.exit 0))
 (.seq (.block 1 (.seq (.region [Ll 10 (.idxA none Sx6 (.t 6) (.t 8)),
 Ipx 11 10,
 Ll 5 (.box false 1 (.c (.arr 64 .leaf z64))),
 Ls (.store false Sx6 (.t 5) (.t 11))] [3,5,6,7,8])
 (.region [Lw 12 3,
 Ipx 13 5,
 Ll 14 (Opx F19 [(.t 13)]),
 Ll 15 (.buildSl false 2 .leaf (.sl .leaf []) 1 [(0,(.t 14))]),
 Ll 16 (.append .leaf 3 24 (.t 12) (.t 15)),
 Lw 3 16] [3,6,7,8])))
 (.region [Ll 17 (.bin .add (.t 8) (Acx 1)),
 Lw 8 17] [3,6,7,8])))
def Z1f_B:Cd:=
 .seq (.region [Ll 2 (.mv (.c (.sl .leaf [])))] [0])
 (.seq (.region [Ll 3 (.nilOwn 0 .leaf)] [0,3])
 (.seq (.seq (.region [Lw 6 0,
 Ll 7 (.len false (.t 6)),
 Ll 8 (.mv (Acx 0))] [3,6,7,8])
 (.block 0 (.loop (Z1f_L0))))
 (.seq (.region [Lw 18 3,
 Lw 2 18] [2])
 (.ret))))
def Z1f:Fn:=
 { nparams:=1,nblk:=4,results:=[.tmp 2],body:=Z1f_B }
end Pe

/-
 Functions of the program in the small form,printed by a program.
-/
namespace Pe
open Go
def Zm_B:Cd:=
 .seq (.region [Ll 6 (.box false 0 (.t 1)),
 Ll 10 (.mv (Acx 0))] [0,2,3,4,6])
 (.seq (.seq (.region [Lw 12 0,
 Ipx 13 6,
 Lw 14 2,
 Ll 15 (Ofx F18 [(.t 12),(.t 13),(.t 14)]),
 Lw 11 15] [2,3,4,11])
 (.seq (.region [Lw 16 11,
 Ll 17 (.bin .neq (.t 16) (Acx 0))] [2,3,4,11,17])
 (.cond (.t 17)
 (.seq (.region [Lw 18 11,
 Lw 10 18] [10])
 (.ret))
 (.skip))))
 (.seq (.seq (.region [Lw 19 2,
 Ll 20 (.len false (.t 19)),
 Lw 21 3,
 Ll 22 (.bin .lss (.t 20) (.t 21)),
 Lw 23 22,
 Lx 24 2 23 false,
 Lg 25 (.len false (.t 24)) 23 false,
 Lx 26 4 23 false,
 Lg 27 (.bin .gtr (.t 25) (.t 26)) 23 false,
 Ll 28 (.pick (.t 23) (.c (.bool true)) (.t 27))] [28])
 (.cond (.t 28)
 (.seq (.region [Ll 10 (.mv (Acx 2))] [10])
 (.ret))
 (.skip)))
 (.seq (.region [Ll 10 (.mv (Acx 0))] [10])
 (.ret))))
def Zm:Fn:=
 { nparams:=5,nblk:=1,results:=[.tmp 10],body:=Zm_B }
def Zg_L0:Cd:=
 .seq (.region [Ll 18 (.bin .lss (.t 17) (.t 16))] [1,2,5,6,7,11,12,15,16,17,18])
 (.seq (.cond (.t 18)
 (.skip)
 (.exit 2))
 (.seq (.block 3 (.seq (.region [Ll 19 (.idxA none .leaf (.t 15) (.t 17)),
 Ilx 20 19,
 Lw 9 20] [1,2,5,6,7,9,11,12,15,16,17])
 (.region [Lw 21 7,
 Ll 22 (.load (.st [.leaf,.leaf]) (.t 2)),
 Lw 23 9,
 Lw 24 6,
 Ll 25 (Opx Fe [(.t 22),(.t 23),(.t 24)]),
 Ll 26 (.buildSl false 3 .leaf (.sl .leaf []) 1 [(0,(.t 25))]),
 Ll 27 (.append .leaf 4 24 (.t 21) (.t 26)),
 Lw 7 27] [1,2,5,6,7,11,12,15,16,17])))
 (.region [Ll 28 (.bin .add (.t 17) (Acx 1)),
 Lw 17 28] [1,2,5,6,7,11,12,15,16,17])))
def Zg_L1:Cd:=
 .seq (.region [Ll 13 (.bin .lss (.t 12) (.t 11))] [1,2,5,11,12,13])
 (.seq (.cond (.t 13)
 (.skip)
 (.exit 0))
 (.seq (.block 1 (.seq (.region [Lw 14 12,
 Lw 6 14] [1,2,5,6,11,12])
 (.seq (.region [Ll 7 (.nilOwn 2 .leaf)] [1,2,5,6,7,11,12])
 (.seq (.seq (.region [Lw 15 1,
 Ll 16 (.len false (.t 15)),
 Ll 17 (.mv (Acx 0))] [1,2,5,6,7,11,12,15,16,17])
 (.block 2 (.loop (Zg_L0))))
 (.region [Lw 29 5,
 Lw 30 7,
 Ll 31 (.buildSl true 5 .leaf (.sl .leaf []) 1 [(0,(.t 30))]),
 Ll 32 (.append .leaf 6 24 (.t 29) (.t 31)),
 Lw 5 32] [1,2,5,11,12])))))
 (.region [Ll 33 (.bin .add (.t 12) (Acx 1)),
 Lw 12 33] [1,2,5,11,12])))
def Zg_B:Cd:=
 .seq (.region [Ll 2 (.box false 0 (.t 0)),
 Ll 4 (.mv (.c (.sl .leaf [])))] [1,2])
 (.seq (.region [Ll 5 (.nilOwn 1 .leaf)] [1,2,5])
 (.seq (.seq (.region [Lw 10 1,
 Ll 11 (.len false (.t 10)),
 Ll 12 (.mv (Acx 0))] [1,2,5,11,12])
 (.block 0 (.loop (Zg_L1))))
 (.seq (.region [Lw 34 5,
 Lw 4 34] [4])
 (.ret))))
def Zg:Fn:=
 { nparams:=2,nblk:=7,results:=[.tmp 4],body:=Zg_B }
def Z5_L0:Cd:=
 .seq (.region [Ll 27 (.bin .lss (.t 26) (.t 25))] [9,24,25,26,27])
 (.seq (.cond (.t 27)
 (.skip)
 (.exit 0))
 (.seq (.block 1 (.seq (.region [Ll 28 (.idxA none .leaf (.t 24) (.t 26)),
 Ilx 29 28,
 Lw 11 29] [9,11,24,25,26])
 (.region [Lw 30 9,
 Lw 31 11,
 Ll 32 (Opx Fo [(.t 31)]),
 Ll 33 (.buildSl false 2 .leaf (.sl Sx6 []) 1 [(0,(.t 32))]),
 Ll 34 (.append .leaf 3 24 (.t 30) (.t 33)),
 Lw 9 34] [9,24,25,26])))
 (.region [Ll 35 (.bin .add (.t 26) (Acx 1)),
 Lw 26 35] [9,24,25,26])))
def Z5_B:Cd:=
 .seq (.region [Ll 4 (.box false 0 (.t 1)),
 Ll 6 (.mv (.c (.sl .leaf []))),
 Ll 7 (.mv (Acx 0))] [0,2,4])
 (.seq (.seq (.region [Lw 12 0,
 Ipx 13 4,
 Lw 14 2,
 Ll 15 (Ofx Fm [(.t 12),(.t 13),(.t 14),(Acx 0),(Acx 4)]),
 Lw 8 15] [0,2,4,8])
 (.seq (.region [Lw 16 8,
 Ll 17 (.bin .neq (.t 16) (Acx 0))] [0,2,4,8,17])
 (.cond (.t 17)
 (.seq (.region [Lw 18 8,
 Ll 6 (.mv (.c (.sl .leaf []))),
 Lw 7 18] [6,7])
 (.ret))
 (.skip))))
 (.seq (.region [Ll 9 (.nilOwn 1 .leaf)] [0,2,4,9])
 (.seq (.seq (.region [Lw 19 0,
 Ipx 20 4,
 Ll 21 (Opx Fc [(.t 19),(.t 20)]),
 Lw 22 2,
 Ll 23 (Opx F1f [(.t 22)]),
 Ll 24 (Opx Fg [(.t 21),(.t 23)]),
 Ll 25 (.len false (.t 24)),
 Ll 26 (.mv (Acx 0))] [9,24,25,26])
 (.block 0 (.loop (Z5_L0))))
 (.seq (.region [Lw 36 9,
 Lw 6 36,
 Ll 7 (.mv (Acx 0))] [6,7])
 (.ret)))))
def Z5:Fn:=
 { nparams:=3,nblk:=4,results:=[.tmp 6,.tmp 7],body:=Z5_B }
end Pe
