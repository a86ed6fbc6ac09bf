/-
  A part of the proof: an evaluator for a small form of the code, its soundness, and contracts of functions over it.
-/
import Derived.IntWalk
import Derived.Carry
import Derived.OpenShut
import GoSem.Core.View
import Derived.Test.YtcefdljcmgjpeaaGreatW1
import Derived.Test.YtcefdljcmgjpeaaGreatW2

namespace Pe
open Go
def agx (np:Nat) (ks:List Nat) (s:St):Out×St:=(.normal,⟨s.e.keep ks,tw (s.e.keep ks) np 0 s.h⟩)
@[simp] theorem aij (np:Nat) (ks:List Nat) (e:Env) (h:Heap):agx np ks ⟨e,h⟩=(.normal,⟨e.keep ks,tw (e.keep ks) np 0 h⟩):=rfl
@[simp] theorem akt {O:ap} {np:Nat} {s:St} (is:List Ins) (ks:List Nat):dn O np (.region is ks) s=(jb O np is s).map (agx np ks):=a0r is ks
def aea (e:Env) (i:Ins) (r:V×Heap):St:=⟨(e.kill (i.op.kill e r.1)).putO i.dst r.1,r.2⟩
@[simp] theorem aiq (e:Env) (i:Ins) (v:V) (h:Heap):aea e i (v,h)=⟨(e.kill (i.op.kill e v)).putO i.dst v,h⟩:=rfl
def a9q (O:ap) (np:Nat) (s:St) (i:Ins):Option Bool→Option St
 | some true=>(bc O np s.e s.h i.op).map (aea s.e i)
 | some false=>some ⟨s.e.putO i.dst (.tup []),s.h⟩
 | none=>none
@[simp] theorem aay (O:ap) (np:Nat) (s:St) (i:Ins):oe O np s i=a9q O np s i (i.on s.e):=rfl
section
variable {O:ap} {np:Nat} {e:Env} {h:Heap}
def kNt (x:D):Option D:=if x.isTup then none else some x
def kEl (p:List Nat) (b:Blk):Option (Sh×List D):=b.elems p
def Hg (p:List Nat) (b:Blk):Option D:=b.get p
def slD (off len:Nat):Option (Sh×List D)→Option D
 | some (s,cs)=>if off+len≤cs.length then some (.sl s ((cs.drop off).take len)) else none
 | none=>none
@[simp] theorem akg (x:D):kNt x=if x.isTup then none else some x:=rfl
@[simp] theorem ajs (p:List Nat) (b:Blk):kEl p b=b.elems p:=rfl
@[simp] theorem aha (p:List Nat) (b:Blk):Hg p b=b.get p:=rfl
@[simp] theorem afj (off len:Nat) (s:Sh) (cs:List D):slD off len (some (s,cs))=if off+len≤cs.length then some (.sl s ((cs.drop off).take len)) else none:=rfl
@[simp] theorem aid (v:V):A6 h v=(toD h v).bind kNt:=rfl
@[simp] theorem al4 (x:D):toD h (.d x)=some x:=by simp [toD]
def abw (p:List Nat) (b:Blk):Option (Sh×List D):=b.dels p
@[simp] theorem ahl (p:List Nat) (b:Blk):abw p b=b.dels p:=rfl
@[simp] theorem aii (fr:Bool) (s:Sh) (cs:List D) (p:List Nat):(Blk.sl fr s cs).dels p=(Blk.sl fr s cs).elems p:=rfl
@[simp] theorem ag8 (fr:Bool) (d:D) (p:List Nat):(Blk.box fr d).dels p=(Blk.box fr d).elems p:=rfl
@[simp] theorem aga (fr:Bool) (s:Sh) (idx:List Nat) (rows:List (List D)):(Blk.tb fr s idx rows).dels [0]=(Ev s rows idx).map (Prod.mk .leaf):=rfl
@[simp] theorem ae7 (fr:Bool) (s:Sh) (idx:List Nat) (rows:List (List D)) (r:Nat):(Blk.tb fr s idx rows).dels [r+1]=(rows[r]?).map (Prod.mk s):=rfl
@[simp] theorem akn (i:Nat) (p:List Nat) (off len:Nat) (cap:Option Nat):toD h (.sl i p off len cap)=slD off len ((h[i]?).bind (abw p)):=by
 have:(abw p)=(Blk.dels · p):=rfl
 rw [this];simp only [toD];cases (h[i]?).bind (Blk.dels · p) <;> rfl
@[simp] theorem al7 (x:D):toE h (.d x)=some x:=rfl
@[simp] theorem ak5 (i:Nat) (p:List Nat) (off len:Nat) (cap:Option Nat):toE h (.sl i p off len cap)=slD off len ((h[i]?).bind (kEl p)):=by
 have:(kEl p)=(Blk.elems · p):=rfl
 rw [this];simp only [toE];cases (h[i]?).bind (Blk.elems · p) <;> rfl
@[simp] theorem ai3 (i:Nat) (p:List Nat):toD h (.ptr i p)=((h[i]?).bind (Hg p)).map .ip:=by simp only [toD]; rfl
def kFn (h:Heap) (f:Nat) (caps:List V) (a:List D):Option D:=(q9 h caps).map (.fn f a)
@[simp] theorem ak1 (f:Nat) (caps:List V) (a:List D):kFn h f caps a=(q9 h caps).map (.fn f a):=rfl
@[simp] theorem ajj (f:Nat) (first caps:List V):toD h (.fn f first caps)=(q9 h first).bind (kFn h f caps):=by simp only [toD]; rfl
@[simp] theorem ai9 (vs:List V):toD h (.tup vs)=(q9 h vs).map .tup:=by simp only [toD]
def kDs (h:Heap) (vs:List V) (x:D):Option (List D):=if x.isTup then none else (q9 h vs).map (List.cons x)
@[simp] theorem aau (vs:List V) (x:D):kDs h vs x=if x.isTup then none else (q9 h vs).map (List.cons x):=rfl
@[simp] theorem agv:q9 h []=some []:=by simp [q9]
@[simp] theorem a1o (v:V) (vs:List V):q9 h (v::vs)=(toD h v).bind (kDs h vs):=by simp only [q9]; rfl
def a9l (e:Env) (as:List Arg) (v:V):Option (List V):=(e.args as).map (List.cons v)
@[simp] theorem afn (as:List Arg) (v:V):a9l e as v=(e.args as).map (List.cons v):=rfl
@[simp] theorem afo:e.args []=some []:=rfl
@[simp] theorem adc (a:Arg) (as:List Arg):e.args (a::as)=(e.arg a).bind (a9l e as):=rfl
def kMv (h:Heap) (v:V):V×Heap:=(v,h)
@[simp] theorem aix (v:V):kMv h v=(v,h):=rfl
@[simp] theorem al3 (x:Arg):bc O np e h (.mv x)=(e.arg x).map (kMv h):=rfl
def aa0 (h:Heap):V→Option (V×Heap)
 | .d (.ip y)=>some (.d (.ip y),h)
 | .ptr i p=>some (.ptr i p,h)
 | _=>none
@[simp] theorem aku (y:D):aa0 h (.d (.ip y))=some (.d (.ip y),h):=rfl
@[simp] theorem ake (i:Nat) (p:List Nat):aa0 h (.ptr i p)=some (.ptr i p,h):=rfl
@[simp] theorem ajq (x:Arg):bc O np e h (.chk x)=(e.arg x).bind (aa0 h):=by
 simp only [bc];cases e.arg x with
 | none=>rfl
 | some v=>cases v <;> try rfl
           rename_i d; cases d <;> rfl
def a9r (e:Env) (h:Heap) (a b:Arg):V→Option (V×Heap)
 | .d (.bool t)=>(e.arg (if t then a else b)).map (kMv h)
 | _=>none
@[simp] theorem ahe (a b:Arg) (t:Bool):a9r e h a b (.d (.bool t))=(e.arg (if t then a else b)).map (kMv h):=rfl
@[simp] theorem ai6 (c a b:Arg):bc O np e h (.pick c a b)=(e.arg c).bind (a9r e h a b):=by
 simp only [bc];cases e.arg c with
 | none=>rfl
 | some v=>cases v <;> try rfl
           rename_i d; cases d <;> rfl
def a5y (i:Nat) (d:D) (h:Heap):Option (V×Heap):=(ik h i (.box false d)).map (Prod.mk (.ptr i []))
@[simp] theorem ae6 (i:Nat) (d:D):a5y i d h=(ik h i (.box false d)).map (Prod.mk (.ptr i [])):=rfl
def a32 (np:Nat) (h:Heap) (fz:Bool) (i:Nat) (rs:List Nat) (d:D):Option (V×Heap):=(freezeIf fz h rs).bind (a5y (np+i) d)
@[simp] theorem af7 (fz:Bool) (i:Nat) (rs:List Nat) (d:D):a32 np h fz i rs d=(freezeIf fz h rs).bind (a5y (np+i) d):=rfl
def age (np:Nat) (h:Heap) (fz:Bool) (i:Nat) (v:V):Option (V×Heap):=(A6 h v).bind (a32 np h fz i v.refs)
@[simp] theorem ai0 (fz:Bool) (i:Nat) (v:V):age np h fz i v=(A6 h v).bind (a32 np h fz i v.refs):=rfl
@[simp] theorem ak0 (fz:Bool) (i:Nat) (x:Arg):bc O np e h (.box fz i x)=(e.arg x).bind (age np h fz i):=rfl
def Je (h:Heap) (s:Sh) (x:D):Option (V×Heap):=if Sh.beq x.sh s then some (.d x,h) else none
@[simp] theorem ad0 (s:Sh) (x:D):Je h s x=if Sh.beq x.sh s then some (.d x,h) else none:=rfl
def a5j (h:Heap) (s:Sh):V→Option (V×Heap)
 | .d (.ip x)=>Je h s x
 | .ptr i p=>((h[i]?).bind (Hg p)).bind (Je h s)
 | _=>none
@[simp] theorem ah4 (s:Sh) (x:D):a5j h s (.d (.ip x))=Je h s x:=rfl
@[simp] theorem aig (s:Sh) (i:Nat) (p:List Nat):a5j h s (.ptr i p)=((h[i]?).bind (Hg p)).bind (Je h s):=rfl
@[simp] theorem ah3 (s:Sh) (x:Arg):bc O np e h (.load s x)=(e.arg x).bind (a5j h s):=by
 simp only [bc];cases e.arg x with
 | none=>rfl
 | some v=>cases v <;> try rfl
           rename_i d; cases d <;> rfl
def a7z (h:Heap) (o:BinOp):V→V→Option (V×Heap)
 | .d a,.d b=>(x9 o a b).map fun r=>(.d r,h)
 | _,_=>none
def kD (h:Heap) (r:D):V×Heap:=(.d r,h)
@[simp] theorem al5 (r:D):kD h r=(.d r,h):=rfl
@[simp] theorem aj3 (o:BinOp) (a b:D):a7z h o (.d a) (.d b)=(x9 o a b).map (kD h):=rfl
def Wq (e:Env) (h:Heap) (o:BinOp) (y:Arg) (v:V):Option (V×Heap):=(e.arg y).bind (a7z h o v)
@[simp] theorem ag1 (o:BinOp) (y:Arg) (v:V):Wq e h o y v=(e.arg y).bind (a7z h o v):=rfl
@[simp] theorem ajx (o:BinOp) (x y:Arg):bc O np e h (.bin o x y)=(e.arg x).bind (Wq e h o y):=by
 simp only [bc];cases e.arg x with
 | none=>rfl
 | some v=>
  cases hy:e.arg y with
  | none=>cases v <;> simp [Wq,hy]
  | some w=>cases v <;> cases w <;> simp [Wq,hy,a7z]
theorem two {α:Type} {x y:Option V} {f:V→V→Option α} {g:Option α} (h1:∀v w,x=some v→y=some w→g=f v w) (h2:x=none∨y=none→g=none):g=x.bind fun v=>y.bind (f v):=by
 cases hx:x with
 | none=>exact h2 (.inl hx)
 | some v=>
  cases hy:y with
  | none=>exact h2 (.inr hy)
  | some w=>exact h1 v w hx hy
def kUn (h:Heap) (o:UnOp):V→Option (V×Heap)
 | .d a=>(unD o a).map (kD h)
 | _=>none
@[simp] theorem al1 (o:UnOp) (a:D):kUn h o (.d a)=(unD o a).map (kD h):=rfl
@[simp] theorem akz (o:UnOp) (x:Arg):bc O np e h (.un o x)=(e.arg x).bind (kUn h o):=by
 simp only [bc];cases e.arg x with
 | none=>rfl
 | some v=>cases v <;> rfl
def a9w (h:Heap) (k:IntKind):V→Option (V×Heap)
 | .d (.int _ n)=>some (.d (.int k (k.wrap n)),h)
 | _=>none
@[simp] theorem ahs (k q:IntKind) (n:Int):a9w h k (.d (.int q n))=some (.d (.int k (k.wrap n)),h):=rfl
@[simp] theorem ahn (k:IntKind) (x:Arg):bc O np e h (.conv k x)=(e.arg x).bind (a9w h k):=by
 simp only [bc];cases e.arg x with
 | none=>rfl
 | some v=>cases v <;> try rfl
           rename_i d; cases d <;> rfl
def agj (h:Heap) (ss:List Sh) (j:Nat):V→Option (V×Heap)
 | .d (.st ts cs)=>if Sh.beqs ts ss then (cs[j]?).map (kD h) else none
 | _=>none
@[simp] theorem aiw (ss ts:List Sh) (j:Nat) (cs:List D):agj h ss j (.d (.st ts cs))=if Sh.beqs ts ss then (cs[j]?).map (kD h) else none:=rfl
@[simp] theorem aj9 (ss:List Sh) (x:Arg) (j:Nat):bc O np e h (.fld ss x j)=(e.arg x).bind (agj h ss j):=by
 simp only [bc];cases e.arg x with
 | none=>rfl
 | some v=>cases v <;> try rfl
           rename_i d; cases d <;> rfl
def kIp (h:Heap) (c:D):V×Heap:=(.d (.ip c),h)
@[simp] theorem aj2 (c:D):kIp h c=(.d (.ip c),h):=rfl
def W0 (h:Heap) (ss:List Sh) (i:Nat) (p:List Nat) (y:D):Option (V×Heap):=if Sh.beq y.sh (.st ss) then some (.ptr i p,h) else none
@[simp] theorem acs (ss:List Sh) (i:Nat) (p:List Nat) (y:D):W0 h ss i p y=if Sh.beq y.sh (.st ss) then some (.ptr i p,h) else none:=rfl
def a3d (h:Heap) (ss:List Sh) (j:Nat):V→Option (V×Heap)
 | .ptr i p=>((h[i]?).bind (Hg p)).bind (W0 h ss i (p++[j]))
 | .d (.ip (.st ts cs))=>if Sh.beqs ts ss then (cs[j]?).map (kIp h) else none
 | _=>none
@[simp] theorem aia (ss:List Sh) (j i:Nat) (p:List Nat):a3d h ss j (.ptr i p)=((h[i]?).bind (Hg p)).bind (W0 h ss i (p++[j])):=rfl
@[simp] theorem ah0 (ss ts:List Sh) (j:Nat) (cs:List D):a3d h ss j (.d (.ip (.st ts cs)))=if Sh.beqs ts ss then (cs[j]?).map (kIp h) else none:=rfl
@[simp] theorem ais (ss:List Sh) (x:Arg) (j:Nat):bc O np e h (.fldA ss x j)=(e.arg x).bind (a3d h ss j):=by
 simp only [bc];cases e.arg x with
 | none=>rfl
 | some v=>cases v <;> try rfl
           rename_i d; cases d <;> try rfl
           rename_i d; cases d <;> rfl
def ab1 (h:Heap) (j:Nat):V→Option (V×Heap)
 | .d (.tup vs)=>(vs[j]?).map (kD h)
 | .tup vs=>(vs[j]?).map (kMv h)
 | _=>none
@[simp] theorem aji (j:Nat) (vs:List D):ab1 h j (.d (.tup vs))=(vs[j]?).map (kD h):=rfl
@[simp] theorem akr (j:Nat) (vs:List V):ab1 h j (.tup vs)=(vs[j]?).map (kMv h):=rfl
@[simp] theorem aks (x:Arg) (j:Nat):bc O np e h (.ext x j)=(e.arg x).bind (ab1 h j):=by
 simp only [bc];cases e.arg x with
 | none=>rfl
 | some v=>cases v <;> try rfl
           rename_i d; cases d <;> rfl
def a7p (h:Heap):Bool→V→Option (V×Heap)
 | false,.d (.sl _ cs)=>some (.d (.int .i64 cs.length),h)
 | false,.sl _ _ _ n _=>some (.d (.int .i64 n),h)
 | true,.d (.str b)=>some (.d (.int .i64 b.size),h)
 | _,_=>none
@[simp] theorem ak8 (s:Sh) (cs:List D):a7p h false (.d (.sl s cs))=some (.d (.int .i64 cs.length),h):=rfl
@[simp] theorem akh (i:Nat) (p:List Nat) (off n:Nat) (cap:Option Nat):a7p h false (.sl i p off n cap)=some (.d (.int .i64 n),h):=rfl
@[simp] theorem ajh (b:ByteArray):a7p h true (.d (.str b))=some (.d (.int .i64 b.size),h):=rfl
@[simp] theorem ak6 (str:Bool) (x:Arg):bc O np e h (.len str x)=(e.arg x).bind (a7p h str):=by
 cases str <;> simp only [bc]
 ·cases e.arg x with
  | none=>rfl
  | some v=>cases v <;> try rfl
            rename_i d; cases d <;> rfl
 ·cases e.arg x with
  | none=>rfl
  | some v=>cases v <;> try rfl
            rename_i d; cases d <;> rfl
def Ei (O:ap) (np:Nat) (h:Heap) (m:Mode) (news:List Nat) (g:Nat×List V×List V) (vs:List V):Option (V×Heap):=
 match m with
 | .heap=>oq O np news h g.1 (g.2.1++vs++g.2.2)
 | _=>kc O m h g.1 (g.2.1++vs++g.2.2)
def Q0 (O:ap) (np:Nat) (e:Env) (h:Heap) (m:Mode) (news:List Nat) (as:List Arg) (g:Nat×List V×List V):Option (V×Heap):=(e.args as).bind (Ei O np h m news g)
@[simp] theorem adj (m:Mode) (news:List Nat) (as:List Arg) (g:Nat×List V×List V):Q0 O np e h m news as g=(e.args as).bind (Ei O np h m news g):=rfl
def Uo (O:ap) (np:Nat) (e:Env) (h:Heap) (m:Mode) (news:List Nat) (as:List Arg) (fv:V):Option (V×Heap):=(callee fv).bind (Q0 O np e h m news as)
@[simp] theorem acz (m:Mode) (news:List Nat) (as:List Arg) (fv:V):Uo O np e h m news as fv=(callee fv).bind (Q0 O np e h m news as):=rfl
@[simp] theorem aip (m:Mode) (news:List Nat) (f:Arg) (as:List Arg):bc O np e h (.call m news f as)=(e.arg f).bind (Uo O np e h m news as):=by
 simp only [bc];cases e.arg f with
 | none=>rfl
 | some fv=>
  simp only [ae,Uo];cases callee fv with
  | none=>rfl
  | some g=>
   simp only [ae,Q0];cases e.args as with
   | none=>rfl
   | some vs=>cases m <;> rfl
def a1p (m:Mode) (h:Heap) (rs:List Nat) (x:D):Option (V×Heap):=
 match m with
 | .flat=>if x.flat then some (.d x,h) else none
 | .plain=>if rs.isEmpty then some (.d x,h) else none
 | _=>some (.d x,freeze h rs)
@[simp] theorem Gn (rs:List Nat) (x:D):a1p .flat h rs x=if x.flat then some (.d x,h) else none:=rfl
@[simp] theorem abl (rs:List Nat) (x:D):a1p .plain h rs x=if rs.isEmpty then some (.d x,h) else none:=rfl
@[simp] theorem ado (rs:List Nat) (x:D):a1p .data h rs x=some (.d x,freeze h rs):=rfl
def ac1 (m:Mode) (h:Heap) (rs:List Nat):Ans→Option (V×Heap)
 | (v,_,nb)=>(toD nb v).bind (a1p m h rs)
@[simp] theorem aie (m:Mode) (rs:List Nat) (v:V) (bs nb:Heap):ac1 m h rs (v,bs,nb)=(toD nb v).bind (a1p m h rs):=rfl
def Uh (O:ap) (m:Mode) (h:Heap) (f:Nat) (rs:List Nat) (ds:List D):Option (V×Heap):=(O f (ds.map .d) []).bind (ac1 m h rs)
def aas:Ans→Option D
 | (v,_,nb)=>toD nb v
@[simp] theorem aib (v:V) (bs nb:Heap):aas (v,bs,nb)=toD nb v:=rfl
def ask (O:ap) (f:Nat) (ds:List D):Option D:=(O f (ds.map .d) []).bind aas
@[simp] theorem Jj (m:Mode) (f:Nat) (rs:List Nat) (ds:List D):Uh O m h f rs ds=(ask O f ds).bind (a1p m h rs):=by
 unfold Uh ask;cases O f (ds.map .d) [] with
 | none=>rfl
 | some r=>obtain ⟨v,bs,nb⟩:=r; rfl
theorem Az (m:Mode) (f:Nat) (vs:List V):kc O m h f vs=(q9 h vs).bind (Uh O m h f (V.refss vs)):=by
 unfold kc;cases q9 h vs with
 | none=>rfl
 | some ds=>
  simp only [ae,Uh];cases O f (ds.map .d) [] with
  | none=>rfl
  | some r=>
   obtain ⟨v,bs,nb⟩:=r;simp only [ae,ac1];cases toD nb v with
   | none=>rfl
   | some x=>cases m <;> rfl
@[simp] theorem Cq (news:List Nat) (f:Nat) (a c vs:List V):Ei O np h .flat news (f,a,c) vs=(q9 h (a++vs++c)).bind (Uh O .flat h f (V.refss (a++vs++c))):=by
 show kc O .flat h f (a++vs++c)=_;exact Az _ _ _
@[simp] theorem a9x (news:List Nat) (f:Nat) (a c vs:List V):Ei O np h .plain news (f,a,c) vs=(q9 h (a++vs++c)).bind (Uh O .plain h f (V.refss (a++vs++c))):=by
 show kc O .plain h f (a++vs++c)=_;exact Az _ _ _
@[simp] theorem aa7 (news:List Nat) (f:Nat) (a c vs:List V):Ei O np h .data news (f,a,c) vs=(q9 h (a++vs++c)).bind (Uh O .data h f (V.refss (a++vs++c))):=by
 show kc O .data h f (a++vs++c)=_;exact Az _ _ _
@[simp] theorem ab2 (news:List Nat) (f:Nat) (a c vs:List V):Ei O np h .heap news (f,a,c) vs=oq O np news h f (a++vs++c):=rfl
def aai (h:Heap) (i:Nat) (b:Blk):V×Heap:=(.tup [],h.set i b)
@[simp] theorem ahh (i:Nat) (b:Blk):aai h i b=(.tup [],h.set i b):=rfl
def ab4 (h:Heap) (i:Nat) (p:List Nat) (d:D) (b:Blk):Option (V×Heap):=(b.set p d).map (aai h i)
@[simp] theorem ah2 (i:Nat) (p:List Nat) (d:D) (b:Blk):ab4 h i p d b=(b.set p d).map (aai h i):=rfl
def Ni (s:Sh) (d:D) (h:Heap):V→Option (V×Heap)
 | .ptr i p=>if Sh.beq d.sh s then (h[i]?).bind (ab4 h i p d) else none
 | _=>none
@[simp] theorem ad8 (s:Sh) (d:D) (i:Nat) (p:List Nat):Ni s d h (.ptr i p)=if Sh.beq d.sh s then (h[i]?).bind (ab4 h i p d) else none:=rfl
def I4 (e:Env) (s:Sh) (p:Arg) (d:D) (h:Heap):Option (V×Heap):=(e.arg p).bind (Ni s d h)
@[simp] theorem aaa (s:Sh) (p:Arg) (d:D):I4 e s p d h=(e.arg p).bind (Ni s d h):=rfl
def I8 (e:Env) (h:Heap) (fz:Bool) (s:Sh) (p:Arg) (rs:List Nat) (d:D):Option (V×Heap):=(freezeIf fz h rs).bind (I4 e s p d)
@[simp] theorem ab6 (fz:Bool) (s:Sh) (p:Arg) (rs:List Nat) (d:D):I8 e h fz s p rs d=(freezeIf fz h rs).bind (I4 e s p d):=rfl
def Vq (e:Env) (h:Heap) (fz:Bool) (s:Sh) (p:Arg) (v:V):Option (V×Heap):=(A6 h v).bind (I8 e h fz s p v.refs)
@[simp] theorem acr (fz:Bool) (s:Sh) (p:Arg) (v:V):Vq e h fz s p v=(A6 h v).bind (I8 e h fz s p v.refs):=rfl
@[simp] theorem ag0 (fz:Bool) (s:Sh) (p x:Arg):bc O np e h (.store fz s p x)=(e.arg x).bind (Vq e h fz s p):=by
 simp only [bc];cases e.arg x with
 | none=>rfl
 | some v=>
  simp only [ae,Vq];cases A6 h v with
  | none=>rfl
  | some d=>
   simp only [ae,I8];cases freezeIf fz h v.refs with
   | none=>rfl
   | some h'=>
    simp only [ae,I4];cases e.arg p with
    | none=>rfl
    | some w=>cases w <;> rfl
def Wd (h:Heap) (s:Sh) (n:Nat) (i:Nat) (_p:List Nat) (k:Nat) (pp:List Nat) (q:Sh×List D):Option (V×Heap):=if Sh.beq q.1 s∧k<n then some (.ptr i pp,h) else none
@[simp] theorem acx (s:Sh) (n i:Nat) (p:List Nat) (k:Nat) (pp:List Nat) (t:Sh) (cs:List D):Wd h s n i p k pp (t,cs)=if Sh.beq t s∧k<n then some (.ptr i pp,h) else none:=rfl
def Y9 (h:Heap) (s:Sh):V→Nat→Option (V×Heap)
 | .sl i p off n _,k=>((h[i]?).bind (kEl p)).bind (Wd h s n i p k (p++[off+k]))
 | .d (.sl t cs),k=>if Sh.beq t s then (cs[k]?).map (kIp h) else none
 | _,_=>none
@[simp] theorem ai8 (s:Sh) (i:Nat) (p:List Nat) (off n:Nat) (cap:Option Nat) (k:Nat):Y9 h s (.sl i p off n cap) k=((h[i]?).bind (kEl p)).bind (Wd h s n i p k (p++[off+k])):=rfl
@[simp] theorem ahw (s t:Sh) (cs:List D) (k:Nat):Y9 h s (.d (.sl t cs)) k=if Sh.beq t s then (cs[k]?).map (kIp h) else none:=rfl
def Vi (e:Env) (h:Heap) (s:Sh) (j:Arg) (v:V):Option (V×Heap):=((e.arg j).bind V.nat?).bind (Y9 h s v)
@[simp] theorem ade (s:Sh) (j:Arg) (v:V):Vi e h s j v=((e.arg j).bind V.nat?).bind (Y9 h s v):=rfl
@[simp] theorem ahj (s:Sh) (x j:Arg):bc O np e h (.idxA none s x j)=(e.arg x).bind (Vi e h s j):=by
 simp only [bc];cases e.arg x with
 | none=>rfl
 | some v=>
  simp only [ae,Vi];cases (e.arg j).bind V.nat? with
  | none=>cases v <;> try rfl
          rename_i d; cases d <;> rfl
  | some k=>cases v <;> try rfl
            rename_i d; cases d <;> rfl
@[simp] theorem a86 (s:St):jb O np [] s=some s:=rfl
@[simp] theorem a6u (i:Ins) (is:List Ins) (s:St):jb O np (i::is) s=(ru O np s i).bind (jb O np is):=rfl
@[simp] theorem adf (i:Nat) (s:Sh):bc O np e h (.nilOwn i s)=(ik h (np+i) (.sl false s [])).map (Prod.mk (.sl (np+i) [] 0 0 (some 0))):=rfl
@[simp] theorem ai4:bc O np e h .fail=none:=rfl
def Tv (h:Heap) (f:Nat) (us vs:List V):V×Heap:=(.fn f us vs,h)
@[simp] theorem acu (f:Nat) (us vs:List V):Tv h f us vs=(.fn f us vs,h):=rfl
def a9h (e:Env) (h:Heap) (f:Nat) (cs:List Arg) (us:List V):Option (V×Heap):=(e.args cs).map (Tv h f us)
@[simp] theorem aex (f:Nat) (cs:List Arg) (us:List V):a9h e h f cs us=(e.args cs).map (Tv h f us):=rfl
@[simp] theorem ai7 (f:Nat) (as cs:List Arg):bc O np e h (.mkFn f as cs)=(e.args as).bind (a9h e h f cs):=rfl
def a4t (h:Heap):V→V→Option (V×Heap)
 | .d (.int k a),.d (.int k' b)=>if k=k' then some (.d (.int k (if a<b then b else a)),h) else none
 | _,_=>none
@[simp] theorem ah9 (k k':IntKind) (a b:Int):a4t h (.d (.int k a)) (.d (.int k' b))=if k=k' then some (.d (.int k (if a<b then b else a)),h) else none:=rfl
def aa2 (e:Env) (h:Heap) (y:Arg) (v:V):Option (V×Heap):=(e.arg y).bind (a4t h v)
@[simp] theorem ail (y:Arg) (v:V):aa2 e h y v=(e.arg y).bind (a4t h v):=rfl
@[simp] theorem aik (x y:Arg):bc O np e h (.maxI x y)=(e.arg x).bind (aa2 e h y):=by
 simp only [bc];cases e.arg x with
 | none=>rfl
 | some v=>
  simp only [ae,aa2];cases e.arg y with
  | none=>cases v <;> try rfl
          rename_i d; cases d <;> rfl
  | some w=>cases v <;> try rfl
            rename_i d; cases d <;> try rfl
            cases w <;> try rfl
            rename_i d; cases d <;> rfl
def a43 (h:Heap):V→V→Option (V×Heap)
 | .d (.int k a),.d (.int k' b)=>if k=k' then some (.d (.int k (if b<a then b else a)),h) else none
 | _,_=>none
@[simp] theorem aih (k k':IntKind) (a b:Int):a43 h (.d (.int k a)) (.d (.int k' b))=if k=k' then some (.d (.int k (if b<a then b else a)),h) else none:=rfl
def ac7 (e:Env) (h:Heap) (y:Arg) (v:V):Option (V×Heap):=(e.arg y).bind (a43 h v)
@[simp] theorem ai1 (y:Arg) (v:V):ac7 e h y v=(e.arg y).bind (a43 h v):=rfl
@[simp] theorem ah1 (x y:Arg):bc O np e h (.minI x y)=(e.arg x).bind (ac7 e h y):=by
 simp only [bc];cases e.arg x with
 | none=>rfl
 | some v=>
  simp only [ae,ac7];cases e.arg y with
  | none=>cases v <;> try rfl
          rename_i d; cases d <;> rfl
  | some w=>cases v <;> try rfl
            rename_i d; cases d <;> try rfl
            cases w <;> try rfl
            rename_i d; cases d <;> rfl
def a3q (h:Heap) (neg:Bool):V→Option (V×Heap)
 | .d (.sl _ (_::_))=>some (.d (.bool neg),h)
 | .sl _ _ _ (_+1) _=>some (.d (.bool neg),h)
 | _=>none
@[simp] theorem aif (neg:Bool) (s:Sh) (c:D) (cs:List D):a3q h neg (.d (.sl s (c::cs)))=some (.d (.bool neg),h):=rfl
@[simp] theorem ahr (neg:Bool) (i:Nat) (p:List Nat) (off n:Nat) (cap:Option Nat):a3q h neg (.sl i p off (n+1) cap)=some (.d (.bool neg),h):=rfl
def Ui (np:Nat) (h:Heap) (i:Nat) (s:Sh) (z:D) (bytes n m:Nat):Option (V×Heap):=
 if n≤m∧m*bytes≤1099511627776 then (ik h (np+i) (.sl false s (List.replicate n z))).map (Prod.mk (.sl (np+i) [] 0 n (if n=m then some n else none))) else none
@[simp] theorem ad1 (i:Nat) (s:Sh) (z:D) (bytes n m:Nat):Ui np h i s z bytes n m =
 if n≤m∧m*bytes≤1099511627776 then (ik h (np+i) (.sl false s (List.replicate n z))).map (Prod.mk (.sl (np+i) [] 0 n (if n=m then some n else none))) else none:=rfl
def a3n (np:Nat) (e:Env) (h:Heap) (i:Nat) (s:Sh) (z:D) (bytes:Nat) (c:Arg) (n:Nat):Option (V×Heap):=((e.arg c).bind V.nat?).bind (Ui np h i s z bytes n)
@[simp] theorem aeo (i:Nat) (s:Sh) (z:D) (bytes:Nat) (c:Arg) (n:Nat):a3n np e h i s z bytes c n=((e.arg c).bind V.nat?).bind (Ui np h i s z bytes n):=rfl
@[simp] theorem ah8 (i:Nat) (s:Sh) (z:D) (bytes:Nat) (l c:Arg):bc O np e h (.mkSl i s z bytes l c)=((e.arg l).bind V.nat?).bind (a3n np e h i s z bytes c):=by
 simp only [bc];cases (e.arg l).bind V.nat? with
 | none=>rfl
 | some n=>
  simp only [ae,a3n];cases (e.arg c).bind V.nat? with
  | none=>rfl
  | some m=>rfl
@[simp] theorem ah7 (neg:Bool) (x:Arg):bc O np e h (.nilq neg x)=(e.arg x).bind (a3q h neg):=by
 simp only [bc];cases e.arg x with
 | none=>rfl
 | some v=>
  cases v with
  | d d=>cases d <;> try rfl
         rename_i s cs; cases cs <;> rfl
  | sl i p off n cap=>cases n <;> rfl
  | _=>rfl
def a3j (h:Heap):D→Option (V×Heap)
 | .sl .leaf cs=>(zb cs).map fun bs=>(.d (.str ⟨bs.toArray⟩),h)
 | _=>none
@[simp] theorem ahd (cs:List D):a3j h (.sl .leaf cs)=(zb cs).map fun bs=>(.d (.str ⟨bs.toArray⟩),h):=rfl
def adv (h:Heap) (v:V):Option (V×Heap):=(toE h v).bind (a3j h)
@[simp] theorem ai2 (v:V):adv h v=(toE h v).bind (a3j h):=rfl
@[simp] theorem aew (x:Arg):bc O np e h (.toStr x)=(e.arg x).bind (adv h):=rfl
def Np (h:Heap) (s:Sh) (z:D) (j off n:Nat):Blk→Option (V×Heap)
 | .sl false t' cs=>if Sh.beq t' s∧off+n≤cs.length then some (.tup [],h.set j (.sl false t' (cs.take off++List.replicate n z++cs.drop (off+n)))) else none
 | _=>none
@[simp] theorem acf (s:Sh) (z:D) (j off n:Nat) (t':Sh) (cs:List D):Np h s z j off n (.sl false t' cs)=if Sh.beq t' s∧off+n≤cs.length then some (.tup [],h.set j (.sl false t' (cs.take off++List.replicate n z++cs.drop (off+n)))) else none:=rfl
def V7 (h:Heap) (s:Sh) (z:D):V→Option (V×Heap)
 | .sl j [] off n _=>(h[j]?).bind (Np h s z j off n)
 | _=>none
@[simp] theorem agc (s:Sh) (z:D) (j off n:Nat) (cap:Option Nat):V7 h s z (.sl j [] off n cap)=(h[j]?).bind (Np h s z j off n):=rfl
@[simp] theorem aei (s:Sh) (z:D) (x:Arg):bc O np e h (.clear s z x)=(e.arg x).bind (V7 h s z):=by
 simp only [bc];cases e.arg x with
 | none=>rfl
 | some v=>
  cases v <;> try rfl
  rename_i j p off n cap
  cases p <;> try rfl
  simp only [ae,V7];cases h[j]? with
  | none=>rfl
  | some b=>
   cases b <;> try rfl
   rename_i fr t cs
   cases fr <;> rfl
def a6j (np:Nat) (h:Heap) (i j n:Nat):Blk→Option (V×Heap)
 | .sl false s cs=>if n=cs.length∧0<n∧np≤j then (ik (h.set j (Blk.toGone (.sl false s cs))) (np+i) (.tb false s [0] [cs])).map (Prod.mk (.sl (np+i) [0] 0 1 (some 1))) else none
 | _=>none
@[simp] theorem ah6 (i j n:Nat) (s:Sh) (cs:List D):a6j np h i j n (.sl false s cs)=if n=cs.length∧0<n∧np≤j then (ik (h.set j (Blk.toGone (.sl false s cs))) (np+i) (.tb false s [0] [cs])).map (Prod.mk (.sl (np+i) [0] 0 1 (some 1))) else none:=rfl
def aat (np:Nat) (h:Heap) (i:Nat):V→Option (V×Heap)
 | .sl j [] 0 n _=>(h[j]?).bind (a6j np h i j n)
 | _=>none
@[simp] theorem ajk (i j n:Nat) (cap:Option Nat):aat np h i (.sl j [] 0 n cap)=(h[j]?).bind (a6j np h i j n):=rfl
@[simp] theorem afz (i:Nat) (x:Arg):bc O np e h (.tbOne i x)=(e.arg x).bind (aat np h i):=by
 simp only [bc];cases e.arg x with
 | none=>rfl
 | some v=>
  cases v <;> try rfl
  rename_i j p off n cap
  cases p <;> try rfl
  cases off <;> try rfl
  simp only [ae,aat];cases h[j]? with
  | none=>rfl
  | some b=>
   cases b <;> try rfl
   rename_i fr t cs
   cases fr <;> rfl
def V8 (np:Nat) (h:Heap) (bytes j n k:Nat) (s:Sh) (cs:List D) (q:List Nat×List (List D)):Option (V×Heap):=
 if n=q.1.length∧j≠k∧np≤j∧np≤k∧(n+1)*bytes≤1099511627776 then
  some (.sl j [0] 0 (n+1) none,(h.set k (Blk.toGone (.tb false s [0] [cs]))).set j (.tb false s (q.1++[q.2.length]) (q.2++[cs]))) else none
@[simp] theorem adm (bytes j n k:Nat) (s:Sh) (cs:List D) (idx:List Nat) (rows:List (List D)):V8 np h bytes j n k s cs (idx,rows) =
 if n=idx.length∧j≠k∧np≤j∧np≤k∧(n+1)*bytes≤1099511627776 then
  some (.sl j [0] 0 (n+1) none,(h.set k (Blk.toGone (.tb false s [0] [cs]))).set j (.tb false s (idx++[rows.length]) (rows++[cs]))) else none:=rfl
def Nw (np:Nat) (h:Heap) (bytes j:Nat) (p:List Nat) (n:Nat) (cap:Option Nat) (k:Nat) (B:Blk):Blk→Option (V×Heap)
 | .tb false s [0] [cs]=>(Blk.asTb s p cap B).bind (V8 np h bytes j n k s cs)
 | _=>none
@[simp] theorem aey (bytes j:Nat) (p:List Nat) (n:Nat) (cap:Option Nat) (k:Nat) (B:Blk) (s:Sh) (cs:List D):Nw np h bytes j p n cap k B (.tb false s [0] [cs])=(Blk.asTb s p cap B).bind (V8 np h bytes j n k s cs):=rfl
@[simp] theorem aep (s:Sh):Blk.asTb s [] (some 0) (.sl false .leaf [])=some ([],[]):=rfl
@[simp] theorem ahc (s s':Sh) (cap:Option Nat) (idx:List Nat) (rows:List (List D)):Blk.asTb s [0] cap (.tb false s' idx rows)=if Sh.beq s' s then some (idx,rows) else none:=rfl
def On (np:Nat) (h:Heap) (bytes j:Nat) (p:List Nat) (n:Nat) (cap:Option Nat) (k:Nat) (B:Blk):Option (V×Heap):=(h[k]?).bind (Nw np h bytes j p n cap k B)
@[simp] theorem ad7 (bytes j:Nat) (p:List Nat) (n:Nat) (cap:Option Nat) (k:Nat) (B:Blk):On np h bytes j p n cap k B=(h[k]?).bind (Nw np h bytes j p n cap k B):=rfl
def Y5 (np:Nat) (h:Heap) (bytes:Nat):V→V→Option (V×Heap)
 | .sl j p 0 n cap,.sl k [0] 0 1 _=>(h[j]?).bind (On np h bytes j p n cap k)
 | _,_=>none
@[simp] theorem aic (bytes j:Nat) (p:List Nat) (n:Nat) (cap:Option Nat) (k:Nat) (cap':Option Nat):Y5 np h bytes (.sl j p 0 n cap) (.sl k [0] 0 1 cap')=(h[j]?).bind (On np h bytes j p n cap k):=rfl
def V1 (np:Nat) (e:Env) (h:Heap) (bytes:Nat) (y:Arg) (v:V):Option (V×Heap):=(e.arg y).bind (Y5 np h bytes v)
@[simp] theorem ad3 (bytes:Nat) (y:Arg) (v:V):V1 np e h bytes y v=(e.arg y).bind (Y5 np h bytes v):=rfl
@[simp] theorem aez (bytes:Nat) (x y:Arg):bc O np e h (.tbApp bytes x y)=(e.arg x).bind (V1 np e h bytes y):=by
 simp only [bc];cases e.arg x with
 | none=>rfl
 | some v=>
  simp only [ae,V1];cases e.arg y with
  | none=>split <;> simp_all
  | some w=>
   simp only [ae];unfold Y5
   split
   ·rename_i j p n cap k cap' h1 h2
    simp only [a8] at h1 h2;subst h1; subst h2;simp only;cases hj:h[j]? with
    | none=>rfl
    | some B=>
     simp only [ae,On];cases hk:h[k]? with
     | none=>rfl
     | some B2=>
      simp only [ae];unfold Nw
      split
      ·rename_i s cs h1 h2
       simp only [a8] at h1 h2;subst h1; subst h2;rfl
      ·rename_i hne
       split
       ·exact absurd rfl (hne _ _ _ rfl)
       ·rfl
   ·rename_i hne
    split
    ·rename_i h1 h2
     exact absurd rfl (hne _ _ _ _ _ _ rfl)
    ·rfl
def a30 (h:Heap) (i off n k:Nat):Blk→Option (V×Heap)
 | .tb _ _ idx _=>if k<n∧off+n≤idx.length then some (.ptr i [0,off+k],h) else none
 | _=>none
@[simp] theorem ahf (i off n k:Nat) (fr:Bool) (s:Sh) (idx:List Nat) (rows:List (List D)):a30 h i off n k (.tb fr s idx rows)=if k<n∧off+n≤idx.length then some (.ptr i [0,off+k],h) else none:=rfl
def Xe (h:Heap):V→Nat→Option (V×Heap)
 | .sl i [0] off n _,k=>(h[i]?).bind (a30 h i off n k)
 | _,_=>none
@[simp] theorem ahi (i off n:Nat) (cap:Option Nat) (k:Nat):Xe h (.sl i [0] off n cap) k=(h[i]?).bind (a30 h i off n k):=rfl
def abf (e:Env) (h:Heap) (j:Arg) (v:V):Option (V×Heap):=((e.arg j).bind V.nat?).bind (Xe h v)
@[simp] theorem air (j:Arg) (v:V):abf e h j v=((e.arg j).bind V.nat?).bind (Xe h v):=rfl
@[simp] theorem ajn (x j:Arg):bc O np e h (.tbA x j)=(e.arg x).bind (abf e h j):=by
 simp only [bc];cases e.arg x with
 | none=>rfl
 | some v=>
  simp only [ae,abf];cases (e.arg j).bind V.nat? with
  | none=>split <;> simp_all
  | some k=>
   simp only [ae];unfold Xe
   split
   ·rename_i i off n cap k' h1 h2
    simp only [a8] at h1 h2;subst h1; subst h2;simp only;cases h[i]? with
    | none=>rfl
    | some b=>cases b <;> rfl
   ·rename_i hne
    split
    ·exact absurd rfl (hne _ _ _ _ _ rfl)
    ·rfl
def a25 (h:Heap) (i r:Nat) (cs:List D):V×Heap:=(.sl i [r+1] 0 cs.length none,h)
@[simp] theorem aed (i r:Nat) (cs:List D):a25 h i r cs=(.sl i [r+1] 0 cs.length none,h):=rfl
def a3x (h:Heap) (i:Nat) (rows:List (List D)) (r:Nat):Option (V×Heap):=(rows[r]?).map (a25 h i r)
@[simp] theorem agh (i:Nat) (rows:List (List D)) (r:Nat):a3x h i rows r=(rows[r]?).map (a25 h i r):=rfl
def a1z (h:Heap) (i k:Nat):Blk→Option (V×Heap)
 | .tb _ _ idx rows=>(idx[k]?).bind (a3x h i rows)
 | _=>none
@[simp] theorem ah5 (i k:Nat) (fr:Bool) (s:Sh) (idx:List Nat) (rows:List (List D)):a1z h i k (.tb fr s idx rows)=(idx[k]?).bind (a3x h i rows):=rfl
def aag (h:Heap):V→Option (V×Heap)
 | .ptr i [0,k]=>(h[i]?).bind (a1z h i k)
 | _=>none
@[simp] theorem aiz (i k:Nat):aag h (.ptr i [0,k])=(h[i]?).bind (a1z h i k):=rfl
@[simp] theorem acn (x:Arg):bc O np e h (.tbLoad x)=(e.arg x).bind (aag h):=by
 simp only [bc];cases e.arg x with
 | none=>rfl
 | some v=>
  simp only [ae];unfold aag
  split
  ·rename_i i k h1
   simp only [a8] at h1;subst h1;simp only;cases h[i]? with
   | none=>rfl
   | some b=>cases b <;> rfl
  ·rename_i hne
   split
   ·exact absurd rfl (hne _ _)
   ·rfl
def a1y (h:Heap) (i k i' r n:Nat):Blk→Option (V×Heap)
 | .tb false s idx rows=>if i=i'∧k<idx.length∧0<n∧(rows[r]?).map List.length=some n then some (.tup [],h.set i (.tb false s (idx.set k r) rows)) else none
 | _=>none
@[simp] theorem ahg (i k i' r n:Nat) (s:Sh) (idx:List Nat) (rows:List (List D)):a1y h i k i' r n (.tb false s idx rows) =
 if i=i'∧k<idx.length∧0<n∧(rows[r]?).map List.length=some n then some (.tup [],h.set i (.tb false s (idx.set k r) rows)) else none:=rfl
def a74 (h:Heap):V→V→Option (V×Heap)
 | .ptr i [0,k],.sl i' [r+1] 0 n _=>(h[i]?).bind (a1y h i k i' r n)
 | _,_=>none
@[simp] theorem aiv (i k i' r n:Nat) (cap:Option Nat):a74 h (.ptr i [0,k]) (.sl i' [r+1] 0 n cap)=(h[i]?).bind (a1y h i k i' r n):=rfl
def a28 (e:Env) (h:Heap) (y:Arg) (v:V):Option (V×Heap):=(e.arg y).bind (a74 h v)
@[simp] theorem aef (y:Arg) (v:V):a28 e h y v=(e.arg y).bind (a74 h v):=rfl
@[simp] theorem abg (x y:Arg):bc O np e h (.tbStore x y)=(e.arg x).bind (a28 e h y):=by
 simp only [bc];cases e.arg x with
 | none=>rfl
 | some v=>
  simp only [ae,a28];cases e.arg y with
  | none=>split <;> simp_all
  | some w=>
   simp only [ae];unfold a74
   split
   ·rename_i i k i' r n cap h1 h2
    simp only [a8] at h1 h2;subst h1; subst h2;simp only;cases h[i]? with
    | none=>rfl
    | some b=>
     cases b <;> try rfl
     rename_i fr s idx rows
     cases fr <;> rfl
   ·rename_i hne
    split
    ·exact absurd rfl (hne _ _ _ _ _ _ rfl)
    ·rfl
@[simp] theorem ael (i:Nat):bc O np e h (.mkMap i)=(ik h (np+i) (.mp false [])).map (Prod.mk (.mp (np+i))):=rfl
def V0 (h:Heap) (k:ByteArray):Blk→Option (V×Heap)
 | .mp _ es=>some (.d (.int .i64 ((Ak k es).getD 0)),h)
 | _=>none
@[simp] theorem afw (k:ByteArray) (fr:Bool) (es:List (ByteArray×Int)):V0 h k (.mp fr es)=some (.d (.int .i64 ((Ak k es).getD 0)),h):=rfl
def Y7 (h:Heap):V→V→Option (V×Heap)
 | .mp j,.d (.str k)=>(h[j]?).bind (V0 h k)
 | _,_=>none
@[simp] theorem ahm (j:Nat) (k:ByteArray):Y7 h (.mp j) (.d (.str k))=(h[j]?).bind (V0 h k):=rfl
def Ut (e:Env) (h:Heap) (k:Arg) (v:V):Option (V×Heap):=(e.arg k).bind (Y7 h v)
@[simp] theorem adk (k:Arg) (v:V):Ut e h k v=(e.arg k).bind (Y7 h v):=rfl
@[simp] theorem ad9 (x k:Arg):bc O np e h (.mapGet x k)=(e.arg x).bind (Ut e h k):=by
 simp only [bc];cases e.arg x with
 | none=>rfl
 | some v=>
  simp only [ae,Ut];cases e.arg k with
  | none=>cases v <;> rfl
  | some w=>
   cases v <;> try rfl
   cases w <;> try rfl
   rename_i j d
   cases d <;> try rfl
   simp only [ae,Y7];cases h[j]? with
   | none=>rfl
   | some b=>cases b <;> rfl
def Uy (h:Heap) (j:Nat) (k:ByteArray) (n:Int):Blk→Option (V×Heap)
 | .mp false es=>some (.tup [],h.set j (.mp false (rz k n es)))
 | _=>none
@[simp] theorem ae8 (j:Nat) (k:ByteArray) (n:Int) (es:List (ByteArray×Int)):Uy h j k n (.mp false es)=some (.tup [],h.set j (.mp false (rz k n es))):=rfl
def Xg (h:Heap):V→V→V→Option (V×Heap)
 | .mp j,.d (.str k),.d (.int .i64 n)=>(h[j]?).bind (Uy h j k n)
 | _,_,_=>none
@[simp] theorem ahp (j:Nat) (k:ByteArray) (n:Int):Xg h (.mp j) (.d (.str k)) (.d (.int .i64 n))=(h[j]?).bind (Uy h j k n):=rfl
def Nx (e:Env) (h:Heap) (y:Arg) (v w:V):Option (V×Heap):=(e.arg y).bind (Xg h v w)
@[simp] theorem adh (y:Arg) (v w:V):Nx e h y v w=(e.arg y).bind (Xg h v w):=rfl
def Vb (e:Env) (h:Heap) (k y:Arg) (v:V):Option (V×Heap):=(e.arg k).bind (Nx e h y v)
@[simp] theorem aci (k y:Arg) (v:V):Vb e h k y v=(e.arg k).bind (Nx e h y v):=rfl
@[simp] theorem ad6 (x k y:Arg):bc O np e h (.mapSet x k y)=(e.arg x).bind (Vb e h k y):=by
 simp only [bc];cases e.arg x with
 | none=>rfl
 | some v=>
  simp only [ae,Vb];cases e.arg k with
  | none=>cases v <;> rfl
  | some w=>
   simp only [ae,Nx];cases e.arg y with
   | none=>
    cases v <;> try rfl
    cases w <;> try rfl
    rename_i j d; cases d <;> rfl
   | some u=>
    cases v <;> try rfl
    cases w <;> try rfl
    rename_i j d
    cases d <;> try rfl
    cases u <;> try rfl
    rename_i d
    cases d <;> try rfl
    rename_i kk n
    cases kk <;> try rfl
    simp only [ae,Xg];cases h[j]? with
    | none=>rfl
    | some b=>
     cases b <;> try rfl
     rename_i fr es
     cases fr <;> rfl
def a69 (np:Nat) (h:Heap) (s:Sh) (i bytes:Nat) (t:Sh) (ys:List D) (j off n:Nat) (cap:Option Nat):Blk→Option (V×Heap)
 | .sl fr t' cs=>if Sh.beq t s∧Sh.beq t' s∧off+n≤cs.length∧(n+ys.length)*bytes≤1099511627776 then
  (if fr=false∧np≤j then some (.sl j [] 0 (n+ys.length) none,h.set j (.sl false s ((cs.drop off).take n++ys)))
  else if cap=some n∧ys≠[] then (ik h (np+i) (.sl false s ((cs.drop off).take n++ys))).map (Prod.mk (.sl (np+i) [] 0 (n+ys.length) none))
  else none) else none
 | _=>none
@[simp] theorem agf (s:Sh) (i bytes:Nat) (t:Sh) (ys:List D) (j off n:Nat) (cap:Option Nat) (fr:Bool) (t':Sh) (cs:List D):a69 np h s i bytes t ys j off n cap (.sl fr t' cs) =
 if Sh.beq t s∧Sh.beq t' s∧off+n≤cs.length∧(n+ys.length)*bytes≤1099511627776 then
  (if fr=false∧np≤j then some (.sl j [] 0 (n+ys.length) none,h.set j (.sl false s ((cs.drop off).take n++ys)))
  else if cap=some n∧ys≠[] then (ik h (np+i) (.sl false s ((cs.drop off).take n++ys))).map (Prod.mk (.sl (np+i) [] 0 (n+ys.length) none))
  else none) else none:=rfl
def X4 (np:Nat) (h:Heap) (s:Sh) (i bytes:Nat):D→V→Option (V×Heap)
 | .sl t ys,.sl j [] off n cap=>(h[j]?).bind (a69 np h s i bytes t ys j off n cap)
 | .sl t (y::ys),.d (.nils t')=>if Sh.beq t s∧Sh.beq t' s∧(ys.length+1)*bytes≤1099511627776 then
  (ik h (np+i) (.sl false s (y::ys))).map (Prod.mk (.sl (np+i) [] 0 (ys.length+1) none)) else none
 | _,_=>none
@[simp] theorem a83 (s:Sh) (i bytes:Nat) (t:Sh) (ys:List D) (j off n:Nat) (cap:Option Nat):X4 np h s i bytes (.sl t ys) (.sl j [] off n cap)=(h[j]?).bind (a69 np h s i bytes t ys j off n cap):=by
 cases ys <;> rfl
@[simp] theorem ait (s:Sh) (i bytes:Nat) (t t':Sh) (y:D) (ys:List D):X4 np h s i bytes (.sl t (y::ys)) (.d (.nils t'))=if Sh.beq t s∧Sh.beq t' s∧(ys.length+1)*bytes≤1099511627776 then
 (ik h (np+i) (.sl false s (y::ys))).map (Prod.mk (.sl (np+i) [] 0 (ys.length+1) none)) else none:=rfl
def Xb (np:Nat) (e:Env) (h:Heap) (s:Sh) (i bytes:Nat) (x:Arg) (d:D):Option (V×Heap):=(e.arg x).bind (X4 np h s i bytes d)
@[simp] theorem afe (s:Sh) (i bytes:Nat) (x:Arg) (d:D):Xb np e h s i bytes x d=(e.arg x).bind (X4 np h s i bytes d):=rfl
def aan (np:Nat) (e:Env) (h:Heap) (s:Sh) (i bytes:Nat) (x:Arg) (w:V):Option (V×Heap):=(toE h w).bind (Xb np e h s i bytes x)
@[simp] theorem aho (s:Sh) (i bytes:Nat) (x:Arg) (w:V):aan np e h s i bytes x w=(toE h w).bind (Xb np e h s i bytes x):=rfl
@[simp] theorem acl (s:Sh) (i bytes:Nat) (x y:Arg):bc O np e h (.append s i bytes x y)=(e.arg y).bind (aan np e h s i bytes x):=by
 simp only [bc];cases e.arg y with
 | none=>rfl
 | some w=>
  simp only [ae,aan];cases toE h w with
  | none=>rfl
  | some d=>
   simp only [ae,Xb];cases e.arg x with
   | none=>cases d <;> try rfl
   | some v=>
    cases d <;> try (cases v <;> rfl)
    rename_i t ys
    cases v with
    | sl j p off n cap=>
     cases p with
     | nil=>
      simp only [ae,a83];cases h[j]? with
      | none=>rfl
      | some b=>cases b <;> rfl
     | cons _ _=>cases ys <;> rfl
    | d d=>cases ys <;> cases d <;> rfl
    | _=>cases ys <;> rfl
def Wt (h:Heap):Option Nat→Sh→V→Nat→Option (V×Heap)
 | some n,s,.d (.arr n' t cs),k=>if n'=n∧Sh.beq t s then (cs[k]?).map (kD h) else none
 | none,_,.d (.str b),k=>(b[k]?).map fun c=>(.d (.int .u8 c.toNat),h)
 | _,_,_,_=>none
@[simp] theorem aio (n n':Nat) (s t:Sh) (cs:List D) (k:Nat):Wt h (some n) s (.d (.arr n' t cs)) k=if n'=n∧Sh.beq t s then (cs[k]?).map (kD h) else none:=rfl
@[simp] theorem ahz (s:Sh) (b:ByteArray) (k:Nat):Wt h none s (.d (.str b)) k=(b[k]?).map fun c=>(.d (.int .u8 c.toNat),h):=rfl
def a8s (e:Env) (h:Heap) (ar:Option Nat) (s:Sh) (j:Arg) (v:V):Option (V×Heap):=((e.arg j).bind V.nat?).bind (Wt h ar s v)
@[simp] theorem ahb (ar:Option Nat) (s:Sh) (j:Arg) (v:V):a8s e h ar s j v=((e.arg j).bind V.nat?).bind (Wt h ar s v):=rfl
@[simp] theorem ajw (ar:Option Nat) (s:Sh) (x j:Arg):bc O np e h (.idx ar s x j)=(e.arg x).bind (a8s e h ar s j):=by
 cases ar <;> simp only [bc]
 ·cases e.arg x with
  | none=>rfl
  | some v=>
   simp only [ae,a8s];cases (e.arg j).bind V.nat? with
   | none=>cases v <;> try rfl
           rename_i d; cases d <;> rfl
   | some k=>cases v <;> try rfl
             rename_i d; cases d <;> rfl
 ·cases e.arg x with
  | none=>rfl
  | some v=>
   simp only [ae,a8s];cases (e.arg j).bind V.nat? with
   | none=>cases v <;> try rfl
           rename_i d; cases d <;> rfl
   | some k=>cases v <;> try rfl
             rename_i d; cases d <;> rfl
def V6 (h:Heap) (n:Nat) (s:Sh) (i:Nat) (p:List Nat) (k:Nat):D→Option (V×Heap)
 | .arr n' t _=>if n'=n∧Sh.beq t s∧k<n then some (.ptr i (p++[k]),h) else none
 | _=>none
@[simp] theorem aeg (n n':Nat) (s t:Sh) (i:Nat) (p:List Nat) (k:Nat) (cs:List D):V6 h n s i p k (.arr n' t cs)=if n'=n∧Sh.beq t s∧k<n then some (.ptr i (p++[k]),h) else none:=rfl
def Xh (h:Heap) (n:Nat) (s:Sh):V→Nat→Option (V×Heap)
 | .ptr i p,k=>((h[i]?).bind (Hg p)).bind (V6 h n s i p k)
 | .d (.ip (.arr n' t cs)),k=>if n'=n∧Sh.beq t s then (cs[k]?).map (kIp h) else none
 | _,_=>none
@[simp] theorem a75 (n:Nat) (s:Sh) (i:Nat) (p:List Nat) (k:Nat):Xh h n s (.ptr i p) k=((h[i]?).bind (Hg p)).bind (V6 h n s i p k):=rfl
@[simp] theorem aim (n n':Nat) (s t:Sh) (cs:List D) (k:Nat):Xh h n s (.d (.ip (.arr n' t cs))) k=if n'=n∧Sh.beq t s then (cs[k]?).map (kIp h) else none:=rfl
def W8 (e:Env) (h:Heap) (n:Nat) (s:Sh) (j:Arg) (v:V):Option (V×Heap):=((e.arg j).bind V.nat?).bind (Xh h n s v)
@[simp] theorem ad4 (n:Nat) (s:Sh) (j:Arg) (v:V):W8 e h n s j v=((e.arg j).bind V.nat?).bind (Xh h n s v):=rfl
@[simp] theorem agz (n:Nat) (s:Sh) (x j:Arg):bc O np e h (.idxA (some n) s x j)=(e.arg x).bind (W8 e h n s j):=by
 simp only [bc];cases e.arg x with
 | none=>rfl
 | some v=>
  simp only [ae,W8];cases (e.arg j).bind V.nat? with
  | none=>cases v <;> try rfl
          rename_i d; cases d <;> try rfl
          rename_i d; cases d <;> rfl
  | some k=>
   cases v with
   | ptr i p=>
    simp only [a75,ae];show ((h[i]?).bind (Hg p)).bind _=_
    congr 1
   | d d=>cases d <;> try rfl
          rename_i d; cases d <;> rfl
   | _=>rfl
def aba (h:Heap) (neg:Bool) (q:Q):V→V→Option (V×Heap)
 | .d a,.d b=>(D.beq q a b).map fun r=>(.d (.bool (if neg then !r else r)),h)
 | _,_=>none
@[simp] theorem aje (neg:Bool) (q:Q) (a b:D):aba h neg q (.d a) (.d b)=(D.beq q a b).map fun r=>(.d (.bool (if neg then !r else r)),h):=rfl
def a3e (e:Env) (h:Heap) (neg:Bool) (q:Q) (y:Arg) (v:V):Option (V×Heap):=(e.arg y).bind (aba h neg q v)
@[simp] theorem afc (neg:Bool) (q:Q) (y:Arg) (v:V):a3e e h neg q y v=(e.arg y).bind (aba h neg q v):=rfl
@[simp] theorem ajd (neg:Bool) (q:Q) (x y:Arg):bc O np e h (.eqv neg q x y)=(e.arg x).bind (a3e e h neg q y):=by
 simp only [bc];cases e.arg x with
 | none=>rfl
 | some v=>
  simp only [ae,a3e];cases e.arg y with
  | none=>cases v <;> rfl
  | some w=>cases v <;> cases w <;> rfl
def Uw (h:Heap) (s t:Sh) (cs:List D) (m b a:Nat):Option (V×Heap):=if Sh.beq t s∧a≤b∧b≤m∧m≤cs.length then some (.d (.sl t ((cs.drop a).take (b-a))),h) else none
@[simp] theorem adg (s t:Sh) (cs:List D) (m b a:Nat):Uw h s t cs m b a=if Sh.beq t s∧a≤b∧b≤m∧m≤cs.length then some (.d (.sl t ((cs.drop a).take (b-a))),h) else none:=rfl
def Uv (e:Env) (h:Heap) (s t:Sh) (cs:List D) (lo:Option Arg) (m b:Nat):Option (V×Heap):=(ez e lo 0).bind (Uw h s t cs m b)
@[simp] theorem ack (s t:Sh) (cs:List D) (lo:Option Arg) (m b:Nat):Uv e h s t cs lo m b=(ez e lo 0).bind (Uw h s t cs m b):=rfl
def To (e:Env) (h:Heap) (s t:Sh) (cs:List D) (lo hi:Option Arg) (m:Nat):Option (V×Heap):=(ez e hi cs.length).bind (Uv e h s t cs lo m)
@[simp] theorem acm (s t:Sh) (cs:List D) (lo hi:Option Arg) (m:Nat):To e h s t cs lo hi m=(ez e hi cs.length).bind (Uv e h s t cs lo m):=rfl
def Vv (h:Heap) (s t:Sh) (i:Nat) (p:List Nat) (off n:Nat) (cap:Option Nat) (ismx:Bool) (m b a:Nat):Option (V×Heap):=if Sh.beq t s∧a≤b∧b≤m∧m≤n then some (.sl i p (off+a) (b-a) (if ismx then some (m-a) else cap.map (· - a)),h) else none
@[simp] theorem ace (s t:Sh) (i:Nat) (p:List Nat) (off n:Nat) (cap:Option Nat) (ismx:Bool) (m b a:Nat):Vv h s t i p off n cap ismx m b a=if Sh.beq t s∧a≤b∧b≤m∧m≤n then some (.sl i p (off+a) (b-a) (if ismx then some (m-a) else cap.map (· - a)),h) else none:=rfl
def Vk (e:Env) (h:Heap) (s t:Sh) (i:Nat) (p:List Nat) (off n:Nat) (cap:Option Nat) (ismx:Bool) (lo:Option Arg) (m b:Nat):Option (V×Heap):=(ez e lo 0).bind (Vv h s t i p off n cap ismx m b)
@[simp] theorem aco (s t:Sh) (i:Nat) (p:List Nat) (off n:Nat) (cap:Option Nat) (ismx:Bool) (lo:Option Arg) (m b:Nat):Vk e h s t i p off n cap ismx lo m b=(ez e lo 0).bind (Vv h s t i p off n cap ismx m b):=rfl
def V5 (e:Env) (h:Heap) (s t:Sh) (i:Nat) (p:List Nat) (off n:Nat) (cap:Option Nat) (ismx:Bool) (lo hi:Option Arg) (m:Nat):Option (V×Heap):=(ez e hi n).bind (Vk e h s t i p off n cap ismx lo m)
@[simp] theorem adn (s t:Sh) (i:Nat) (p:List Nat) (off n:Nat) (cap:Option Nat) (ismx:Bool) (lo hi:Option Arg) (m:Nat):V5 e h s t i p off n cap ismx lo hi m=(ez e hi n).bind (Vk e h s t i p off n cap ismx lo m):=rfl
def We (e:Env) (h:Heap) (s:Sh) (i:Nat) (p:List Nat) (off n:Nat) (cap:Option Nat) (mx lo hi:Option Arg):Sh×List D→Option (V×Heap)
 | (t,_)=>(ez e mx n).bind (V5 e h s t i p off n cap mx.isSome lo hi)
@[simp] theorem acy (s:Sh) (i:Nat) (p:List Nat) (off n:Nat) (cap:Option Nat) (mx lo hi:Option Arg) (t:Sh) (cs:List D):We e h s i p off n cap mx lo hi (t,cs)=(ez e mx n).bind (V5 e h s t i p off n cap mx.isSome lo hi):=rfl
def abd (e:Env) (h:Heap) (s:Sh) (lo hi mx:Option Arg):V→Option (V×Heap)
 | .d (.sl t cs)=>(ez e mx cs.length).bind (To e h s t cs lo hi)
 | .sl i p off n cap=>((h[i]?).bind (kEl p)).bind (We e h s i p off n cap mx lo hi)
 | _=>none
@[simp] theorem ajb (s t:Sh) (cs:List D) (lo hi mx:Option Arg):abd e h s lo hi mx (.d (.sl t cs))=(ez e mx cs.length).bind (To e h s t cs lo hi):=rfl
@[simp] theorem aae (s:Sh) (i:Nat) (p:List Nat) (off n:Nat) (cap:Option Nat) (lo hi mx:Option Arg):abd e h s lo hi mx (.sl i p off n cap)=((h[i]?).bind (kEl p)).bind (We e h s i p off n cap mx lo hi):=rfl
@[simp] theorem ak9 (s:Sh) (x:Arg) (lo hi mx:Option Arg):bc O np e h (.cut none s x lo hi mx)=(e.arg x).bind (abd e h s lo hi mx):=by
 simp only [bc];cases e.arg x with
 | none=>rfl
 | some v=>
  cases v with
  | d d=>cases d <;> rfl
  | sl i p off n cap=>
   simp only [ae,aae];show ((h[i]?).bind (kEl p)).bind _=_
   congr 1
   funext q
   obtain ⟨t,cs⟩:=q;cases mx <;> rfl
  | _=>rfl
def Oj (h:Heap) (n:Nat) (i:Nat) (p:List Nat) (m b a:Nat):Option (V×Heap):=if a≤b∧b≤m∧m≤n then some (.sl i p a (b-a) (some (m-a)),h) else none
@[simp] theorem adb (n i:Nat) (p:List Nat) (m b a:Nat):Oj h n i p m b a=if a≤b∧b≤m∧m≤n then some (.sl i p a (b-a) (some (m-a)),h) else none:=rfl
def O2 (e:Env) (h:Heap) (n:Nat) (i:Nat) (p:List Nat) (lo:Option Arg) (m b:Nat):Option (V×Heap):=(ez e lo 0).bind (Oj h n i p m b)
@[simp] theorem ada (n i:Nat) (p:List Nat) (lo:Option Arg) (m b:Nat):O2 e h n i p lo m b=(ez e lo 0).bind (Oj h n i p m b):=rfl
def Nn (e:Env) (h:Heap) (n:Nat) (i:Nat) (p:List Nat) (lo hi:Option Arg) (m:Nat):Option (V×Heap):=(ez e hi n).bind (O2 e h n i p lo m)
@[simp] theorem adi (n i:Nat) (p:List Nat) (lo hi:Option Arg) (m:Nat):Nn e h n i p lo hi m=(ez e hi n).bind (O2 e h n i p lo m):=rfl
def Nv (e:Env) (h:Heap) (n:Nat) (s:Sh) (i:Nat) (p:List Nat) (lo hi mx:Option Arg):D→Option (V×Heap)
 | .arr n' t _=>if n'=n∧Sh.beq t s then (ez e mx n).bind (Nn e h n i p lo hi) else none
 | _=>none
@[simp] theorem adt (n n':Nat) (s t:Sh) (cs:List D) (i:Nat) (p:List Nat) (lo hi mx:Option Arg):Nv e h n s i p lo hi mx (.arr n' t cs)=if n'=n∧Sh.beq t s then (ez e mx n).bind (Nn e h n i p lo hi) else none:=rfl
def a9n (e:Env) (h:Heap) (n:Nat) (s:Sh) (lo hi mx:Option Arg):V→Option (V×Heap)
 | .ptr i p=>((h[i]?).bind (Hg p)).bind (Nv e h n s i p lo hi mx)
 | .d (.ip (.arr n' t cs))=>(ez e mx n).bind fun m=>(ez e hi n).bind fun b=>(ez e lo 0).bind fun a=>
  if n'=n∧Sh.beq t s∧a≤b∧b≤m∧m≤n then some (.d (.sl t ((cs.drop a).take (b-a))),h) else none
 | _=>none
@[simp] theorem a6w (n:Nat) (s:Sh) (lo hi mx:Option Arg) (i:Nat) (p:List Nat):a9n e h n s lo hi mx (.ptr i p)=((h[i]?).bind (Hg p)).bind (Nv e h n s i p lo hi mx):=rfl
@[simp] theorem aht (n:Nat) (s:Sh) (x:Arg) (lo hi mx:Option Arg):bc O np e h (.cut (some n) s x lo hi mx)=(e.arg x).bind (a9n e h n s lo hi mx):=by
 simp only [bc];cases e.arg x with
 | none=>rfl
 | some v=>
 cases v with
 | d d=>cases d <;> try rfl
        rename_i d; cases d <;> rfl
 | ptr i p=>
 simp only [ae,a6w];show ((h[i]?).bind (Hg p)).bind _=_
 congr 1
 funext y
 cases y <;> try rfl
 rename_i n' t cs
 simp only [Nv]
 by_cases hc:n'=n∧Sh.beq t s=true
 ·rw [if_pos hc]
  cases ez e mx n with
  | none=>rfl
  | some m=>
   simp only [ae,Nn];cases ez e hi n with
   | none=>rfl
   | some b=>
    simp only [ae,O2];cases ez e lo 0 with
    | none=>rfl
    | some a=>simp only [ae,Oj,hc,true_and]
 ·rw [if_neg hc]
  cases ez e mx n with
  | none=>rfl
  | some m=>
   simp only [ae];cases ez e hi n with
   | none=>rfl
   | some b=>
    simp only [ae];cases ez e lo 0 with
    | none=>rfl
    | some a=>
     simp only [ae];rw [if_neg]
     rintro ⟨h1,h2,_⟩
     exact hc ⟨h1,h2⟩
 | _=>rfl
def abr (h:Heap) (n:Nat) (s:Sh) (cs:List D):V×Heap:=(.d (.arr n s cs),h)
@[simp] theorem ahv (n:Nat) (s:Sh) (cs:List D):abr h n s cs=(.d (.arr n s cs),h):=rfl
def kSt (h:Heap) (ss:List Sh) (cs:List D):V×Heap:=(.d (.st ss cs),h)
@[simp] theorem aiu (ss:List Sh) (cs:List D):kSt h ss cs=(.d (.st ss cs),h):=rfl
def Hn (xs:List (Nat×D)):D→Heap→Option (V×Heap)
 | .arr n s cs,h=>(ri cs xs).map (abr h n s)
 | .st ss cs,h=>(ri cs xs).map (kSt h ss)
 | _,_=>none
@[simp] theorem acq (xs:List (Nat×D)) (n:Nat) (s:Sh) (cs:List D):Hn xs (.arr n s cs) h=(ri cs xs).map (abr h n s):=rfl
@[simp] theorem ad5 (xs:List (Nat×D)) (ss:List Sh) (cs:List D):Hn xs (.st ss cs) h=(ri cs xs).map (kSt h ss):=rfl
def U4 (h:Heap) (fz:Bool) (z:D) (rs:List Nat) (xs:List (Nat×D)):Option (V×Heap):=(freezeIf fz h rs).bind (Hn xs z)
@[simp] theorem acp (fz:Bool) (z:D) (rs:List Nat) (xs:List (Nat×D)):U4 h fz z rs xs=(freezeIf fz h rs).bind (Hn xs z):=rfl
@[simp] theorem ag9 (fz:Bool) (z:D) (ps:List (Nat×Arg)):bc O np e h (.build fz z ps)=(kv e h ps).bind (U4 h fz z (fi e ps)):=by
 simp only [bc];cases kv e h ps with
 | none=>rfl
 | some xs=>
  simp only [ae,U4];cases freezeIf fz h (fi e ps) with
  | none=>rfl
  | some h'=>cases z <;> rfl
def a4u (id n:Nat) (s:Sh) (cs:List D) (h:Heap):Option (V×Heap):=(ik h id (.sl false s cs)).map (Prod.mk (.sl id [] 0 n (some n)))
@[simp] theorem ag5 (id n:Nat) (s:Sh) (cs:List D):a4u id n s cs h=(ik h id (.sl false s cs)).map (Prod.mk (.sl id [] 0 n (some n))):=rfl
def a5e (h:Heap) (fz:Bool) (id n:Nat) (s:Sh) (rs:List Nat) (cs:List D):Option (V×Heap):=(freezeIf fz h rs).bind (a4u id n s cs)
@[simp] theorem aeh (fz:Bool) (id n:Nat) (s:Sh) (rs:List Nat) (cs:List D):a5e h fz id n s rs cs=(freezeIf fz h rs).bind (a4u id n s cs):=rfl
def a9g (h:Heap) (fz:Bool) (id n:Nat) (s:Sh) (z:D) (rs:List Nat) (xs:List (Nat×D)):Option (V×Heap):=(ri (List.replicate n z) xs).bind (a5e h fz id n s rs)
@[simp] theorem afa (fz:Bool) (id n:Nat) (s:Sh) (z:D) (rs:List Nat) (xs:List (Nat×D)):a9g h fz id n s z rs xs=(ri (List.replicate n z) xs).bind (a5e h fz id n s rs):=rfl
@[simp] theorem aav (fz:Bool) (i:Nat) (s:Sh) (z:D) (n:Nat) (ps:List (Nat×Arg)):bc O np e h (.buildSl fz i s z n ps)=(kv e h ps).bind (a9g h fz (np+i) n s z (fi e ps)):=rfl
end
@[simp] theorem acj (k:IntKind) (n:Int):(D.int k n).isTup=false:=rfl
@[simp] theorem aj8 (k:IntKind) (n:Int):(D.int k n).sh=.leaf:=rfl
@[simp] theorem aar (b:Bool):(D.bool b).isTup=false:=rfl
@[simp] theorem ahk (b:Bool):(D.bool b).sh=.leaf:=rfl
@[simp] theorem ach (s:ByteArray):(D.str s).isTup=false:=rfl
@[simp] theorem aj4 (s:ByteArray):(D.str s).sh=.leaf:=rfl
@[simp] theorem adl (n:Nat) (s:Sh) (cs:List D):(D.arr n s cs).isTup=false:=rfl
@[simp] theorem akd (n:Nat) (s:Sh) (cs:List D):(D.arr n s cs).sh=.arr n s:=rfl
@[simp] theorem af0 (ss:List Sh) (cs:List D):(D.st ss cs).isTup=false:=rfl
@[simp] theorem al6 (ss:List Sh) (cs:List D):(D.st ss cs).sh=.st ss:=rfl
@[simp] theorem aft (s:Sh) (cs:List D):(D.sl s cs).isTup=false:=rfl
@[simp] theorem aky (s:Sh) (cs:List D):(D.sl s cs).sh=.leaf:=rfl
@[simp] theorem acv (cs:List D):(D.tup cs).isTup=true:=rfl
@[simp] theorem aiy (cs:List D):(D.tup cs).sh=.leaf:=rfl
@[simp] theorem af5 (d:D):(D.ip d).isTup=false:=rfl
@[simp] theorem al0 (d:D):(D.ip d).sh=.leaf:=rfl
@[simp] theorem aaw  : D.nilp.isTup=false:=rfl
@[simp] theorem ai5  : D.nilp.sh=.leaf:=rfl
@[simp] theorem aaf (s:Sh):(D.nils s).isTup=false:=rfl
@[simp] theorem ahx (s:Sh):(D.nils s).sh=.leaf:=rfl
@[simp] theorem ag2 (f:Nat) (a b:List D):(D.fn f a b).isTup=false:=rfl
@[simp] theorem al2 (f:Nat) (a b:List D):(D.fn f a b).sh=.leaf:=rfl
@[simp] theorem abq  : D.nilf.isTup=false:=rfl
@[simp] theorem ahq  : D.nilf.sh=.leaf:=rfl
@[simp] theorem a9d (n:Nat) (d:D):(D.iface n d).isTup=false:=rfl
@[simp] theorem agn (n:Nat) (d:D):(D.iface n d).sh=.leaf:=rfl
@[simp] theorem abh  : D.nili.isTup=false:=rfl
@[simp] theorem ahu  : D.nili.sh=.leaf:=rfl
def a15 (k:IntKind) (x y:Int):Int:=k.wrap (BitVec.ofInt k.bits x &&& BitVec.ofInt k.bits y).toNat
def orI (k:IntKind) (x y:Int):Int:=k.wrap (BitVec.ofInt k.bits x ||| BitVec.ofInt k.bits y).toNat
def ajy (k:IntKind) (x y:Int):Int:=k.wrap (BitVec.ofInt k.bits x ^^^ BitVec.ofInt k.bits y).toNat
section
variable (k:IntKind) (x y:Int)
@[simp] theorem afg:zd .add k x y=some (.int k (k.wrap (x+y))):=rfl
@[simp] theorem ae4:zd .sub k x y=some (.int k (k.wrap (x-y))):=rfl
@[simp] theorem afd:zd .mul k x y=some (.int k (k.wrap (x*y))):=rfl
@[simp] theorem afm:zd .quo k x y=if y=0 then none else some (.int k (k.wrap (x.tdiv y))):=rfl
@[simp] theorem ae0:zd .rem k x y=if y=0 then none else some (.int k (x.tmod y)):=rfl
@[simp] theorem af6:zd .and k x y=some (.int k (a15 k x y)):=rfl
@[simp] theorem ahy:zd .or k x y=some (.int k (orI k x y)):=rfl
@[simp] theorem agq:zd .xor k x y=some (.int k (ajy k x y)):=rfl
@[simp] theorem af2:zd .eql k x y=some (.bool (decide (x=y))):=rfl
@[simp] theorem afh:zd .neq k x y=some (.bool (!decide (x=y))):=rfl
@[simp] theorem aec:zd .lss k x y=some (.bool (decide (x<y))):=rfl
@[simp] theorem agu:zd .leq k x y=some (.bool (decide (x≤y))):=rfl
@[simp] theorem agl:zd .gtr k x y=some (.bool (decide (y<x))):=rfl
@[simp] theorem afs:zd .geq k x y=some (.bool (decide (y≤x))):=rfl
end
def vz (o:BinOp) (k k':IntKind) (a b:Int):Option D:=if k=k' then zd o k a b else none
@[simp] theorem agi (o:BinOp) (k:IntKind) (a b:Int):vz o k k a b=zd o k a b:=if_pos rfl
section
variable (k k':IntKind) (a b:Int)
@[simp] theorem agt:x9 .shl (.int k a) (.int k' b)=yd .shl k a b:=rfl
@[simp] theorem afi:x9 .shr (.int k a) (.int k' b)=yd .shr k a b:=rfl
@[simp] theorem adx:x9 .add (.int k a) (.int k' b)=vz .add k k' a b:=rfl
@[simp] theorem adu:x9 .sub (.int k a) (.int k' b)=vz .sub k k' a b:=rfl
@[simp] theorem adw:x9 .mul (.int k a) (.int k' b)=vz .mul k k' a b:=rfl
@[simp] theorem afb:x9 .quo (.int k a) (.int k' b)=vz .quo k k' a b:=rfl
@[simp] theorem aev:x9 .rem (.int k a) (.int k' b)=vz .rem k k' a b:=rfl
@[simp] theorem adp:x9 .and (.int k a) (.int k' b)=vz .and k k' a b:=rfl
@[simp] theorem ain:x9 .or (.int k a) (.int k' b)=vz .or k k' a b:=rfl
@[simp] theorem aeu:x9 .xor (.int k a) (.int k' b)=vz .xor k k' a b:=rfl
@[simp] theorem afp:x9 .eql (.int k a) (.int k' b)=vz .eql k k' a b:=rfl
@[simp] theorem afr:x9 .neq (.int k a) (.int k' b)=vz .neq k k' a b:=rfl
@[simp] theorem aee:x9 .lss (.int k a) (.int k' b)=vz .lss k k' a b:=rfl
@[simp] theorem afl:x9 .leq (.int k a) (.int k' b)=vz .leq k k' a b:=rfl
@[simp] theorem af1:x9 .gtr (.int k a) (.int k' b)=vz .gtr k k' a b:=rfl
@[simp] theorem aej:x9 .geq (.int k a) (.int k' b)=vz .geq k k' a b:=rfl
end
@[simp] theorem aet (o:BinOp) (a b:ByteArray):x9 o (.str a) (.str b)=(match o with | .shl | .shr=>none | o=>a92 o a b):=by cases o <;> rfl
attribute [simp] oq
attribute [simp] Env.clear a8o ab3 a8r aaz a5t andThen Xr fin ru a9q Ins.side Ins.on Env.arg Env.get Env.keep Env.kill Op.kill Env.putO Env.refsOf Op.temps Arg.temps Ac ww v6
 V.refs V.refss Sh.beq Sh.beqs Blk.get Blk.set Blk.elems D.get D.set D.arrOf freezeIf freeze Blk.freeze ik ri kv fi ez V.nat? unD callee t7 Heap.pick Heap.put putNews Blk.isHole V.ren V.rens zo Tt o7 params D.flat D.flats tw Env.refd Env.free
theorem c9 {T:Nat→Option Fn} {A:ap} {f:Nat} {fn:Fn} (hT:T f=some fn) {ds:List D} {d:D} (hl:ds.length=fn.nparams)
 (h:((dn (den T A) 0 fn.body ⟨params 0 (ds.map .d),List.replicate fn.nblk .hole⟩).bind (fin fn 0)).bind aas=some d):ask (den T A) f ds=some d:=by
 obtain ⟨r,h1,h2⟩:=a5.1 h;unfold ask;rw [iw hT (vs:=ds.map .d) (bs:=[]) (by rw [ba]; exact hl) h1]
 exact h2
theorem cg {O:ap} {np:Nat} {c:Cd} {s s1:St} {r:Option (Out×St)} (h:dn O np c s=some (.normal,s1)) (h2:dn O np (.loop c) s1=r):dn O np (.loop c) s=r:=by
 rw [Oe,h]; exact h2
theorem cm {O:ap} {np:Nat} {c:Cd} {s s1:St} {id:Nat} (h:dn O np c s=some (.exit id,s1)):dn O np (.loop c) s=some (.exit id,s1):=by
 rw [Oe,h]; rfl
theorem lq {O:ap} {np:Nat} {c:Cd} {s s1:St} (h:dn O np c s=some (.ret,s1)):dn O np (.loop c) s=some (.ret,s1):=by
 rw [Oe,h]; rfl
def af (k:IntKind) (l:List Int):List D:=l.map (.int k)
@[simp] theorem Hc (k:IntKind) (l:List Int):(af k l).length=l.length:=by simp [af]
@[simp] theorem agb (k:IntKind) (l:List Int) (i:Nat):(af k l)[i]? = (l[i]?).map (.int k):=by simp [af]
@[simp] theorem a96 (k:IntKind) (l:List Int) (i:Nat) (h:i<(af k l).length):(af k l)[i]=.int k (l[i]'(by simpa using h)):=by simp [af]
@[simp] theorem acw (k:IntKind) (l:List Int) (n:Nat):(af k l).take n=af k (l.take n):=by simp [af]
@[simp] theorem acg (k:IntKind) (l:List Int) (n:Nat):(af k l).drop n=af k (l.drop n):=by simp [af]
@[simp] theorem afy (k:IntKind) (l:List Int) (n:Nat) (x:Int):(af k l).set n (.int k x)=af k (l.set n x):=by simp [af,List.map_set]
@[simp] theorem Hd (k:IntKind) (l m:List Int):af k l++af k m=af k (l++m):=by simp [af]
@[simp] theorem a1v (k:IntKind) (n:Nat) (x:Int):List.replicate n (D.int k x)=af k (List.replicate n x):=by simp [af]
@[simp] theorem Vf (k:IntKind):∀l:List Int,D.flats (af k l)=true
 | []=>rfl
 | x::l=>by show (D.flat (.int k x)&&D.flats (af k l))=true; rw [Vf k l]; rfl
theorem jf (k:IntKind):af k []=[]:=rfl
@[simp] theorem adz (n:Nat):List.replicate (n+1) Blk.hole=.hole::List.replicate n .hole:=rfl
@[simp] theorem ad2:List.replicate 0 Blk.hole=[]:=rfl
theorem w64 {x:Int} (h:-9223372036854775808≤x∧x≤9223372036854775807):IntKind.i64.wrap x=x:=IntWalk.i64_in x h
theorem w8 {x:Int} (h:0≤x∧x<256):IntKind.u8.wrap x=x:=by
 simp only [IntKind.wrap,IntKind.bits,IntKind.signed];simp;omega
end Pe
namespace Pe
open Go Go.ChangeShapes
inductive Ty where
 | int (k:IntKind)
 | bool
 | str
 | arr (n:Nat) (T:Ty)
 | st (Ts:List Ty)
 | sl (T:Ty)
mutual
def Ty.sh:Ty→Sh
 | .arr n T=>.arr n T.sh
 | .st Ts=>.st (Ty.shs Ts)
 | .int _ | .bool | .str | .sl _=>.leaf
def Ty.shs:List Ty→List Sh
 | []=>[]
 | T::Ts=>T.sh::Ty.shs Ts
end
mutual
def xk (P:Program):TypeId→Ty→Bool
 | t,.int k=>(match P.underlying t with | some (.int k')=>k' == k | _=>false)&&P.cellsOf t == 1
 | t,.bool=>(match P.underlying t with | some .bool=>true | _=>false)&&P.cellsOf t == 1
 | t,.str=>(match P.underlying t with | some .string=>true | _=>false)&&P.cellsOf t == 1
 | t,.arr n T=>(match P.underlying t with | some (.array m e)=>m == n&&xk P e T | _=>false)&&P.cellsOf t == n*T.sh.size
 | t,.st Ts=>(match P.underlying t with | some (.struct fs)=>Bq P fs.toList 0 Ts | _=>false)&&P.cellsOf t == Sh.sizes (Ty.shs Ts)
 | t,.sl T=>(match P.underlying t with | some (.slice e)=>xk P e T&&decide (0<T.sh.size) | _=>false)&&P.cellsOf t == 1
def Bq (P:Program):List Field→Nat→List Ty→Bool
 | [],_,[]=>true
 | f::fs,o,T::Ts=>f.offset == o&&xk P f.type T&&Bq P fs (o+T.sh.size) Ts
 | _,_,_=>false
end
mutual
def Ty.has:Ty→D→Prop
 | .int k,.int k' n=>k'=k∧(Lit.int k n).wf=true
 | .bool,.bool _=>True
 | .str,.str s=>s.size≤maxLen
 | .arr n T,.arr m s xs=>m=n∧s=T.sh∧xs.length=n∧∀x∈xs,T.has x
 | .st Ts,.st ss xs=>ss=Ty.shs Ts∧Ty.hasAll Ts xs
 | .sl T,.sl s xs=>s=T.sh∧xs.length≤9223372036854775807∧∀x∈xs,T.has x
 | _,_=>False
def Ty.hasAll:List Ty→List D→Prop
 | [],[]=>True
 | T::Ts,x::xs=>T.has x∧Ty.hasAll Ts xs
 | _,_=>False
end
theorem xx {P:Program} {t:TypeId} {T:Ty} (h:xk P t T=true):P.cellsOf t=T.sh.size:=by
 cases T <;> simp only [xk,az,beq_iff_eq] at h <;> simp only [Ty.sh,Sh.size] <;> exact h.2
mutual
theorem W3:∀(T:Ty) (d:D),T.has d→d.sh=T.sh
 | .int _,d,h | .bool,d,h | .str,d,h=>by cases d <;> simp [Ty.has] at h <;> rfl
 | .arr n T,d,h=>by
  cases d <;> simp only [Ty.has] at h
  obtain ⟨rfl,rfl,-⟩:=h;rfl
 | .st Ts,d,h=>by
  cases d <;> simp only [Ty.has] at h
  obtain ⟨rfl,-⟩:=h;rfl
 | .sl T,d,h=>by cases d <;> simp only [Ty.has] at h; rfl
end
section
variable {H:Type} {enc:TypeId×Value→H} {P:Program} {C:Cx} {base:Nat} {sp:Nat→Bool} {held:Bool}
theorem Ca {s:Sh} {Q:D→Prop} (hs:∀d,Q d→d.sh=s):∀(n:Nat) (cs:List Value),cs.length=n*s.size→(∀i,i<n→∃d,Q d∧RD C d ((cs.drop (i*s.size)).take s.size)) →
 ∃ds:List D,ds.length=n∧(∀d∈ds,Q d)∧RDs C s ds cs
 | 0,cs,hl,_=>⟨[],rfl,by simp,by simp only [RDs]; exact fj.1 (by simpa using hl)⟩
 | n+1,cs,hl,h=>by
  obtain ⟨d,hq,hd⟩:=h 0 (by omega)
  obtain ⟨ds,h1,h2,h3⟩:=Ca hs n (cs.drop s.size) (by rw [ej,hl,fg]; omega) (fun i hi=>by
   obtain ⟨d,hq,hd⟩:=h (i+1) (by omega)
   refine ⟨d,hq,?_⟩;rw [ji,show s.size+i*s.size=(i+1)*s.size by rw [fg]; omega]
   exact hd)
  refine ⟨d::ds,by simp [h1],by simpa using ⟨hq,h2⟩,?_⟩
  simp only [RDs];rw [jk,ef] at hd;exact ⟨cs.take s.size,cs.drop s.size,(gh _ _).symm,hs d hq,hd,h3⟩
theorem a0l {w:World} {a:Addr} {v:Value} (h:w.cell? a=some v):a.spot=none∧∃c el fz,w.heap[a.block]? = some (.cells c el fz)∧c[a.off]? = some v:=by
 unfold World.cell? at h
 split at h
 ·rename_i c el fz hc
  split at h
  ·cases h
  ·rename_i hs
   exact ⟨by simpa using hs,c,el,fz,hc,h⟩
 ·cases h
theorem a44 {w:World} {a:Addr} {n:Nat} {cs:List Value} (hn:0<n) (h:w.cells? base a n=some cs):a.spot=none∧cs.length=n∧CellsAt w a.block a.off cs:=by
 obtain ⟨h1,h2,h3⟩:=World.cells?_some h;have h0:=h3 0 hn;rw [b8 (by omega),Addr.add,if_pos rfl] at h0
 obtain ⟨hsp,c,el,fz,hc,_⟩:=a0l h0;refine ⟨hsp,h2,c,el,fz,hc,fun j u hu=>?_⟩
 have hj:j<n:=by
  have:=(aq.1 hu).1;omega
 have h4:=h3 j hj;rw [hu] at h4;unfold World.cell? at h4
 have hb:(a.add j).block=a.block∧(a.add j).off=a.off+j∧(a.add j).spot=none:=by
  unfold Addr.add
  split
  ·rename_i h; subst h; exact ⟨rfl,rfl,hsp⟩
  ·exact ⟨rfl,rfl,rfl⟩
 rw [hb.1,hc,hb.2.1,hb.2.2] at h4
 simpa using h4
theorem Dp {s:Sh} {Q:D→Prop} (hs:∀d,Q d→d.sh=s) (hk:0<s.size) {b:Nat}:∀(n o:Nat),0<n→(∀i,i<n→∃d cs,Q d∧RD C d cs∧cs.length=s.size∧CellsAt C.w b (o+i*s.size) cs) →
 ∃(ds:List D) (us:List Value),ds.length=n∧(∀d∈ds,Q d)∧RDs C s ds us∧us.length=n*s.size∧CellsAt C.w b o us
 | 0,o,h0,h=>absurd h0 (by omega)
 | n+1,o,_,h=>by
  obtain ⟨d,cs,hq,hd,hl,hc⟩:=h 0 (by omega)
  rw [jk,ew] at hc;rcases mb n with hn | hn
  ·subst hn
   exact ⟨[d],cs,rfl,by simpa using hq,by simp only [RDs]; exact ⟨cs,[],by simp,hs d hq,hd,rfl⟩,by omega,hc⟩
  ·obtain ⟨ds,us,h1,h2,h3,h4,h5⟩:=Dp hs hk n (o+s.size) hn (fun i hi=>by
    obtain ⟨d,cs,hq,hd,hl,hc⟩:=h (i+1) (by omega)
    refine ⟨d,cs,hq,hd,hl,?_⟩;rw [show o+s.size+i*s.size=o+(i+1)*s.size by rw [fg]; omega]
    exact hc)
   refine ⟨d::ds,cs++us,by simp [h1],by simpa using ⟨hq,h2⟩,by simp only [RDs]; exact ⟨cs,us,rfl,hs d hq,hd,h3⟩,by rw [bu,hl,h4,fg]; omega,?_⟩
   obtain ⟨a,el,fz,ha,hc⟩:=hc;obtain ⟨a',el',fz',ha',hc'⟩:=h5;obtain ⟨rfl,rfl,rfl⟩:a=a'∧el=el'∧fz=fz':=by rw [ha] at ha'; simpa using ha'
   refine ⟨a,el,fz,ha,fun j u hu=>?_⟩
   by_cases hj:j<cs.length
   ·rw [bt hj] at hu; exact hc j u hu
   ·rw [bq (by omega)] at hu
    have:=hc' _ u hu
    rwa [show o+s.size+(j-cs.length)=o+j by omega] at this
mutual
theorem yp (hI:∀b,b<C.w.heap.size→C.I b):∀(T:Ty) (t:TypeId) (fuel:Nat) (cs:List Value) (x:DataW H×List MemPlace),xk P t T=true→DataW.trod enc P C.w base sp held fuel t cs=some x→∃d,T.has d∧RD C d cs
 | .int k,t,fuel,cs,x,hf,h=>by
  simp only [xk,az] at hf
  replace hf:=hf.1
  split at hf <;> simp at hf
  rename_i k' hu
  subst hf;obtain ⟨n,rfl,-,hw⟩:=DataW.trod_int hu h;exact ⟨.int k' n,⟨rfl,hw⟩,rfl⟩
 | .bool,t,fuel,cs,x,hf,h=>by
  simp only [xk,az] at hf
  replace hf:=hf.1
  split at hf <;> simp at hf
  rename_i hu
  obtain ⟨b,rfl,-⟩:=DataW.trod_bool hu h;exact ⟨.bool b,trivial,rfl⟩
 | .str,t,fuel,cs,x,hf,h=>by
  simp only [xk,az] at hf
  replace hf:=hf.1
  split at hf <;> simp at hf
  rename_i hu
  obtain ⟨s,rfl,-,hw⟩:=DataW.trod_string hu h;exact ⟨.str s,hw,rfl⟩
 | .arr n T,t,fuel,cs,x,hf,h=>by
  have hsz:=xx hf;simp only [xk,az] at hf
  replace hf:=hf.1
  split at hf <;> simp at hf
  rename_i m e hu
  obtain ⟨rfl,hfe⟩:=hf;have hse:=xx hfe;obtain ⟨xs,k,-,-,hl,hxl,hx⟩:=DataW.trod_array hu h
  obtain ⟨ds,h1,h2,h3⟩:=Ca (C:=C) (s:=T.sh) (Q:=T.has) (W3 T) m cs (by rw [hl,hsz]; rfl) (fun i hi=>by
   have h4:=hx i hi;rw [b8 (by omega),hse] at h4
   exact yp hI T e k _ _ hfe h4)
  exact ⟨.arr m T.sh ds,⟨rfl,rfl,h1,h2⟩,by simp only [RD]; exact ⟨h1,h3⟩⟩
 | .st Ts,t,fuel,cs,x,hf,h=>by
  have hsz:=xx hf;simp only [xk,az] at hf
  replace hf:=hf.1
  split at hf
  case h_2=>cases hf
  rename_i fs hu
  obtain ⟨xs,k,-,-,hl,hxl,hx⟩:=DataW.trod_struct hu h
  obtain ⟨ds,h1,h2⟩:=Cc hI Ts fs.toList 0 k cs hf (by rw [hl,hsz]; simp [Ty.sh,Sh.size]) (fun f hfm=>by
   obtain ⟨i,hi,rfl⟩:=lj hfm;have h4:=hx i fs.toList[i] (by rw [←me]; exact b8 hi)
   rw [b8 (by rw [hxl,←uf]; exact hi)] at h4
   exact ⟨_,h4⟩)
  exact ⟨.st (Ty.shs Ts) ds,⟨rfl,h1⟩,by simp only [RD]; exact h2⟩
 | .sl T,t,fuel,cs,x,hf,h=>by
  simp only [xk,az] at hf
  replace hf:=hf.1
  split at hf <;> simp at hf
  rename_i e hu
  obtain ⟨hfe,hk⟩:=hf;have hse:=xx hfe;rcases DataW.trod_slice hu h with ⟨rfl,-⟩ | ⟨a,len,cap,elems,rest,n,-,rfl,-,hb,hle,hcap,hel,hx,-⟩
  ·exact ⟨.sl T.sh [],⟨rfl,by simp,by simp⟩,by simp only [RD]; exact ⟨none,0,rfl,bh _,.inl trivial⟩⟩
  ·rcases mb len with h0 | h0
   ·subst h0
    exact ⟨.sl T.sh [],⟨rfl,by simp,by simp⟩,by simp only [RD]; exact ⟨_,cap,rfl,hle,.inl trivial⟩⟩
   ·have hcell:∀i,i<len→∃d cs,T.has d∧RD C d cs∧cs.length=T.sh.size∧(a.add (i*T.sh.size)).spot=none∧CellsAt C.w a.block (a.off+i*T.sh.size) cs:=fun i hi=>by
     have h4:=hx i hi;rw [b8 (by omega),hse] at h4
     obtain ⟨cs,hc,hy⟩:=a5.1 h4;obtain ⟨h5,h6,h7⟩:=a44 hk hc;obtain ⟨d,hd1,hd2⟩:=yp hI T e n _ _ hfe hy
     have hbl:(a.add (i*T.sh.size)).block=a.block∧(a.add (i*T.sh.size)).off=a.off+i*T.sh.size:=by
      unfold Addr.add
      split
      ·rename_i h; rw [h]; exact ⟨rfl,rfl⟩
      ·exact ⟨rfl,rfl⟩
     rw [hbl.1,hbl.2] at h7;exact ⟨d,cs,hd1,hd2,h6,h5,h7⟩
    obtain ⟨ds,us,h1,h2,h3,h4,h5⟩:=Dp (C:=C) (s:=T.sh) (Q:=T.has) (W3 T) hk len a.off h0 (fun i hi=>by
     obtain ⟨d,cs,g1,g2,g3,-,g4⟩:=hcell i hi;exact ⟨d,cs,g1,g2,g3,g4⟩)
    have hsp:a.spot=none:=by
     obtain ⟨_,_,_,_,_,g,_⟩:=hcell 0 h0;rw [jk,Addr.add,if_pos rfl] at g;exact g
    have hlt:a.block<C.w.heap.size:=by
     obtain ⟨c,el,fz,hc,-⟩:=h5;exact (eg.1 hc).1
    refine ⟨.sl T.sh ds,⟨rfl,by rw [h1]; unfold maxLen at hcap; omega,h2⟩,?_⟩
    simp only [RD];refine ⟨some a,cap,by rw [h1],by omega,.inr ⟨a.block,a.off,us,?_,hI _ hlt,h3,h5⟩⟩
    cases a;simp only at hsp;rw [hsp]
theorem Cc (hI:∀b,b<C.w.heap.size→C.I b):∀(Ts:List Ty) (fs:List Field) (o fuel:Nat) (cs:List Value),Bq P fs o Ts=true→cs.length=o+Sh.sizes (Ty.shs Ts) →
 (∀f∈fs,∃x,DataW.trod enc P C.w base sp held fuel f.type ((cs.drop f.offset).take (P.cellsOf f.type))=some x)→∃ds,Ty.hasAll Ts ds∧RDst C (Ty.shs Ts) ds (cs.drop o)
 | [],[],o,fuel,cs,_,hl,_=>⟨[],trivial,by simp only [Ty.shs,RDst]; rw [List.drop_eq_nil_iff]; simp [Ty.shs,Sh.sizes] at hl; omega⟩
 | [],_::_,o,fuel,cs,hf,_,_=>by simp [Bq] at hf
 | _::_,[],o,fuel,cs,hf,_,_=>by simp [Bq] at hf
 | T::Ts,f::fs,o,fuel,cs,hf,hl,h=>by
  simp only [Bq,az,beq_iff_eq] at hf;obtain ⟨⟨ho,hft⟩,hfs⟩:=hf;have hse:=xx hft;simp only [Ty.shs,Sh.sizes] at hl;obtain ⟨x,hx⟩:=h f (by simp)
  obtain ⟨d,hd1,hd2⟩:=yp hI T f.type fuel _ x hft hx;obtain ⟨ds,h1,h2⟩:=Cc hI Ts fs (o+T.sh.size) fuel cs hfs (by omega) (fun g hg=>h g (kg _ hg))
  refine ⟨d::ds,⟨hd1,h1⟩,?_⟩;simp only [Ty.shs,RDst];rw [hse,ho] at hd2;refine ⟨_,_,?_,W3 T d hd1,hd2,h2⟩;rw [←ji,gh]
end
theorem a97 {W:World} {r:Reach} {T:Ty} {t:TypeId} {v:Value} {d:D} (hf:xk P t T=true) (hd:T.has d) (h:Value.okWide P W r base t v):isAgg v=d.isAgg:=by
 unfold Value.okWide at h;cases T with
 | int k=>
  simp only [xk,az] at hf
  replace hf:=hf.1
  split at hf <;> simp at hf
  rename_i k' hu
  rw [hu] at h;cases d <;> simp only [Ty.has] at hd
  cases v <;> first | rfl | (simp [Cell.okWide,Cell.ok,hu] at h; done)
 | bool=>
  simp only [xk,az] at hf
  replace hf:=hf.1
  split at hf <;> simp at hf
  rename_i hu
  rw [hu] at h;cases d <;> simp only [Ty.has] at hd
  cases v <;> first | rfl | (simp [Cell.okWide,Cell.ok,hu] at h; done)
 | str=>
  simp only [xk,az] at hf
  replace hf:=hf.1
  split at hf <;> simp at hf
  rename_i hu
  rw [hu] at h;cases d <;> simp only [Ty.has] at hd
  cases v <;> first | rfl | (simp [Cell.okWide,Cell.ok,hu] at h; done)
 | sl T=>
  simp only [xk,az] at hf
  replace hf:=hf.1
  split at hf <;> simp at hf
  rename_i e hu
  rw [hu] at h;cases d <;> simp only [Ty.has] at hd
  cases v <;> first | rfl | (simp [Cell.okWide,Cell.ok,hu] at h; done)
 | arr n T=>
  simp only [xk,az] at hf
  replace hf:=hf.1
  split at hf
  case h_2=>cases hf
  rename_i hu
  rw [hu] at h;obtain ⟨cs,rfl,-⟩:=h;cases d <;> simp only [Ty.has] at hd
  rfl
 | st Ts=>
  simp only [xk,az] at hf
  replace hf:=hf.1
  split at hf
  case h_2=>cases hf
  rename_i hu
  rw [hu] at h;obtain ⟨cs,rfl,-⟩:=h;cases d <;> simp only [Ty.has] at hd
  rfl
def Ax (P:Program):List TypeId→List Ty→Bool
 | [],[]=>true
 | t::ts,T::Ts=>xk P t T&&P.readableRec t&&decide (t<P.types.size)&&Ax P ts Ts
 | _,_=>false
theorem Mt (hI:∀b,b<C.w.heap.size→C.I b) {r:Reach} {b0:Nat}:∀(ts:List TypeId) (Ts:List Ty) (vs:List Value) (ds:List (DataW H)) (ps:List MemPlace),Ax P ts Ts=true→DataW.TrodAll enc P C.w base sp held ts vs ds ps →
 (∀(j:Nat) t v,ts[j]? = some t→vs[j]? = some v→Value.okWide P C.w r b0 t v)→∃xs,Ty.hasAll Ts xs∧RVs C xs vs
 | [],[],vs,ds,ps,_,h,_=>by
  obtain ⟨rfl,-,-⟩:=trodAll_nil h;exact ⟨[],trivial,by simp only [RVs]⟩
 | [],_::_,vs,ds,ps,hf,_,_=>by simp [Ax] at hf
 | _::_,[],vs,ds,ps,hf,_,_=>by simp [Ax] at hf
 | t::ts,T::Ts,vs,ds,ps,hf,h,hv=>by
  simp only [Ax,az] at hf;obtain ⟨⟨⟨hf1,-⟩,-⟩,hf2⟩:=hf;obtain ⟨v,vs',d,ds',p,q,rfl,rfl,rfl,⟨fuel,hd⟩,hr⟩:=trodAll_cons h;obtain ⟨x,hx1,hx2⟩:=yp hI T t fuel _ _ hf1 hd;obtain ⟨xs,h1,h2⟩:=Mt hI ts Ts vs' ds' q hf2 hr (fun j t' v' hj hv'=>hv (j+1) t' v' (by simpa using hj) (by simpa using hv'))
  refine ⟨x::xs,⟨hx1,h1⟩,?_⟩;simp only [RVs];exact ⟨v,vs',rfl,a97 hf1 hx1 (hv 0 t v rfl rfl),hx2,h2⟩
theorem Mr {W W':World} (hl:laidOutB P=true) (hb:RowKit.Below W.heap.size W W'):∀(ts:List TypeId) (Ts:List Ty) (vs:List Value) (ds:List (DataW H)) (ps:List MemPlace),Ax P ts Ts=true→DataW.TrodAll enc P W 0 (fun _=>true) true ts vs ds ps →
 (∀x∈ps,x.block<W.heap.size)→DataW.TrodAll enc P W' 0 (fun b=>decide (b<W.heap.size)) true ts vs ds ps
 | [],[],vs,ds,ps,_,h,_=>by
  obtain ⟨rfl,rfl,rfl⟩:=trodAll_nil h;rfl
 | [],_::_,vs,ds,ps,hf,_,_=>by simp [Ax] at hf
 | _::_,[],vs,ds,ps,hf,_,_=>by simp [Ax] at hf
 | t::ts,T::Ts,vs,ds,ps,hf,h,hp=>by
  simp only [Ax,az,decide_eq_true_eq] at hf;obtain ⟨⟨⟨-,hf1⟩,hf3⟩,hf2⟩:=hf;obtain ⟨v,vs',d,ds',p,q,rfl,rfl,rfl,hd,hr⟩:=trodAll_cons h;exact ⟨p,q,RowKit.Below.trod hl hf1 hf3 hd hb (fun x hx=>hp x (c6 _ hx)),Mr hl hb ts Ts vs' ds' q hf2 hr (fun x hx=>hp x (fh _ hx)),rfl⟩
def Dr (P:Program) (f:Func):Bool:=match f.resultTypes.toList with
 | [t]=>match P.underlying t with
  | some .bool=>true
  | _=>false
 | _=>false
theorem Ly {f:Func} (h:Dr P f=true):∃tb,f.resultTypes = #[tb]∧P.underlying tb=some .bool:=by
 unfold Dr at h
 split at h
 ·rename_i t ht
  split at h
  ·rename_i hu
   exact ⟨t,by rw [←Array.toList_inj,ht],hu⟩
  ·cases h
 ·cases h
theorem a0v {f:Func} {s:ChangeSpec} {apart fresh:Bool} {W W':World} {args:Array Value} {ds gs:List (DataW H)} {before:List MemPlace} {Ts:List Ty}
 (hW:DataW.Whole enc P f.params.toList s.vars apart W args.toList ds gs before) (hvars:s.vars=[]) (hs:s.fn H (ds++gs) = { results:=[.lit (.bool true)],args:=ds })
 (hr:Dr P f=true) (hl:laidOutB P=true) (hf:Ax P f.params.toList Ts=true) (hb:RowKit.Below W.heap.size W W') :
 s.post enc P f apart fresh false false W args (.bool true) W':=by
 have hW0:=hW;obtain ⟨p,q,hA,hV,rfl,hz,hn⟩:=hW;have hlt:=DataW.TrodAll.lt hA;obtain ⟨tb,hr,htb⟩:=Ly hr;rw [hvars] at hV;obtain ⟨rfl,rfl⟩:=trodVars_none hV;refine ⟨ds,[],_,[],p,[],hW0,?_,?_,?_,hb.frame _,fun h=>by cases h⟩
 ·rw [hs,hr]
  exact ⟨[],[],⟨1,by simp [DataW.trod,Value.cells,htb]⟩,rfl,rfl⟩
 ·rw [hs]
  exact Mr hl hb _ _ _ _ _ hf hA hlt
 ·rw [hs,hvars]
  rfl
end
theorem Tq {P:Program} {num:Nat→Nat} {O:ap} (hO:ma P num O) {F:Nat} {xs:List D} (h:ask O F xs=some (.bool true)) {W:World} {vs:List Value} (hv:RVs ⟨W,fun b=>b<W.heap.size,num⟩ xs vs) :
 Calls P (num F) vs.toArray W fun e W'=>e=.returned (.bool true)∧RowKit.Below W.heap.size W W':=by
 unfold ask at h;obtain ⟨⟨v,bs,nb⟩,h1,h2⟩:=a5.1 h;obtain ⟨hl,-,hcall⟩:=hO F (xs.map .d) [] _ h1 ⟨W,fun b=>b<W.heap.size,num⟩ (fun _ _=>none) vs rfl ⟨by simp,by simp⟩ (fun b hb=>hb) (vf hv)
 refine Calls.mono hcall ?_
 rintro e w' ⟨u,C2,φ2,rfl,rfl,st,-,hu⟩
 have hno:∀b,¬ OwnB (fun _ _=>none) [] b:=by rintro b ⟨i,k,B,o,hB,_⟩; simp at hB
 have hbs:bs=[]:=fj.1 hl;subst hbs;have hx:RV _ (.bool true) u:=uq st.hr v _ u h2 hu;refine ⟨?_,st.os,st.tape,st.out,st.size,fun k hk=>st.kept k hk (hno k)⟩
 simp only [RV,RD,D.isAgg] at hx;obtain ⟨h3,h4⟩:=hx;cases u <;> simp [Value.cells,isAgg] at h3 h4
 rw [h4]
end Pe

/-
 The numbers of the functions.
-/
namespace Pe
abbrev F1x:Nat:=44
abbrev F1y:Nat:=77
abbrev Fc:Nat:=83
abbrev F3c:Nat:=84
abbrev Fg:Nat:=85
abbrev F6:Nat:=92
abbrev Fb:Nat:=162
abbrev Fa:Nat:=163
abbrev Fe:Nat:=191
abbrev F3b:Nat:=226
abbrev Fh:Nat:=227
abbrev F3d:Nat:=228
abbrev F39:Nat:=229
abbrev F7:Nat:=230
abbrev F36:Nat:=231
abbrev F8:Nat:=232
abbrev F37:Nat:=233
abbrev F3a:Nat:=234
abbrev F9:Nat:=235
abbrev F38:Nat:=236
abbrev F1o:Nat:=315
abbrev F1i:Nat:=318
abbrev F12:Nat:=319
abbrev F1v:Nat:=321
abbrev F3i:Nat:=331
abbrev F3x:Nat:=333
abbrev F1q:Nat:=336
abbrev F1b:Nat:=341
abbrev F1a:Nat:=342
abbrev Ft:Nat:=344
abbrev F18:Nat:=347
abbrev F41:Nat:=349
abbrev F3p:Nat:=350
abbrev F3r:Nat:=351
abbrev Fv:Nat:=352
abbrev F19:Nat:=353
abbrev Fz:Nat:=354
abbrev F46:Nat:=355
abbrev F49:Nat:=356
abbrev Fw:Nat:=357
abbrev F16:Nat:=360
abbrev Fo:Nat:=362
abbrev F14:Nat:=363
abbrev F1m:Nat:=364
abbrev Fy:Nat:=365
abbrev F1e:Nat:=375
abbrev F40:Nat:=386
abbrev F1w:Nat:=387
abbrev F3t:Nat:=395
abbrev F1t:Nat:=400
abbrev F3h:Nat:=408
abbrev Fk:Nat:=413
abbrev F3e:Nat:=416
abbrev F3y:Nat:=417
abbrev F3q:Nat:=418
abbrev F1j:Nat:=419
abbrev F17:Nat:=420
abbrev F1s:Nat:=421
abbrev F45:Nat:=444
abbrev F3w:Nat:=445
abbrev F3l:Nat:=446
abbrev F3u:Nat:=448
abbrev F3k:Nat:=451
abbrev Fq:Nat:=452
abbrev F11:Nat:=453
abbrev F3o:Nat:=454
abbrev F3v:Nat:=455
abbrev F43:Nat:=457
abbrev F13:Nat:=458
abbrev F1c:Nat:=469
abbrev F3z:Nat:=471
abbrev F3m:Nat:=476
abbrev F1r:Nat:=477
abbrev F3f:Nat:=479
abbrev F4a:Nat:=498
abbrev F47:Nat:=499
abbrev F48:Nat:=500
abbrev F3j:Nat:=501
abbrev F1u:Nat:=521
abbrev F1d:Nat:=531
abbrev F3s:Nat:=532
abbrev Fr:Nat:=534
abbrev F42:Nat:=556
abbrev Fu:Nat:=557
abbrev F1p:Nat:=558
abbrev F27:Nat:=562
abbrev F1g:Nat:=563
abbrev F10:Nat:=564
abbrev F1k:Nat:=565
abbrev Fx:Nat:=566
abbrev F1n:Nat:=567
abbrev F1l:Nat:=568
abbrev F2a:Nat:=569
abbrev F15:Nat:=570
abbrev Fm:Nat:=571
abbrev F2b:Nat:=573
abbrev F1f:Nat:=574
abbrev F24:Nat:=590
abbrev Fl:Nat:=591
abbrev F3g:Nat:=595
abbrev F44:Nat:=596
abbrev F4b:Nat:=604
abbrev Fi:Nat:=619
abbrev Fs:Nat:=620
abbrev F1h:Nat:=642
abbrev F2x:Nat:=644
abbrev F1z:Nat:=645
abbrev F0:Nat:=646
abbrev F3:Nat:=647
abbrev F2y:Nat:=648
abbrev F26:Nat:=653
abbrev F23:Nat:=658
abbrev Fj:Nat:=659
abbrev F32:Nat:=693
abbrev F2i:Nat:=694
abbrev F2g:Nat:=695
abbrev F2c:Nat:=696
abbrev F2e:Nat:=697
abbrev F2z:Nat:=698
abbrev F2r:Nat:=699
abbrev F2v:Nat:=700
abbrev F2t:Nat:=701
abbrev F20:Nat:=702
abbrev F21:Nat:=703
abbrev F4:Nat:=704
abbrev F5:Nat:=705
abbrev F2j:Nat:=706
abbrev F2h:Nat:=707
abbrev F2d:Nat:=708
abbrev F2f:Nat:=709
abbrev F30:Nat:=710
abbrev F2s:Nat:=711
abbrev F2w:Nat:=712
abbrev F2u:Nat:=713
abbrev F25:Nat:=717
abbrev F31:Nat:=761
abbrev F33:Nat:=762
abbrev F2o:Nat:=763
abbrev F35:Nat:=764
abbrev F2k:Nat:=765
abbrev F2m:Nat:=766
abbrev F34:Nat:=767
abbrev F2l:Nat:=768
abbrev F2n:Nat:=769
abbrev F29:Nat:=797
abbrev F2p:Nat:=798
abbrev F2q:Nat:=799
abbrev F3n:Nat:=1443
abbrev F22:Nat:=1597
abbrev F28:Nat:=1643
def z64:List D:=List.replicate 64 (.int .u8 0)
def z8:List D:=List.replicate 8 (.arr 64 .leaf z64)
abbrev Lw (d s:Nat):Ins:=⟨some d,.mv (.t s),none,[]⟩
abbrev Ll (d:Nat) (o:Op):Ins:=⟨some d,o,none,[]⟩
abbrev Ls (o:Op):Ins:=⟨none,o,none,[]⟩
abbrev Lx (d s g:Nat) (b:Bool):Ins:=⟨some d,.mv (.t s),some (g,b),[]⟩
abbrev Lg (d:Nat) (o:Op) (g:Nat) (b:Bool):Ins:=⟨some d,o,some (g,b),[]⟩
abbrev Sx6:Sh:=.arr 64 .leaf
abbrev Sx8:Sh:=.arr 8 Sx6
abbrev Sx4:List Sh:=[.leaf,Sx6,Sx6,Sx6]
abbrev Acx (n:Int):Arg:=.c (.int .i64 n)
abbrev Ofx (f:Nat) (l:List Arg):Op:=.call .flat [] (.f f) l
abbrev Opx (f:Nat) (l:List Arg):Op:=.call .plain [] (.f f) l
abbrev Ipx (d s:Nat):Ins:=Ll d (.load Sx6 (.t s))
abbrev Ilx (d s:Nat):Ins:=Ll d (.load .leaf (.t s))
abbrev Isx (d s:Nat):Ins:=Ll d (.load Sx8 (.t s))
abbrev Iex (d s k:Nat):Ins:=Ll d (.ext (.t s) k)
abbrev Ibn (d:Nat) (o:Go.BinOp) (a b:Nat):Ins:=Ll d (.bin o (.t a) (.t b))
abbrev Ibc (d:Nat) (o:Go.BinOp) (a:Nat) (b:Int):Ins:=Ll d (.bin o (.t a) (Acx b))
abbrev Imc (d:Nat) (b:Int):Ins:=Ll d (.mv (Acx b))
abbrev Ien (d a:Nat):Ins:=Ll d (.len false (.t a))
abbrev Ibx (d i a:Nat):Ins:=Ll d (.box false i (.t a))
abbrev Ibz (d i:Nat):Ins:=Ll d (.box false i (.c (.arr 64 .leaf z64)))
abbrev Iz6 (d:Nat):Ins:=Ll d (.build false (.arr 64 .leaf z64) [])
abbrev Iia (d:Nat) (s:Sh) (a b:Nat):Ins:=Ll d (.idxA none s (.t a) (.t b))
abbrev Iis (d n:Nat) (s:Sh) (a b:Nat):Ins:=Ll d (.idxA (some n) s (.t a) (.t b))
abbrev Ian (d a b:Nat):Ins:=Ll d (.pick (.t a) (.t b) (.c (.bool false)))
abbrev Ior (d a b:Nat):Ins:=Ll d (.pick (.t a) (.c (.bool true)) (.t b))
abbrev Icv (d:Nat) (k:Go.IntKind) (a:Nat):Ins:=Ll d (.conv k (.t a))
abbrev Irg (a:List Ins) (k:List Nat) (c:Cd):Cd:=.seq (.region a k) c
abbrev Icd (a:Nat) (c d:Cd):Cd:=.cond (.t a) c d
end Pe

/-
 Functions of the program in the small form,printed by a program.
-/
namespace Pe
open Go
def Z1u_L0:Cd:=
 .seq (Irg [Lw 6 3,
 Ibc 7 .gtr 6 0,
 Lw 8 7,
 Lx 9 0 8 true,
 Lx 10 3 8 true,
 Lg 11 (.bin .sub (.t 10) (Acx 1)) 8 true,
 Lg 12 (.idxA none .leaf (.t 9) (.t 11)) 8 true,
 Lg 13 (.load .leaf (.t 12)) 8 true,
 Lg 14 (.bin .eql (.t 13) (Acx 0)) 8 true,
 Ian 15 8 14] [0,3,15]
 (Icd 15
 (.skip)
 (.exit 0)))
 (.block 1 (.region [Lw 16 3,
 Ibc 17 .sub 16 1,
 Lw 3 17] [0,3]))
def Z1u_B:Cd:=
 Irg [Ll 2 (.mv (.c (.sl .leaf [])))] [0]
 (Irg [Lw 4 0,
 Ien 5 4,
 Lw 3 5] [0,3]
 (.seq (.block 0 (.loop (Z1u_L0)))
 (Irg [Lw 18 0,
 Lw 19 3,
 Lw 20 3,
 Ll 21 (.cut none .leaf (.t 18) none (some (.t 19)) (some (.t 20))),
 Lw 2 21] [2]
 (.ret))))
def Z1u:Fn:=
 { nparams:=1,nblk:=0,results:=[.tmp 2],body:=Z1u_B }
def Z1o_L0:Cd:=
 Irg [Ibc 8 .lss 7 64] [3,6,7,8]
 (.seq (Icd 8
 (.skip)
 (.exit 0))
 (.seq (.block 1 (Irg [Ll 9 (.idx (some 64) .leaf (.t 6) (.t 7)),
 Lw 5 9] [3,5,6,7]
 (.region [Lw 10 3,
 Lw 11 5,
 Icv 12 .i64 11,
 Ll 13 (.buildSl false 2 .leaf (.int .i64 0) 1 [(0,(.t 12))]),
 Ll 14 (.append .leaf 3 8 (.t 10) (.t 13)),
 Lw 3 14] [3,6,7])))
 (.region [Ibc 15 .add 7 1,
 Lw 7 15] [3,6,7])))
def Z1o_B:Cd:=
 Irg [Ibx 1 0 0,
 Ll 2 (.mv (.c (.sl .leaf [])))] [1]
 (Irg [Ll 3 (.nilOwn 1 .leaf)] [1,3]
 (.seq (Irg [Ipx 6 1,
 Imc 7 0] [3,6,7]
 (.block 0 (.loop (Z1o_L0))))
 (Irg [Lw 16 3,
 Ll 17 (.call .data [] (.f F1u) [(.t 16)]),
 Lw 2 17] [2]
 (.ret))))
def Z1o:Fn:=
 { nparams:=1,nblk:=4,results:=[.tmp 2],body:=Z1o_B }
def Z1q_B:Cd:=
 Irg [Imc 2 0] [0]
 (Irg [Lw 3 0,
 Ien 4 3,
 Ibc 5 .sub 4 1,
 Lw 2 5] [2]
 (.ret))
def Z1q:Fn:=
 { nparams:=1,nblk:=0,results:=[.tmp 2],body:=Z1q_B }
def Zt_B:Cd:=
 Irg [Ll 2 (.mv (.c (.bool false)))] [0]
 (Irg [Lw 3 0,
 Ibc 4 .eql 3 2,
 Lw 5 4,
 Lx 6 0 5 false,
 Lg 7 (.bin .eql (.t 6) (Acx 3)) 5 false,
 Ior 8 5 7,
 Lw 9 8,
 Lx 10 0 9 false,
 Lg 11 (.bin .eql (.t 10) (Acx 5)) 9 false,
 Ior 12 9 11,
 Lw 13 12,
 Lx 14 0 13 false,
 Lg 15 (.bin .eql (.t 14) (Acx 7)) 13 false,
 Ior 16 13 15,
 Lw 2 16] [2]
 (.ret))
def Zt:Fn:=
 { nparams:=1,nblk:=0,results:=[.tmp 2],body:=Zt_B }
def Zl_B:Cd:=
 Irg [Ibx 2 0 0,
 Ll 3 (.mv (.c (.bool false)))] [1,2]
 (Irg [Ilx 4 1,
 Ipx 5 2,
 Ll 6 (.call .flat [] (.t 4) [(.t 5)]),
 Ll 7 (.un .not (.t 6)),
 Lw 3 7] [3]
 (.ret))
def Zl:Fn:=
 { nparams:=2,nblk:=1,results:=[.tmp 3],body:=Zl_B }
def Zk_B:Cd:=
 Irg [Ibx 3 0 1,
 Ll 4 (.mv (.c (.bool false)))] [0,3]
 (Irg [Lw 5 0,
 Ll 6 (.mkFn Fl [] [(.t 3)]),
 Ll 7 (Ofx F24 [(.t 5),(.t 6)]),
 Ll 8 (.un .not (.t 7)),
 Lw 4 8] [4]
 (.ret))
def Zk:Fn:=
 { nparams:=2,nblk:=1,results:=[.tmp 4],body:=Zk_B }
def Zj_B:Cd:=
 Irg [Ll 3 (.mv (.c (.bool false)))] [0,1]
 (Irg [Ilx 4 1,
 Lw 5 0,
 Ll 6 (.call .flat [] (.t 4) [(.t 5)]),
 Ll 7 (.un .not (.t 6)),
 Lw 3 7] [3]
 (.ret))
def Zj:Fn:=
 { nparams:=2,nblk:=0,results:=[.tmp 3],body:=Zj_B }
def Zi_B:Cd:=
 Irg [Ibx 3 0 1,
 Ll 4 (.mv (.c (.bool false)))] [0,3]
 (Irg [Lw 5 0,
 Ll 6 (.mkFn Fj [] [(.t 3)]),
 Ll 7 (Ofx F23 [(.t 5),(.t 6)]),
 Ll 8 (.un .not (.t 7)),
 Lw 4 8] [4]
 (.ret))
def Zi:Fn:=
 { nparams:=2,nblk:=1,results:=[.tmp 4],body:=Zi_B }
def Zs_B:Cd:=
 Irg [Ll 3 (.mv (.c (.bool false)))] [0,1]
 (Irg [Lw 4 0,
 Icv 5 .i64 4,
 Ilx 6 1,
 Ibn 7 .lss 5 6,
 Lw 3 7] [3]
 (.ret))
def Zs:Fn:=
 { nparams:=2,nblk:=0,results:=[.tmp 3],body:=Zs_B }
def Zr_B:Cd:=
 Irg [Ibx 2 0 0,
 Ibx 3 1 1,
 Ll 4 (.mv (.c (.bool false)))] [2,3]
 (Irg [Ll 5 (.cut (some 64) .leaf (.t 3) none none none),
 Ll 6 (.mkFn Fs [] [(.t 2)]),
 Ll 7 (Ofx Fi [(.t 5),(.t 6)]),
 Lw 4 7] [4]
 (.ret))
def Zr:Fn:=
 { nparams:=2,nblk:=2,results:=[.tmp 4],body:=Zr_B }
def Zx_B:Cd:=
 Irg [Ibx 2 0 0,
 Ll 3 (.mv (.c (.bool false)))] [1,2]
 (Irg [Ilx 4 1,
 Ipx 5 2,
 Ll 6 (Ofx Fr [(.t 4),(.t 5)]),
 Lw 3 6] [3]
 (.ret))
def Zx:Fn:=
 { nparams:=2,nblk:=1,results:=[.tmp 3],body:=Zx_B }
def Zw_B:Cd:=
 Irg [Ibx 2 0 0,
 Imc 4 0] [1,2]
 (.seq (Irg [Ilx 5 2,
 Ll 6 (Ofx Ft [(.t 5)]),
 Ll 7 (.un .not (.t 6)),
 Lw 8 7,
 Lx 9 1 8 false,
 Lg 10 (.mkFn Fx [] [(.t 2)]) 8 false,
 Lg 11 (Ofx Fk [(.t 9),(.t 10)]) 8 false,
 Lg 12 (.un .not (.t 11)) 8 false,
 Ior 13 8 12] [13]
 (Icd 13
 (Irg [Imc 4 1] [4]
 (.ret))
 (.skip)))
 (Irg [Imc 4 0] [4]
 (.ret)))
def Zw:Fn:=
 { nparams:=2,nblk:=1,results:=[.tmp 4],body:=Zw_B }
def Z1w_B:Cd:=
 Irg [Ll 6 (.mv (.c (.bool false)))] [0,1,2]
 (Irg [Lw 7 1,
 Lw 8 0,
 Ibn 9 .leq 7 8,
 Lw 10 9,
 Lx 11 0 10 true,
 Lx 12 2 10 true,
 Lg 13 (.bin .leq (.t 11) (.t 12)) 10 true,
 Ian 14 10 13,
 Lw 6 14] [6]
 (.ret))
def Z1w:Fn:=
 { nparams:=3,nblk:=0,results:=[.tmp 6],body:=Z1w_B }
def Z1s_B:Cd:=
 Irg [Imc 2 0] [0]
 (.seq (Irg [Lw 3 0,
 Ien 4 3,
 Ibc 5 .eql 4 0] [0,5]
 (Icd 5
 (Irg [Imc 2 0] [2]
 (.ret))
 (.skip)))
 (Irg [Lw 6 0,
 Lw 7 0,
 Ien 8 7,
 Ibc 9 .sub 8 1,
 Iia 10 .leaf 6 9,
 Ilx 11 10,
 Lw 2 11] [2]
 (.ret)))
def Z1s:Fn:=
 { nparams:=1,nblk:=0,results:=[.tmp 2],body:=Z1s_B }
def Z1a_L0:Cd:=
 Irg [Ibn 10 .lss 9 8] [0,2,7,8,9,10]
 (.seq (Icd 10
 (.skip)
 (.exit 0))
 (.seq (.block 1 (.seq (Irg [Lw 11 7,
 Lw 12 2,
 Ibn 13 .gtr 11 12] [0,2,7,8,9,13]
 (Icd 13
 (.exit 0)
 (.skip)))
 (.region [Lw 14 7,
 Lw 15 0,
 Ibn 16 .mul 14 15,
 Lw 7 16] [0,2,7,8,9])))
 (.region [Ibc 17 .add 9 1,
 Lw 9 17] [0,2,7,8,9])))
def Z1a_B:Cd:=
 Irg [Imc 6 0] [0,1,2]
 (Irg [Imc 7 1] [0,1,2,7]
 (.seq (Irg [Lw 8 1,
 Imc 9 0] [0,2,7,8,9]
 (.block 0 (.loop (Z1a_L0))))
 (Irg [Lw 18 7,
 Lw 6 18] [6]
 (.ret))))
def Z1a:Fn:=
 { nparams:=3,nblk:=0,results:=[.tmp 6],body:=Z1a_B }
def Z1b_L0:Cd:=
 .seq (Irg [Lw 6 1,
 Ibc 7 .gtr 6 0] [0,1,5,7]
 (Icd 7
 (.skip)
 (.exit 0)))
 (.seq (.block 1 (.region [Lw 11 5,
 Lw 12 1,
 Lw 13 0,
 Ibn 14 .rem 12 13,
 Ll 15 (.buildSl false 1 .leaf (.int .i64 0) 1 [(0,(.t 14))]),
 Ll 16 (.append .leaf 2 8 (.t 11) (.t 15)),
 Lw 5 16] [0,1,5]))
 (.region [Lw 8 1,
 Lw 9 0,
 Ibn 10 .quo 8 9,
 Lw 1 10] [0,1,5]))
def Z1b_B:Cd:=
 Irg [Ll 4 (.mv (.c (.sl .leaf [])))] [0,1]
 (Irg [Ll 5 (.nilOwn 0 .leaf)] [0,1,5]
 (.seq (.block 0 (.loop (Z1b_L0)))
 (Irg [Lw 17 5,
 Lw 4 17] [4]
 (.ret))))
def Z1b:Fn:=
 { nparams:=2,nblk:=3,results:=[.tmp 4],body:=Z1b_B }
def Z1d_B:Cd:=
 Irg [Imc 4 0] [0,1]
 (Irg [Lw 5 1,
 Lw 6 0,
 Ibn 7 .rem 5 6,
 Lw 8 0,
 Ibn 9 .add 7 8,
 Lw 10 0,
 Ibn 11 .rem 9 10,
 Lw 4 11] [4]
 (.ret))
def Z1d:Fn:=
 { nparams:=2,nblk:=0,results:=[.tmp 4],body:=Z1d_B }
def Z1p_B:Cd:=
 Irg [Imc 4 0] [0,1]
 (.seq (Irg [Lw 5 1,
 Lw 6 0,
 Ien 7 6,
 Ibn 8 .lss 5 7] [0,1,8]
 (Icd 8
 (Irg [Lw 9 0,
 Lw 10 1,
 Iia 11 .leaf 9 10,
 Ilx 12 11,
 Lw 4 12] [4]
 (.ret))
 (.skip)))
 (Irg [Imc 4 0] [4]
 (.ret)))
def Z1p:Fn:=
 { nparams:=2,nblk:=0,results:=[.tmp 4],body:=Z1p_B }
def Z12_L0:Cd:=
 Irg [Ibn 20 .lss 19 18] [0,1,2,3,9,18,19,20]
 (.seq (Icd 20
 (.skip)
 (.exit 0))
 (.seq (.block 1 (Irg [Lw 21 19,
 Lw 10 21] [0,1,2,3,9,10,18,19]
 (.region [Lw 22 9,
 Lw 23 10,
 Lw 24 0,
 Lw 25 1,
 Lw 26 10,
 Ll 27 (Ofx F1p [(.t 25),(.t 26)]),
 Lw 28 3,
 Lw 29 2,
 Lw 30 10,
 Ll 31 (Ofx F1p [(.t 29),(.t 30)]),
 Ibn 32 .mul 28 31,
 Ibn 33 .add 27 32,
 Ll 34 (Ofx F1d [(.t 24),(.t 33)]),
 Iia 35 .leaf 22 23,
 Ls (.store false .leaf (.t 35) (.t 34))] [0,1,2,3,9,18,19])))
 (.region [Ibc 36 .add 19 1,
 Lw 19 36] [0,1,2,3,9,18,19])))
def Z12_B:Cd:=
 Irg [Ll 8 (.mv (.c (.sl .leaf [])))] [0,1,2,3]
 (Irg [Lw 11 1,
 Ien 12 11,
 Lw 13 2,
 Ien 14 13,
 Ll 15 (.maxI (.t 12) (.t 14)),
 Ll 16 (.mkSl 0 .leaf (.int .i64 0) 8 (.t 15) (.t 15)),
 Lw 9 16] [0,1,2,3,9]
 (.seq (Irg [Lw 17 9,
 Ien 18 17,
 Imc 19 0] [0,1,2,3,9,18,19]
 (.block 0 (.loop (Z12_L0))))
 (Irg [Lw 37 9,
 Ll 38 (.call .data [] (.f F1u) [(.t 37)]),
 Lw 8 38] [8]
 (.ret))))
def Z12:Fn:=
 { nparams:=4,nblk:=1,results:=[.tmp 8],body:=Z12_B }
def Z1m_L0:Cd:=
 Irg [Ibn 39 .lss 38 37] [0,2,7,8,9,29,30,31,36,37,38,39]
 (.seq (Icd 39
 (.skip)
 (.exit 2))
 (.seq (.block 3 (Irg [Lw 40 38,
 Iia 41 .leaf 36 38,
 Ilx 42 41,
 Lw 10 40,
 Lw 11 42] [0,2,7,8,9,10,11,29,30,31,36,37,38]
 (.region [Lw 43 7,
 Lw 44 8,
 Lw 45 10,
 Ibn 46 .add 44 45,
 Iia 47 .leaf 43 46,
 Ilx 48 47,
 Lw 49 9,
 Lw 50 11,
 Ibn 51 .mul 49 50,
 Ibn 52 .add 48 51,
 Iia 53 .leaf 43 46,
 Ls (.store false .leaf (.t 53) (.t 52))] [0,2,7,8,9,29,30,31,36,37,38])))
 (.region [Ibc 54 .add 38 1,
 Lw 38 54] [0,2,7,8,9,29,30,31,36,37,38])))
def Z1m_L1:Cd:=
 Irg [Ibn 32 .lss 31 30] [0,2,7,29,30,31,32]
 (.seq (Icd 32
 (.skip)
 (.exit 0))
 (.seq (.block 1 (Irg [Lw 33 31,
 Iia 34 .leaf 29 31,
 Ilx 35 34,
 Lw 8 33,
 Lw 9 35] [0,2,7,8,9,29,30,31]
 (Irg [Lw 36 2,
 Ien 37 36,
 Imc 38 0] [0,2,7,8,9,29,30,31,36,37,38]
 (.block 2 (.loop (Z1m_L0))))))
 (.region [Ibc 55 .add 31 1,
 Lw 31 55] [0,2,7,29,30,31])))
def Z1m_L2:Cd:=
 Irg [Ibn 59 .lss 58 57] [0,7,56,57,58,59]
 (.seq (Icd 59
 (.skip)
 (.exit 4))
 (.seq (.block 5 (Irg [Lw 60 58,
 Iia 61 .leaf 56 58,
 Ilx 62 61,
 Lw 12 60,
 Lw 13 62] [0,7,12,13,56,57,58]
 (.region [Lw 63 7,
 Lw 64 12,
 Lw 65 13,
 Lw 66 0,
 Ibn 67 .rem 65 66,
 Iia 68 .leaf 63 64,
 Ls (.store false .leaf (.t 68) (.t 67))] [0,7,56,57,58])))
 (.region [Ibc 69 .add 58 1,
 Lw 58 69] [0,7,56,57,58])))
def Z1m_B:Cd:=
 Irg [Ll 6 (.mv (.c (.sl .leaf [])))] [0,1,2]
 (.seq (Irg [Lw 14 1,
 Ien 15 14,
 Ibc 16 .eql 15 0,
 Lw 17 16,
 Lx 18 2 17 false,
 Lg 19 (.len false (.t 18)) 17 false,
 Lg 20 (.bin .eql (.t 19) (Acx 0)) 17 false,
 Ior 21 17 20] [0,1,2,21]
 (Icd 21
 (Irg [Ll 6 (.mv (.c (.sl .leaf [])))] [6]
 (.ret))
 (.skip)))
 (Irg [Lw 22 1,
 Ien 23 22,
 Lw 24 2,
 Ien 25 24,
 Ibn 26 .add 23 25,
 Ibc 27 .sub 26 1,
 Ll 28 (.mkSl 0 .leaf (.int .i64 0) 8 (.t 27) (.t 27)),
 Lw 7 28] [0,1,2,7]
 (.seq (Irg [Lw 29 1,
 Ien 30 29,
 Imc 31 0] [0,2,7,29,30,31]
 (.block 0 (.loop (Z1m_L1))))
 (.seq (Irg [Lw 56 7,
 Ien 57 56,
 Imc 58 0] [0,7,56,57,58]
 (.block 4 (.loop (Z1m_L2))))
 (Irg [Lw 70 7,
 Ll 71 (.call .data [] (.f F1u) [(.t 70)]),
 Lw 6 71] [6]
 (.ret))))))
def Z1m:Fn:=
 { nparams:=3,nblk:=1,results:=[.tmp 6],body:=Z1m_B }
def Z1j_B:Cd:=
 Irg [Ll 6 (.mv (.c (.sl .leaf [])))] [0,1,2]
 (Irg [Lw 7 0,
 Lw 8 1,
 Lw 9 2,
 Ll 10 (Opx F12 [(.t 7),(.c (.sl .leaf [])),(.t 8),(.t 9)]),
 Lw 6 10] [6]
 (.ret))
def Z1j:Fn:=
 { nparams:=3,nblk:=0,results:=[.tmp 6],body:=Z1j_B }
def Z17_L0:Cd:=
 Irg [Ibn 9 .lss 8 7] [0,1,5,7,8,9]
 (.seq (Icd 9
 (.skip)
 (.exit 0))
 (.seq (.block 1 (.region [Lw 10 5,
 Lw 11 1,
 Ibn 12 .mul 10 11,
 Lw 13 0,
 Ibn 14 .rem 12 13,
 Lw 5 14] [0,1,5,7,8]))
 (.region [Ibc 15 .add 8 1,
 Lw 8 15] [0,1,5,7,8])))
def Z17_B:Cd:=
 Irg [Imc 4 0] [0,1]
 (Irg [Imc 5 1] [0,1,5]
 (.seq (Irg [Lw 6 0,
 Ibc 7 .sub 6 2,
 Imc 8 0] [0,1,5,7,8]
 (.block 0 (.loop (Z17_L0))))
 (Irg [Lw 16 5,
 Lw 4 16] [4]
 (.ret))))
def Z17:Fn:=
 { nparams:=2,nblk:=0,results:=[.tmp 4],body:=Z17_B }
def Z13_L0:Cd:=
 Irg [Ibn 60 .lss 59 58] [0,2,8,9,10,11,12,57,58,59,60]
 (.seq (Icd 60
 (.skip)
 (.exit 2))
 (.seq (.block 3 (Irg [Lw 61 59,
 Iia 62 .leaf 57 59,
 Ilx 63 62,
 Lw 13 61,
 Lw 14 63] [0,2,8,9,10,11,12,13,14,57,58,59]
 (.region [Lw 64 8,
 Lw 65 11,
 Lw 66 13,
 Ibn 67 .add 65 66,
 Lw 68 0,
 Lw 69 8,
 Lw 70 11,
 Lw 71 13,
 Ibn 72 .add 70 71,
 Iia 73 .leaf 69 72,
 Ilx 74 73,
 Lw 75 12,
 Lw 76 14,
 Ibn 77 .mul 75 76,
 Ibn 78 .sub 74 77,
 Ll 79 (Ofx F1d [(.t 68),(.t 78)]),
 Iia 80 .leaf 64 67,
 Ls (.store false .leaf (.t 80) (.t 79))] [0,2,8,9,10,11,12,57,58,59])))
 (.region [Ibc 81 .add 59 1,
 Lw 59 81] [0,2,8,9,10,11,12,57,58,59])))
def Z13_L1:Cd:=
 .seq (Irg [Lw 37 11,
 Ibc 38 .geq 37 0] [0,2,8,9,10,11,38]
 (Icd 38
 (.skip)
 (.exit 0)))
 (.seq (.block 1 (Irg [Lw 41 8,
 Lw 42 11,
 Lw 43 2,
 Ien 44 43,
 Ibn 45 .add 42 44,
 Ibc 46 .sub 45 1,
 Iia 47 .leaf 41 46,
 Ilx 48 47,
 Lw 49 10,
 Ibn 50 .mul 48 49,
 Lw 51 0,
 Ibn 52 .rem 50 51,
 Lw 12 52] [0,2,8,9,10,11,12]
 (Irg [Lw 53 9,
 Lw 54 11,
 Lw 55 12,
 Iia 56 .leaf 53 54,
 Ls (.store false .leaf (.t 56) (.t 55))] [0,2,8,9,10,11,12]
 (Irg [Lw 57 2,
 Ien 58 57,
 Imc 59 0] [0,2,8,9,10,11,12,57,58,59]
 (.block 2 (.loop (Z13_L0)))))))
 (.region [Lw 39 11,
 Ibc 40 .sub 39 1,
 Lw 11 40] [0,2,8,9,10,11]))
def Z13_B:Cd:=
 Irg [Ll 6 (.mv (.c (.sl .leaf []))),
 Ll 7 (.mv (.c (.sl .leaf [])))] [0,1,2]
 (Irg [Lw 15 1,
 Ll 16 (.call .heap [0] (.f F22) [(.t 15)]),
 Lw 8 16] [0,1,2,8]
 (.seq (Irg [Lw 17 1,
 Ien 18 17,
 Lw 19 2,
 Ien 20 19,
 Ibn 21 .lss 18 20] [0,1,2,8,21]
 (Icd 21
 (Irg [Lw 22 8,
 Ll 6 (.mv (.c (.sl .leaf []))),
 Lw 7 22] [6,7]
 (.ret))
 (.skip)))
 (Irg [Lw 23 1,
 Ien 24 23,
 Lw 25 2,
 Ien 26 25,
 Ibn 27 .sub 24 26,
 Ibc 28 .add 27 1,
 Ll 29 (.mkSl 1 .leaf (.int .i64 0) 8 (.t 28) (.t 28)),
 Lw 9 29] [0,2,8,9]
 (Irg [Lw 30 0,
 Lw 31 2,
 Ll 32 (Ofx F1s [(.t 31)]),
 Ll 33 (Ofx F17 [(.t 30),(.t 32)]),
 Lw 10 33] [0,2,8,9,10]
 (.seq (Irg [Lw 34 9,
 Ien 35 34,
 Ibc 36 .sub 35 1,
 Lw 11 36] [0,2,8,9,10,11]
 (.block 0 (.loop (Z13_L1))))
 (Irg [Lw 82 9,
 Ll 83 (.call .data [] (.f F1u) [(.t 82)]),
 Lw 84 8,
 Ll 85 (.call .data [] (.f F1u) [(.t 84)]),
 Lw 6 83,
 Lw 7 85] [6,7]
 (.ret)))))))
def Z13:Fn:=
 { nparams:=3,nblk:=2,results:=[.tmp 6,.tmp 7],body:=Z13_B }
def Z11_L0:Cd:=
 .seq (Irg [Lw 18 2,
 Ien 19 18,
 Ibc 20 .gtr 19 0] [0,1,2,9,10,11,12,20]
 (Icd 20
 (.skip)
 (.exit 0)))
 (.block 1 (Irg [Lw 22 0,
 Lw 23 1,
 Lw 24 2,
 Ll 25 (Opx F13 [(.t 22),(.t 23),(.t 24)]),
 Lw 21 25,
 Iex 26 21 0,
 Iex 27 21 1,
 Lw 13 26,
 Lw 14 27] [0,2,9,10,11,12,13,14]
 (Irg [Lw 28 2,
 Lw 29 14,
 Lw 1 28,
 Lw 2 29] [0,1,2,9,10,11,12,13]
 (Irg [Lw 30 11,
 Lw 31 0,
 Lw 32 9,
 Lw 33 0,
 Lw 34 13,
 Lw 35 11,
 Ll 36 (Opx F1m [(.t 33),(.t 34),(.t 35)]),
 Ll 37 (.call .data [] (.f F12) [(.t 31),(.t 32),(.t 36),(Acx (-1))]),
 Lw 9 30,
 Lw 11 37] [0,1,2,9,10,11,12,13]
 (.region [Lw 38 12,
 Lw 39 0,
 Lw 40 10,
 Lw 41 0,
 Lw 42 13,
 Lw 43 12,
 Ll 44 (.call .data [] (.f F1m) [(.t 41),(.t 42),(.t 43)]),
 Ll 45 (.call .data [] (.f F12) [(.t 39),(.t 40),(.t 44),(Acx (-1))]),
 Lw 10 38,
 Lw 12 45] [0,1,2,9,10,11,12])))))
def Z11_B:Cd:=
 Irg [Ll 6 (.mv (.c (.sl .leaf []))),
 Ll 7 (.mv (.c (.sl .leaf []))),
 Ll 8 (.mv (.c (.sl .leaf [])))] [0,1,2]
 (Irg [Ll 16 (.buildSl false 0 .leaf (.int .i64 0) 1 [(0,(Acx 1))]),
 Lw 9 16,
 Ll 10 (.mv (.c (.sl .leaf [])))] [0,1,2,9,10]
 (Irg [Ll 17 (.buildSl false 1 .leaf (.int .i64 0) 1 [(0,(Acx 1))]),
 Ll 11 (.mv (.c (.sl .leaf []))),
 Lw 12 17] [0,1,2,9,10,11,12]
 (.seq (.block 0 (.loop (Z11_L0)))
 (Irg [Lw 46 0,
 Lw 47 1,
 Ll 48 (Ofx F1s [(.t 47)]),
 Ll 49 (Ofx F17 [(.t 46),(.t 48)]),
 Lw 15 49] [0,1,9,10,15]
 (Irg [Lw 50 0,
 Lw 51 1,
 Lw 52 15,
 Ll 53 (Opx F1j [(.t 50),(.t 51),(.t 52)]),
 Lw 54 0,
 Lw 55 9,
 Lw 56 15,
 Ll 57 (.call .data [] (.f F1j) [(.t 54),(.t 55),(.t 56)]),
 Lw 58 0,
 Lw 59 10,
 Lw 60 15,
 Ll 61 (.call .data [] (.f F1j) [(.t 58),(.t 59),(.t 60)]),
 Lw 6 53,
 Lw 7 57,
 Lw 8 61] [6,7,8]
 (.ret))))))
def Z11:Fn:=
 { nparams:=3,nblk:=2,results:=[.tmp 6,.tmp 7,.tmp 8],body:=Z11_B }
def Z16_B:Cd:=
 Irg [Ll 6 (.mv (.c (.sl .leaf [])))] [0,1,2]
 (Irg [Lw 11 0,
 Lw 12 1,
 Lw 13 2,
 Ll 14 (Opx F11 [(.t 11),(.t 12),(.t 13)]),
 Lw 10 14,
 Iex 15 10 0,
 Iex 16 10 1,
 Iex 17 10 2,
 Lw 7 15,
 Lw 8 16,
 Lw 9 17] [7]
 (Irg [Lw 18 7,
 Lw 6 18] [6]
 (.ret)))
def Z16:Fn:=
 { nparams:=3,nblk:=0,results:=[.tmp 6],body:=Z16_B }
def Z1i_B:Cd:=
 Irg [Ll 6 (.mv (.c (.sl .leaf [])))] [0,1,2]
 (Irg [Lw 10 0,
 Lw 11 1,
 Lw 12 2,
 Ll 13 (Opx F13 [(.t 10),(.t 11),(.t 12)]),
 Lw 9 13,
 Iex 14 9 0,
 Iex 15 9 1,
 Lw 7 14,
 Lw 8 15] [8]
 (Irg [Lw 16 8,
 Lw 6 16] [6]
 (.ret)))
def Z1i:Fn:=
 { nparams:=3,nblk:=0,results:=[.tmp 6],body:=Z1i_B }
def Z1c_L0:Cd:=
 .seq (Irg [Lw 19 2,
 Ibc 20 .gtr 19 0] [0,2,3,9,10,20]
 (Icd 20
 (.skip)
 (.exit 0)))
 (.seq (.block 1 (.seq (Irg [Lw 23 2,
 Ibc 24 .and 23 1,
 Ibc 25 .eql 24 1] [0,2,3,9,10,25]
 (Icd 25
 (.region [Lw 26 0,
 Lw 27 0,
 Lw 28 9,
 Lw 29 10,
 Ll 30 (Opx F1m [(.t 27),(.t 28),(.t 29)]),
 Lw 31 3,
 Ll 32 (Opx F1i [(.t 26),(.t 30),(.t 31)]),
 Lw 9 32] [0,2,3,9,10])
 (.skip)))
 (.region [Lw 33 0,
 Lw 34 0,
 Lw 35 10,
 Lw 36 10,
 Ll 37 (Opx F1m [(.t 34),(.t 35),(.t 36)]),
 Lw 38 3,
 Ll 39 (Opx F1i [(.t 33),(.t 37),(.t 38)]),
 Lw 10 39] [0,2,3,9,10])))
 (.region [Lw 21 2,
 Ll 22 (.bin .shr (.t 21) (.c (.int .u64 1))),
 Lw 2 22] [0,2,3,9,10]))
def Z1c_B:Cd:=
 Irg [Ll 8 (.mv (.c (.sl .leaf [])))] [0,1,2,3]
 (Irg [Lw 11 0,
 Ll 12 (.buildSl false 0 .leaf (.int .i64 0) 1 [(0,(Acx 1))]),
 Lw 13 3,
 Ll 14 (.call .data [] (.f F1i) [(.t 11),(.t 12),(.t 13)]),
 Lw 15 0,
 Lw 16 1,
 Lw 17 3,
 Ll 18 (Opx F1i [(.t 15),(.t 16),(.t 17)]),
 Lw 9 14,
 Lw 10 18] [0,2,3,9,10]
 (.seq (.block 0 (.loop (Z1c_L0)))
 (Irg [Lw 40 9,
 Lw 8 40] [8]
 (.ret))))
def Z1c:Fn:=
 { nparams:=4,nblk:=1,results:=[.tmp 8],body:=Z1c_B }
def Z1t_L0:Cd:=
 Irg [Ibn 9 .lss 8 7] [2,3,6,7,8,9]
 (.seq (Icd 9
 (.skip)
 (.exit 0))
 (.seq (.block 1 (Irg [Lw 10 8,
 Iia 11 .leaf 6 8,
 Ilx 12 11,
 Lw 4 10,
 Lw 5 12] [2,3,4,5,6,7,8]
 (.region [Lw 13 4,
 Lw 14 5,
 Icv 15 .u8 14,
 Iis 16 64 .leaf 3 13,
 Ls (.store false .leaf (.t 16) (.t 15))] [2,3,6,7,8])))
 (.region [Ibc 17 .add 8 1,
 Lw 8 17] [2,3,6,7,8])))
def Z1t_B:Cd:=
 Irg [Ibz 2 0] [0,2]
 (Irg [Ibz 3 1] [0,2,3]
 (.seq (Irg [Lw 6 0,
 Ien 7 6,
 Imc 8 0] [2,3,6,7,8]
 (.block 0 (.loop (Z1t_L0))))
 (Irg [Ipx 18 3,
 Ls (.store false Sx6 (.t 2) (.t 18))] [2]
 (.ret))))
def Z1t:Fn:=
 { nparams:=1,nblk:=2,results:=[.cell 2 Sx6],body:=Z1t_B }
def Z1r_B:Cd:=
 Irg [Ll 2 (.mv (.c (.bool false)))] [0]
 (Irg [Lw 3 0,
 Ll 4 (Ofx F1q [(.t 3)]),
 Ibc 5 .leq 4 63,
 Lw 2 5] [2]
 (.ret))
def Z1r:Fn:=
 { nparams:=1,nblk:=0,results:=[.tmp 2],body:=Z1r_B }
def Z1v_B:Cd:=
 Irg [Ibz 2 0,
 Imc 3 0] [0,2]
 (.seq (Irg [Lw 4 0,
 Ll 5 (Ofx F1r [(.t 4)]),
 Ll 6 (.un .not (.t 5))] [0,2,6]
 (Icd 6
 (Irg [Iz6 7,
 Ls (.store false Sx6 (.t 2) (.t 7)),
 Imc 3 3] [2,3]
 (.ret))
 (.skip)))
 (Irg [Lw 8 0,
 Ll 9 (Ofx F1t [(.t 8)]),
 Ls (.store false Sx6 (.t 2) (.t 9)),
 Imc 3 0] [2,3]
 (.ret)))
def Z1v:Fn:=
 { nparams:=1,nblk:=1,results:=[.cell 2 Sx6,.tmp 3],body:=Z1v_B }
def Zg_B:Cd:=
 Irg [Ibx 4 0 1,
 Ibx 5 1 2,
 Ibz 6 2,
 Imc 7 0] [0,4,5,6]
 (.seq (Irg [Lw 9 0,
 Ipx 10 4,
 Ipx 11 5,
 Ll 12 (.buildSl false 3 Sx6 (.arr 64 .leaf z64) 2 [(0,(.t 10)),(1,(.t 11))]),
 Ll 13 (Ofx Fw [(.t 9),(.t 12)]),
 Lw 8 13] [0,4,5,6,8]
 (Irg [Lw 14 8,
 Ibc 15 .neq 14 0] [0,4,5,6,8,15]
 (Icd 15
 (Irg [Iz6 16,
 Lw 17 8,
 Ls (.store false Sx6 (.t 6) (.t 16)),
 Lw 7 17] [6,7]
 (.ret))
 (.skip))))
 (Irg [Lw 18 0,
 Ipx 19 4,
 Ll 20 (Opx F1o [(.t 19)]),
 Ipx 21 5,
 Ll 22 (Opx F1o [(.t 21)]),
 Ll 23 (Opx F12 [(.t 18),(.t 20),(.t 22),(Acx (-1))]),
 Ll 24 (Ofx F1v [(.t 23)]),
 Iex 25 24 0,
 Iex 26 24 1,
 Ls (.store false Sx6 (.t 6) (.t 25)),
 Lw 7 26] [6,7]
 (.ret)))
def Zg:Fn:=
 { nparams:=3,nblk:=4,results:=[.cell 6 Sx6,.tmp 7],body:=Zg_B }
def Zb_B:Cd:=
 Irg [Ibx 4 0 1,
 Ibx 5 1 2,
 Ibz 6 2,
 Ibz 7 3,
 Imc 8 0] [0,4,5,6,7]
 (.seq (Irg [Lw 12 0,
 Ipx 13 4,
 Ipx 14 5,
 Ll 15 (.buildSl false 4 Sx6 (.arr 64 .leaf z64) 2 [(0,(.t 13)),(1,(.t 14))]),
 Ll 16 (Ofx Fw [(.t 12),(.t 15)]),
 Lw 9 16] [0,4,5,6,7,9]
 (Irg [Lw 17 9,
 Ibc 18 .neq 17 0] [0,4,5,6,7,9,18]
 (Icd 18
 (Irg [Iz6 19,
 Iz6 20,
 Lw 21 9,
 Ls (.store false Sx6 (.t 6) (.t 19)),
 Ls (.store false Sx6 (.t 7) (.t 20)),
 Lw 8 21] [6,7,8]
 (.ret))
 (.skip))))
 (.seq (Irg [Ipx 22 5,
 Iz6 23,
 Ll 24 (.eqv false (.arr 64 .leaf .int) (.t 22) (.t 23))] [0,4,5,6,7,24]
 (Icd 24
 (Irg [Iz6 25,
 Iz6 26,
 Ls (.store false Sx6 (.t 6) (.t 25)),
 Ls (.store false Sx6 (.t 7) (.t 26)),
 Imc 8 5] [6,7,8]
 (.ret))
 (.skip)))
 (Irg [Lw 28 0,
 Ipx 29 4,
 Ll 30 (Opx F1o [(.t 29)]),
 Ipx 31 5,
 Ll 32 (Opx F1o [(.t 31)]),
 Ll 33 (Opx F13 [(.t 28),(.t 30),(.t 32)]),
 Lw 27 33,
 Iex 34 27 0,
 Iex 35 27 1,
 Lw 10 34,
 Lw 11 35] [6,7,10,11]
 (Irg [Lw 36 10,
 Ll 37 (Ofx F1t [(.t 36)]),
 Lw 38 11,
 Ll 39 (Ofx F1t [(.t 38)]),
 Ls (.store false Sx6 (.t 6) (.t 37)),
 Ls (.store false Sx6 (.t 7) (.t 39)),
 Imc 8 0] [6,7,8]
 (.ret)))))
def Zb:Fn:=
 { nparams:=3,nblk:=5,results:=[.cell 6 Sx6,.cell 7 Sx6,.tmp 8],body:=Zb_B }
def Za_B:Cd:=
 Irg [Ibx 3 0 1,
 Imc 4 0,
 Imc 5 0] [0,3]
 (.seq (Irg [Lw 7 0,
 Ipx 8 3,
 Ll 9 (.buildSl false 1 Sx6 (.arr 64 .leaf z64) 1 [(0,(.t 8))]),
 Ll 10 (Ofx Fw [(.t 7),(.t 9)]),
 Lw 6 10] [3,6]
 (Irg [Lw 11 6,
 Ibc 12 .neq 11 0] [3,6,12]
 (Icd 12
 (Irg [Lw 13 6,
 Imc 4 0,
 Lw 5 13] [4,5]
 (.ret))
 (.skip))))
 (Irg [Ipx 14 3,
 Ll 15 (Opx F1o [(.t 14)]),
 Ll 16 (Ofx F1q [(.t 15)]),
 Lw 4 16,
 Imc 5 0] [4,5]
 (.ret)))
def Za:Fn:=
 { nparams:=2,nblk:=2,results:=[.tmp 4,.tmp 5],body:=Za_B }
end Pe

/-
 Functions of the program in the small form,printed by a program.
-/
namespace Pe
open Go
def Zu_B:Cd:=
 Irg [Ll 0 (.mv (.c (.sl .leaf [])))] []
 (Irg [Ll 1 (.buildSl false 0 .leaf (.int .i64 0) 2 [(0,(Acx 0)),(1,(Acx 1))]),
 Lw 0 1] [0]
 (.ret))
def Zu:Fn:=
 { nparams:=0,nblk:=1,results:=[.tmp 0],body:=Zu_B }
def Z1n_L0:Cd:=
 .seq (Irg [Lw 25 8,
 Lw 26 7,
 Ll 27 (.bin .mul (Acx 2) (.t 26)),
 Ibn 28 .lss 25 27] [0,1,7,8,28]
 (Icd 28
 (.skip)
 (.exit 0)))
 (.seq (.block 1 (Irg [Lw 31 0,
 Lw 32 8,
 Ll 33 (Opx F1b [(.t 31),(.t 32)]),
 Lw 9 33] [0,1,7,8,9]
 (Irg [Lw 34 0,
 Lw 35 1,
 Lw 36 9,
 Ll 37 (Opx F1i [(.t 34),(.t 35),(.t 36)]),
 Ien 38 37,
 Ibc 39 .eql 38 0] [0,1,7,8,9,39]
 (Icd 39
 (Irg [Lw 40 9,
 Lw 6 40] [6]
 (.ret))
 (.skip)))))
 (.region [Lw 29 8,
 Ibc 30 .add 29 1,
 Lw 8 30] [0,1,7,8]))
def Z1n_B:Cd:=
 Irg [Ll 6 (.mv (.c (.sl .leaf [])))] [0,1,2]
 (.seq (Irg [Lw 10 1,
 Ll 11 (Ofx F1q [(.t 10)]),
 Lw 12 2,
 Ibn 13 .eql 11 12] [0,1,2,13]
 (Icd 13
 (Irg [Lw 14 0,
 Lw 15 1,
 Lw 16 0,
 Lw 17 1,
 Ll 18 (Ofx F1s [(.t 17)]),
 Ll 19 (Ofx F17 [(.t 16),(.t 18)]),
 Ll 20 (Opx F1j [(.t 14),(.t 15),(.t 19)]),
 Lw 6 20] [6]
 (.ret))
 (.skip)))
 (Irg [Lw 21 0,
 Lw 22 2,
 Ll 23 (Ofx F1a [(.t 21),(.t 22),(Acx 1099511627776)]),
 Lw 7 23] [0,1,7]
 (.seq (Irg [Lw 24 7,
 Lw 8 24] [0,1,7,8]
 (.block 0 (.loop (Z1n_L0))))
 (Irg [Lw 41 1,
 Lw 6 41] [6]
 (.ret)))))
def Z1n:Fn:=
 { nparams:=3,nblk:=0,results:=[.tmp 6],body:=Z1n_B }
def Z1l_L0:Cd:=
 .block 1 (Irg [Lw 12 0,
 Lw 13 1,
 Lw 14 2,
 Ll 15 (Opx F13 [(.t 12),(.t 13),(.t 14)]),
 Lw 11 15,
 Iex 16 11 0,
 Iex 17 11 1,
 Lw 9 16,
 Lw 10 17] [0,1,2,8,9,10]
 (.seq (Irg [Lw 18 10,
 Ien 19 18,
 Ibc 20 .gtr 19 0] [0,1,2,8,9,20]
 (Icd 20
 (Irg [Lw 21 1,
 Lw 22 8,
 Lw 6 21,
 Lw 7 22] [6,7]
 (.ret))
 (.skip)))
 (Irg [Lw 23 9,
 Lw 1 23] [0,1,2,8]
 (.region [Lw 24 8,
 Ibc 25 .add 24 1,
 Lw 8 25] [0,1,2,8]))))
def Z1l_B:Cd:=
 Irg [Ll 6 (.mv (.c (.sl .leaf []))),
 Imc 7 0] [0,1,2]
 (Irg [Imc 8 0] [0,1,2,8]
 (.block 0 (.loop (Z1l_L0))))
def Z1l:Fn:=
 { nparams:=3,nblk:=0,results:=[.tmp 6,.tmp 7],body:=Z1l_B }
def Zm_L0:Cd:=
 .seq (Irg [Lw 19 6,
 Ibc 20 .geq 19 0] [0,1,6,20]
 (Icd 20
 (.skip)
 (.exit 0)))
 (.seq (.block 1 (Irg [Lw 23 0,
 Lw 24 6,
 Iia 25 .leaf 23 24,
 Ilx 26 25,
 Lw 27 1,
 Lw 28 6,
 Iia 29 .leaf 27 28,
 Ilx 30 29,
 Ll 31 (Ofx F3 [(.t 26),(.t 30)]),
 Lw 7 31] [0,1,6,7]
 (Irg [Lw 32 7,
 Ibc 33 .neq 32 0] [0,1,6,7,33]
 (Icd 33
 (Irg [Lw 34 7,
 Lw 4 34] [4]
 (.ret))
 (.skip)))))
 (.region [Lw 21 6,
 Ibc 22 .sub 21 1,
 Lw 6 22] [0,1,6]))
def Zm_B:Cd:=
 Irg [Imc 4 0] [0,1]
 (.seq (Irg [Lw 8 0,
 Ien 9 8,
 Lw 10 1,
 Ien 11 10,
 Ll 12 (Ofx F0 [(.t 9),(.t 11)]),
 Lw 5 12] [0,1,5]
 (Irg [Lw 13 5,
 Ibc 14 .neq 13 0] [0,1,5,14]
 (Icd 14
 (Irg [Lw 15 5,
 Lw 4 15] [4]
 (.ret))
 (.skip))))
 (.seq (Irg [Lw 16 0,
 Ien 17 16,
 Ibc 18 .sub 17 1,
 Lw 6 18] [0,1,6]
 (.block 0 (.loop (Zm_L0))))
 (Irg [Imc 4 0] [4]
 (.ret))))
def Zm:Fn:=
 { nparams:=2,nblk:=0,results:=[.tmp 4],body:=Zm_B }
def Z15_B:Cd:=
 Irg [Ibx 2 0 0,
 Ibx 3 1 1,
 Imc 4 0] [2,3]
 (Irg [Ll 5 (.fldA [.leaf,.leaf] (.t 2) 0),
 Ilx 6 5,
 Ll 7 (.fldA [.leaf,.leaf] (.t 3) 0),
 Ilx 8 7,
 Ll 9 (Ofx Fm [(.t 6),(.t 8)]),
 Lw 4 9] [4]
 (.ret))
def Z15:Fn:=
 { nparams:=2,nblk:=2,results:=[.tmp 4],body:=Z15_B }
def Z14_L0:Cd:=
 Irg [Ibn 36 .lss 35 34] [0,1,5,6,7,34,35,36]
 (.seq (Icd 36
 (.skip)
 (.exit 2))
 (.seq (.block 3 (.region [Lw 37 0,
 Lw 38 7,
 Lw 39 0,
 Lw 40 1,
 Ll 41 (Opx F1c [(.t 37),(.t 38),(.t 39),(.t 40)]),
 Lw 7 41] [0,1,5,6,7,34,35]))
 (.region [Ibc 42 .add 35 1,
 Lw 35 42] [0,1,5,6,7,34,35])))
def Z14_L1:Cd:=
 .seq (Irg [Lw 50 8,
 Ll 51 (Ofx F1q [(.t 50)]),
 Ibc 52 .gtr 51 0] [0,1,5,6,8,52]
 (Icd 52
 (.skip)
 (.exit 4)))
 (.block 5 (Irg [Lw 53 0,
 Lw 54 8,
 Lw 55 6,
 Ll 56 (Opx F1n [(.t 53),(.t 54),(.t 55)]),
 Lw 9 56] [0,1,5,6,8,9]
 (Irg [Lw 58 0,
 Lw 59 1,
 Lw 60 9,
 Ll 61 (Opx F1l [(.t 58),(.t 59),(.t 60)]),
 Lw 57 61,
 Iex 62 57 0,
 Iex 63 57 1,
 Lw 10 62,
 Lw 11 63] [0,5,6,8,9,10,11]
 (Irg [Lw 64 10,
 Lw 1 64] [0,1,5,6,8,9,11]
 (Irg [Lw 66 0,
 Lw 67 8,
 Lw 68 9,
 Ll 69 (Opx F1l [(.t 66),(.t 67),(.t 68)]),
 Lw 65 69,
 Iex 70 65 0,
 Iex 71 65 1,
 Lw 8 70] [0,1,5,6,8,9,11]
 (.region [Lw 72 5,
 Lw 73 9,
 Lw 74 11,
 Ll 75 (.build false (.st [.leaf,.leaf] [(.sl .leaf []),(.int .i64 0)]) [(0,(.t 73)),(1,(.t 74))]),
 Ll 76 (.buildSl false 3 (.st [.leaf,.leaf]) (.st [.leaf,.leaf] [(.sl .leaf []),(.int .i64 0)]) 1 [(0,(.t 75))]),
 Ll 77 (.append (.st [.leaf,.leaf]) 4 32 (.t 72) (.t 76)),
 Lw 5 77] [0,1,5,6,8]))))))
def Z14_L2:Cd:=
 .seq (Irg [Lw 12 1,
 Ll 13 (Ofx F1q [(.t 12)]),
 Ibc 14 .gtr 13 0] [0,1,5,6,14]
 (Icd 14
 (.skip)
 (.exit 0)))
 (.seq (.block 1 (.seq (Irg [Lw 17 6,
 Ll 18 (.bin .mul (Acx 2) (.t 17)),
 Lw 19 1,
 Ll 20 (Ofx F1q [(.t 19)]),
 Ibn 21 .gtr 18 20] [0,1,5,6,21]
 (Icd 21
 (Irg [Lw 22 5,
 Lw 23 0,
 Lw 24 1,
 Lw 25 0,
 Lw 26 1,
 Ll 27 (Ofx F1s [(.t 26)]),
 Ll 28 (Ofx F17 [(.t 25),(.t 27)]),
 Ll 29 (Opx F1j [(.t 23),(.t 24),(.t 28)]),
 Ll 30 (.build false (.st [.leaf,.leaf] [(.sl .leaf []),(.int .i64 0)]) [(0,(.t 29)),(1,(Acx 1))]),
 Ll 31 (.buildSl false 1 (.st [.leaf,.leaf]) (.st [.leaf,.leaf] [(.sl .leaf []),(.int .i64 0)]) 1 [(0,(.t 30))]),
 Ll 32 (.append (.st [.leaf,.leaf]) 2 32 (.t 22) (.t 31)),
 Lw 5 32] [5]
 (.exit 0))
 (.skip)))
 (Irg [Ll 33 (Opx Fu []),
 Lw 7 33] [0,1,5,6,7]
 (.seq (Irg [Lw 34 6,
 Imc 35 0] [0,1,5,6,7,34,35]
 (.block 2 (.loop (Z14_L0))))
 (Irg [Lw 43 0,
 Lw 44 0,
 Lw 45 7,
 Ll 46 (Opx Fu []),
 Ll 47 (Opx F12 [(.t 44),(.t 45),(.t 46),(Acx (-1))]),
 Lw 48 1,
 Ll 49 (Opx F16 [(.t 43),(.t 47),(.t 48)]),
 Lw 8 49] [0,1,5,6,8]
 (.block 4 (.loop (Z14_L1))))))))
 (.region [Lw 15 6,
 Ibc 16 .add 15 1,
 Lw 6 16] [0,1,5,6]))
def Z14_B:Cd:=
 Irg [Ll 4 (.mv (.c (.sl (.st [.leaf,.leaf]) [])))] [0,1]
 (Irg [Ll 5 (.nilOwn 0 (.st [.leaf,.leaf]))] [0,1,5]
 (.seq (Irg [Imc 6 1] [0,1,5,6]
 (.block 0 (.loop (Z14_L2))))
 (Irg [Lw 78 5,
 Ll 79 (.call .heap [] (.f F2a) [(.t 78),(.f F15)])] [5]
 (Irg [Lw 80 5,
 Lw 4 80] [4]
 (.ret)))))
def Z14:Fn:=
 { nparams:=2,nblk:=5,results:=[.tmp 4],body:=Z14_B }
def Z18_B:Cd:=
 Irg [Ll 4 (.mv (.c (.bool false)))] [0,1]
 (.seq (Irg [Lw 6 1,
 Ll 7 (Ofx F1s [(.t 6)]),
 Ibc 8 .neq 7 1,
 Lw 9 8,
 Lx 10 1 9 false,
 Lg 11 (Ofx F1q [(.t 10)]) 9 false,
 Lg 12 (.bin .lss (.t 11) (Acx 1)) 9 false,
 Ior 13 9 12] [0,1,13]
 (Icd 13
 (Irg [Ll 4 (.mv (.c (.bool false)))] [4]
 (.ret))
 (.skip)))
 (Irg [Lw 14 0,
 Lw 15 1,
 Ll 16 (Opx F14 [(.t 14),(.t 15)]),
 Lw 5 16] [5]
 (Irg [Lw 17 5,
 Ien 18 17,
 Ibc 19 .eql 18 1,
 Lw 20 19,
 Lx 21 5 20 true,
 Lg 22 (.idxA none (.st [.leaf,.leaf]) (.t 21) (Acx 0)) 20 true,
 Lg 23 (.fldA [.leaf,.leaf] (.t 22) 1) 20 true,
 Lg 24 (.load .leaf (.t 23)) 20 true,
 Lg 25 (.bin .eql (.t 24) (Acx 1)) 20 true,
 Ian 26 20 25,
 Lw 4 26] [4]
 (.ret))))
def Z18:Fn:=
 { nparams:=2,nblk:=0,results:=[.tmp 4],body:=Z18_B }
def Zq_B:Cd:=
 Irg [Ibx 1 0 0,
 Ll 2 (.mv (.c (.bool false)))] [1]
 (Irg [Ipx 4 1,
 Ll 5 (Opx F1o [(.t 4)]),
 Lw 3 5] [3]
 (Irg [Lw 6 3,
 Ll 7 (Ofx F1s [(.t 6)]),
 Ibc 8 .eql 7 1,
 Lw 9 8,
 Lx 10 3 9 true,
 Lg 11 (Ofx F1q [(.t 10)]) 9 true,
 Lg 12 (Ofx F1w [(.t 11),(Acx 1),(Acx 5)]) 9 true,
 Ian 13 9 12,
 Lw 2 13] [2]
 (.ret)))
def Zq:Fn:=
 { nparams:=1,nblk:=1,results:=[.tmp 2],body:=Zq_B }
def Zv_B:Cd:=
 Irg [Ibx 4 0 1,
 Imc 6 0] [0,2,4]
 (.seq (Irg [Lw 8 0,
 Lw 9 2,
 Ipx 10 4,
 Ll 11 (.buildSl false 1 Sx6 (.arr 64 .leaf z64) 1 [(0,(.t 10))]),
 Ll 12 (.append Sx6 2 64 (.t 9) (.t 11)),
 Ll 13 (Ofx Fw [(.t 8),(.t 12)]),
 Lw 7 13] [4,7]
 (Irg [Lw 14 7,
 Ibc 15 .neq 14 0] [4,7,15]
 (Icd 15
 (Irg [Lw 16 7,
 Lw 6 16] [6]
 (.ret))
 (.skip))))
 (.seq (Irg [Ipx 17 4,
 Ll 18 (Ofx Fq [(.t 17)]),
 Ll 19 (.un .not (.t 18))] [19]
 (Icd 19
 (Irg [Imc 6 2] [6]
 (.ret))
 (.skip)))
 (Irg [Imc 6 0] [6]
 (.ret))))
def Zv:Fn:=
 { nparams:=3,nblk:=3,results:=[.tmp 6],body:=Zv_B }
def Zo_B:Cd:=
 Irg [Ibx 5 0 1,
 Imc 8 0] [0,2,3,5]
 (.seq (Irg [Lw 10 0,
 Ipx 11 5,
 Ll 12 (.buildSl false 1 Sx6 (.arr 64 .leaf z64) 1 [(0,(.t 11))]),
 Ll 13 (Ofx Fw [(.t 10),(.t 12)]),
 Lw 9 13] [2,3,5,9]
 (Irg [Lw 14 9,
 Ibc 15 .neq 14 0] [2,3,5,9,15]
 (Icd 15
 (Irg [Lw 16 9,
 Lw 8 16] [8]
 (.ret))
 (.skip))))
 (.seq (Irg [Ipx 17 5,
 Ll 18 (Opx F1o [(.t 17)]),
 Ll 19 (Ofx F1q [(.t 18)]),
 Lw 20 2,
 Lw 21 3,
 Ll 22 (Ofx F1w [(.t 19),(.t 20),(.t 21)]),
 Ll 23 (.un .not (.t 22))] [23]
 (Icd 23
 (Irg [Imc 8 2] [8]
 (.ret))
 (.skip)))
 (Irg [Imc 8 0] [8]
 (.ret))))
def Zo:Fn:=
 { nparams:=4,nblk:=2,results:=[.tmp 8],body:=Zo_B }
def Ze_B:Cd:=
 Irg [Ibx 3 0 1,
 Ll 4 (.mv (.c (.bool false))),
 Imc 5 0] [0,3]
 (.seq (Irg [Lw 7 0,
 Ipx 8 3,
 Ll 9 (Ofx Fo [(.t 7),(.t 8),(Acx (-1)),(Acx 12)]),
 Lw 6 9] [0,3,6]
 (Irg [Lw 10 6,
 Ibc 11 .neq 10 0] [0,3,6,11]
 (Icd 11
 (Irg [Lw 12 6,
 Ll 4 (.mv (.c (.bool false))),
 Lw 5 12] [4,5]
 (.ret))
 (.skip))))
 (Irg [Lw 13 0,
 Ipx 14 3,
 Ll 15 (Opx F1o [(.t 14)]),
 Ll 16 (Ofx F18 [(.t 13),(.t 15)]),
 Lw 4 16,
 Imc 5 0] [4,5]
 (.ret)))
def Ze:Fn:=
 { nparams:=2,nblk:=1,results:=[.tmp 4,.tmp 5],body:=Ze_B }
end Pe
namespace Pe
open Go
variable {T:Nat→Option Fn} {A:ap}
theorem Ej {n p:Int} (hp:0<p):-p<n.tmod p∧n.tmod p<p:=by
 have hp0:p≠0:=by omega
 have e:=Int.tmod_eq_emod (a:=n) (b:=p);have g1:=ep n hp0;have g2:=dl n hp;refine ⟨?_,Int.tmod_lt_of_pos n hp⟩;rw [e]
 split
 ·omega
 ·rename_i hx
  have hx':n%p≠0:=fun h0=>hx (.inr (Int.dvd_of_emod_eq_zero h0))
  omega
theorem Bm {n p:Int} (hp:0<p):(n.tmod p+p).tmod p=n%p:=by
 have e0:=Ej (n:=n) hp;rw [ee (by omega),Int.add_emod_right,Int.tmod_eq_emod]
 split
 ·simp
 ·rw [show ((p.natAbs:Nat):Int)=p by omega,Int.sub_emod,Int.emod_self,Int.sub_zero,n7 _ (Int.dvd_refl p),n7 _ (Int.dvd_refl p)]
def v7 (O:ap):Prop:=∀p n:Int,0<p→p<1000000→-9000000000000000000≤n→n≤9000000000000000000→ask O F1d [(D.int .i64 p),(D.int .i64 n)]=some ((D.int .i64 (n%p)))
theorem a1w (hT:T F1d=some Z1d):v7 (den T A):=by
 intro p n hp hp' hn hn';have hp0:p≠0:=by omega
 have e0:=Ej (n:=n) hp;have h1:IntKind.i64.wrap (n.tmod p+p)=n.tmod p+p:=w64 (by omega)
 refine c9 hT rfl ?_;simp -implicitDefEqProofs [Z1d,Z1d_B,hp0,h1,Bm hp]
def cf (l:List Int) (i:Nat):Int:=l.getD i 0
theorem gu {l:List Int} {i:Nat} (h:i<l.length):cf l i=l[i]:=by simp [cf,h]
theorem pc {l:List Int} {i:Nat} (h:l.length≤i):cf l i=0:=by simp [cf,h]
def y9 (O:ap):Prop:=∀(l:List Int) (i:Nat),i<9000000000000000000→ask O F1p [(D.sl .leaf (af .i64 l)),(D.int .i64 i)]=some ((D.int .i64 (cf l i)))
theorem ajt (hT:T F1p=some Z1p):y9 (den T A):=by
 intro l i hi;refine c9 hT rfl ?_
 by_cases h:i<l.length
 ·have h1:l[i]? = some l[i]:=b8 h
  have h2:(i:Int)<(l.length:Int):=by omega
  simp -implicitDefEqProofs [Z1p,Z1p_B,h1,h2,aw,gu h]
 ·have h2:¬ (i:Int)<(l.length:Int):=by omega
  simp -implicitDefEqProofs [Z1p,Z1p_B,h2,aw,pc (Nat.le_of_not_lt h)]
def rp (l:List Int):Nat→Nat
 | 0=>0
 | n+1=>if cf l n=0 then rp l n else n+1
def trim (l:List Int):List Int:=l.take (rp l l.length)
theorem Hy (l:List Int):∀n,rp l n≤n
 | 0=>bh 0
 | n+1=>by
  simp only [rp]
  split
  ·have:=Hy l n; omega
  ·exact bh _
theorem M5 {O:ap} {l:List Int} (hl:l.length<1000000):∀(n:Nat),n≤l.length →
 dn O 0 (.loop Z1u_L0) ⟨[(0,(.d (.sl .leaf (af .i64 l)))),(3,(.d (.int .i64 n)))],[]⟩=some (.exit 0,⟨[(0,(.d (.sl .leaf (af .i64 l)))),(3,(.d (.int .i64 (rp l n)))),(15,(.d (.bool false)))],[]⟩)
 | 0,_=>cm (by simp -implicitDefEqProofs [Z1u_L0,aw,rp])
 | n+1,hn=>by
  have hlt:n<l.length:=by omega
  have h1:l[n]? = some l[n]:=b8 hlt;have h2:IntKind.i64.wrap (n:Int)=n:=w64 (by omega)
  have h3:(0:Int)<(n:Int)+1:=by omega
  by_cases h0:l[n]=0
  ·have e:rp l (n+1)=rp l n:=by simp [rp,gu hlt,h0]
   rw [e];exact cg (by simp -implicitDefEqProofs [Z1u_L0,aw,h1,h2,h3,h0]) (M5 hl n (by omega))
  ·have e:rp l (n+1)=n+1:=by simp [rp,gu hlt,h0]
   rw [e];exact cm (by simp -implicitDefEqProofs [Z1u_L0,aw,h1,h2,h3,h0])
def ut (O:ap):Prop:=∀l:List Int,l.length<1000000→ask O F1u [(D.sl .leaf (af .i64 l))]=some ((D.sl .leaf (af .i64 (trim l))))
theorem a1e (hT:T F1u=some Z1u):ut (den T A):=by
 intro l hl;refine c9 hT rfl ?_;have ht:=Hy l l.length;simp -implicitDefEqProofs [Z1u,Z1u_B,M5 hl l.length (bh _),ht,trim]
def upd (f:Nat→Int):Nat→Nat→List Int→List Int
 | 0,_,l=>l
 | m+1,i,l=>upd f m (i+1) (l.set i (f i))
theorem yj (f:Nat→Int):∀(m i:Nat) (l:List Int),(upd f m i l).length=l.length
 | 0,_,_=>rfl
 | m+1,i,l=>by rw [upd,yj f m]; simp
theorem Ic (f:Nat→Int):∀(m i:Nat) (l:List Int) (j:Nat),(upd f m i l)[j]? = if i≤j∧j<i+m∧j<l.length then some (f j) else l[j]?
 | 0,i,l,j=>by rw [upd,if_neg (by omega)]
 | m+1,i,l,j=>by
  rw [upd,Ic f m,cx]
  by_cases h1:i+1≤j∧j<i+1+m∧j<l.length
  ·rw [if_pos h1,if_pos (by omega)]
  ·rw [if_neg h1]
   by_cases h2:j=i
   ·subst h2
    by_cases h3:j<l.length
    ·rw [if_pos (by omega),bo h3]
    ·rw [if_neg (by omega),cl (by simpa using h3),cl (by omega)]
   ·rw [br (jj h2),if_neg (by omega)]
theorem Nz (f:Nat→Int) (n:Nat) (l:List Int) (hl:l.length=n):upd f n 0 l=(List.range n).map f:=by
 apply ff;intro j;rw [Ic,fm]
 by_cases hj:j<n
 ·rw [if_pos (by omega),i8 hj]; rfl
 ·rw [if_neg (by omega),cl (by omega),cl (by simpa using hj)]; rfl
def Small (b:Int) (l:List Int):Prop:=∀x∈l,-b≤x∧x≤b
theorem Small.le {b:Int} {l:List Int} (h:Small b l) (hb:0≤b) (i:Nat):-b≤cf l i∧cf l i≤b:=by
 rw [Pe.cf,df];cases hq:l[i]? with
 | none=>simp; omega
 | some x=>exact h x (ke hq)
def lin (p:Int) (a b:List Int) (k:Int) (i:Nat):Int:=(cf a i+k*cf b i)%p
def a7f (p:Int) (a b:List Int) (k:Int):List Int:=trim ((List.range (max a.length b.length)).map (lin p a b k))
theorem m7 {x y b c:Int} (hx:-b≤x∧x≤b) (hy:-c≤y∧y≤c) (_hb:0≤b):-(b*c)≤x*y∧x*y≤b*c:=by
 have hc:0≤c:=by omega
 have h1:0≤(b-x)*(c+y):=fw (by omega) (by omega)
 have h2:0≤(b+x)*(c-y):=fw (by omega) (by omega)
 have h3:0≤(b-x)*(c-y):=fw (by omega) (by omega)
 have h4:0≤(b+x)*(c+y):=fw (by omega) (by omega)
 have e1:(b-x)*(c+y)=b*c+b*y-x*c-x*y:=by simp only [Int.sub_mul,ro]; omega
 have e2:(b+x)*(c-y)=b*c-b*y+x*c-x*y:=by simp only [Int.add_mul,Int.mul_sub]; omega
 have e3:(b-x)*(c-y)=b*c-b*y-x*c+x*y:=by simp only [Int.sub_mul,Int.mul_sub]; omega
 have e4:(b+x)*(c+y)=b*c+b*y+x*c+x*y:=by simp only [Int.add_mul,ro]; omega
 constructor <;> omega
theorem Mc {O:ap} (hat:y9 O) (hred:v7 O) {p k:Int} {a b:List Int} (hp:0<p∧p<1000000) (ha:Small 1000000 a) (hb:Small 1000000 b) (hk:-1000000≤k∧k≤1000000) {n:Nat} (hn:n<1000000) :
 ∀(m i:Nat) (cur:List Int),i+m=n→cur.length=n →
 dn O 0 (.loop Z12_L0) ⟨[(0,(.d (.int .i64 p))),(1,(.d (.sl .leaf (af .i64 a)))),(2,(.d (.sl .leaf (af .i64 b)))),(3,(.d (.int .i64 k))),(9,.sl 0 [] 0 n (some n)),(18,(.d (.int .i64 n))),(19,(.d (.int .i64 i)))],[.sl false .leaf (af .i64 cur)]⟩ =
  some (.exit 0,⟨[(0,(.d (.int .i64 p))),(1,(.d (.sl .leaf (af .i64 a)))),(2,(.d (.sl .leaf (af .i64 b)))),(3,(.d (.int .i64 k))),(9,.sl 0 [] 0 n (some n)),(18,(.d (.int .i64 n))),(19,(.d (.int .i64 n))),(20,(.d (.bool false)))],[.sl false .leaf (af .i64 (upd (lin p a b k) m i cur))]⟩)
 | 0,i,cur,hi,hc=>by
  have:i=n:=by omega
  subst this;exact cm (by simp -implicitDefEqProofs [Z12_L0,aw,upd])
 | m+1,i,cur,hi,hc=>by
  have h1:(i:Int)<(n:Int):=by omega
  have hin:i<n:=by omega
  have e1:=hat a i (by omega)
  have e2:=hat b i (by omega)
  have ga:=ha.le (by omega) i
  have gb:=hb.le (by omega) i
  have gm:=m7 hk gb (by omega)
  have w1:IntKind.i64.wrap (k*cf b i)=k*cf b i:=w64 (by omega)
  have w2:IntKind.i64.wrap (cf a i+k*cf b i)=cf a i+k*cf b i:=w64 (by omega)
  have e3:=hred p (cf a i+k*cf b i) hp.1 hp.2 (by omega) (by omega)
  have w3:IntKind.i64.wrap ((i:Int)+1)=((i+1:Nat):Int):=by rw [w64 (by omega)]; omega
  have hcur:cur[i]? = some cur[i]:=b8 (by omega)
  refine cg ?_ (Mc hat hred hp ha hb hk hn m (i+1) (cur.set i (lin p a b k i)) (by omega) (by simpa using hc))
  simp -implicitDefEqProofs [Z12_L0,aw,h1,hin,e1,e2,w1,w2,e3,w3,hcur,lin]
def Bh (O:ap):Prop:=∀(p k:Int) (a b:List Int),0<p→p<1000000→Small 1000000 a→Small 1000000 b→-1000000≤k→k≤1000000→a.length<1000000→b.length<1000000 →
 ask O F12 [(D.int .i64 p),(D.sl .leaf (af .i64 a)),(D.sl .leaf (af .i64 b)),(D.int .i64 k)]=some ((D.sl .leaf (af .i64 (a7f p a b k))))
theorem a0x (hT:T F12=some Z12) (hat:y9 (den T A)) (hred:v7 (den T A)) (htr:ut (den T A)):Bh (den T A):=by
 intro p k a b hp hp' ha hb hk hk' hla hlb;have hl:=Mc hat hred ⟨hp,hp'⟩ ha hb ⟨hk,hk'⟩ (n:=max a.length b.length) (by omega) (max a.length b.length) 0 (List.replicate (max a.length b.length) 0) (by omega) (by simp)
 rw [Nz _ _ _ (by simp)] at hl
 have e1:=htr ((List.range (max a.length b.length)).map (lin p a b k)) (by simp; omega)
 have emax:(if a.length<b.length then (b.length:Int) else (a.length:Int))=((max a.length b.length:Nat):Int):=by
  split <;> omega
 have h64:max a.length b.length*8≤1099511627776:=by omega
 refine c9 hT rfl ?_;unfold a7f;generalize max a.length b.length=n at *;rw [show ((0:Nat):Int)=0 from rfl] at hl;have htk:((List.range n).map (lin p a b k)).take n=(List.range n).map (lin p a b k):=bg (by simp)
 simp -implicitDefEqProofs [Z12,Z12_B,emax,h64,hl,e1,htk]
def vg (x:Int) (b:List Int) (i:Nat):Nat→Nat→List Int→List Int
 | 0,_,cur=>cur
 | m+1,k,cur=>vg x b i m (k+1) (cur.set (i+k) (cf cur (i+k)+x*cf b k))
theorem uh (x:Int) (b:List Int) (i:Nat):∀(m k:Nat) (cur:List Int),(vg x b i m k cur).length=cur.length
 | 0,_,_=>rfl
 | m+1,k,cur=>by rw [vg,uh]; simp
theorem t8 (l:List Int) (i:Nat) (x:Int) (j:Nat):cf (l.set i x) j=if j=i∧i<l.length then x else cf l j:=by
 unfold cf;rw [df,df,List.getElem?_set]
 by_cases h:i=j
 ·subst h
  by_cases h2:i<l.length
  ·simp [h2]
  ·simp [h2]
 ·rw [if_neg h,if_neg (by omega)]
theorem It (x:Int) (b:List Int) (i:Nat):∀(m k:Nat) (cur:List Int) (j:Nat),i+k+m≤cur.length→cf (vg x b i m k cur) j=cf cur j+if i+k≤j∧j<i+k+m then x*cf b (j-i) else 0
 | 0,k,cur,j,_=>by rw [vg,if_neg (by omega)]; omega
 | m+1,k,cur,j,h=>by
  rw [vg,It x b i m (k+1) _ j (by rw [cx]; omega),t8]
  by_cases hj:j=i+k
  ·subst hj
   rw [if_pos ⟨rfl,by omega⟩,if_neg (by omega),if_pos (by omega),show i+k-i=k by omega]
   omega
  ·rw [if_neg (by omega)]
   by_cases h2:i+k+1≤j∧j<i+k+1+m
   ·rw [if_pos (by omega),if_pos (by omega)]
   ·rw [if_neg (by omega),if_neg (by omega)]
theorem Small.of_cf {B:Int} (_hB:0≤B) {l:List Int} (h:∀j,-B≤cf l j∧cf l j≤B):Small B l:=by
 intro x hx;obtain ⟨j,hj,rfl⟩:=lj hx;have:=h j
 rwa [gu hj] at this
theorem S5 {O:ap} {p x:Int} {b:List Int} {i la nb:Nat} {a:List Int} (hx:-1000≤x∧x≤1000) (hb:Small 1000 b) (hi:i<10000) (hbl:b.length<10000) {n:Nat} (hn:i+b.length≤n) (hn':n<1000000) :
 ∀(m k:Nat) (cur:List Int),k+m=b.length→cur.length=n→(∀j,i+k≤j→-9000000000000≤cf cur j∧cf cur j≤9000000000000) →
 dn O 0 (.loop Z1m_L0) ⟨[(0,(.d (.int .i64 p))),(2,(.d (.sl .leaf (af .i64 b)))),(7,.sl 0 [] 0 n (some n)),(8,(.d (.int .i64 i))),(9,(.d (.int .i64 x))),(29,(.d (.sl .leaf (af .i64 a)))),(30,(.d (.int .i64 la))),(31,(.d (.int .i64 nb))),(36,(.d (.sl .leaf (af .i64 b)))),(37,(.d (.int .i64 b.length))),(38,(.d (.int .i64 k)))],[.sl false .leaf (af .i64 cur)]⟩ =
  some (.exit 2,⟨[(0,(.d (.int .i64 p))),(2,(.d (.sl .leaf (af .i64 b)))),(7,.sl 0 [] 0 n (some n)),(8,(.d (.int .i64 i))),(9,(.d (.int .i64 x))),(29,(.d (.sl .leaf (af .i64 a)))),(30,(.d (.int .i64 la))),(31,(.d (.int .i64 nb))),(36,(.d (.sl .leaf (af .i64 b)))),(37,(.d (.int .i64 b.length))),(38,(.d (.int .i64 b.length))),(39,(.d (.bool false)))],[.sl false .leaf (af .i64 (vg x b i m k cur))]⟩)
 | 0,k,cur,hk,hc,hs=>by
  have:k=b.length:=by omega
  subst this;exact cm (by simp -implicitDefEqProofs [Z1m_L0,aw,vg])
 | m+1,k,cur,hk,hc,hs=>by
  have h1:(k:Int)<(b.length:Int):=by omega
  have hkl:k<b.length:=by omega
  have hbk:b[k]=cf b k:=(gu hkl).symm;have w1:IntKind.i64.wrap ((i:Int)+(k:Int))=((i+k:Nat):Int):=by rw [w64 (by omega)]; omega
  have hik:i+k<n:=by omega
  have t1:(0:Int)≤(i:Int)+(k:Int):=by omega
  have t2:((i:Int)+(k:Int)).toNat=i+k:=by omega
  have hikc:i+k<cur.length:=by omega
  have hck:cur[i+k]=cf cur (i+k):=(gu hikc).symm;have gb:=hb.le (by omega) k
  have gc:=hs (i+k) (by omega)
  have gm:=m7 hx gb (by omega)
  have w2:IntKind.i64.wrap (x*cf b k)=x*cf b k:=w64 (by omega)
  have w3:IntKind.i64.wrap (cf cur (i+k)+x*cf b k)=cf cur (i+k)+x*cf b k:=w64 (by omega)
  have w4:IntKind.i64.wrap ((k:Int)+1)=((k+1:Nat):Int):=by rw [w64 (by omega)]; omega
  refine cg ?_ (S5 hx hb hi hbl hn hn' m (k+1) (cur.set (i+k) (cf cur (i+k)+x*cf b k)) (by omega) (by simpa using hc) (fun j hj=>by rw [t8,if_neg (by omega)]; exact hs j (by omega)))
  simp -implicitDefEqProofs [Z1m_L0,aw,hkl,hbk,w1,t1,t2,hik,hikc,hck,w2,w3,w4]
def zq (a b:List Int):Nat→Nat→List Int→List Int
 | 0,_,cur=>cur
 | m+1,i,cur=>zq a b m (i+1) (vg (cf a i) b i b.length 0 cur)
theorem Dq (a b:List Int):∀(m i:Nat) (cur:List Int),(zq a b m i cur).length=cur.length
 | 0,_,_=>rfl
 | m+1,i,cur=>by rw [zq,Dq,uh]
theorem Rh {x:Int} {b:List Int} {i:Nat} {cur:List Int} {M:Int} (hx:-1000≤x∧x≤1000) (hb:Small 1000 b) (hl:i+b.length≤cur.length) (h:∀j,-M≤cf cur j∧cf cur j≤M) (j:Nat) :
 -(M+1000000)≤cf (vg x b i b.length 0 cur) j∧cf (vg x b i b.length 0 cur) j≤M+1000000:=by
 rw [It _ _ _ _ _ _ _ (by omega)]
 have h1:=h j;have h2:=m7 hx (hb.le (by omega) (j-i)) (by omega)
 split <;> omega
theorem a4p {O:ap} {p:Int} {a b:List Int} (ha:Small 1000 a) (hb:Small 1000 b) (hal:a.length<10000) (hbl:b.length<10000) (hb0:0<b.length) {n:Nat} (hn:n=a.length+b.length-1) :
 ∀(m i:Nat) (cur:List Int),i+m=a.length→cur.length=n→(∀j,-((i:Int)*1000000)≤cf cur j∧cf cur j≤(i:Int)*1000000) →
 dn O 0 (.loop Z1m_L1) ⟨[(0,(.d (.int .i64 p))),(2,(.d (.sl .leaf (af .i64 b)))),(7,.sl 0 [] 0 n (some n)),(29,(.d (.sl .leaf (af .i64 a)))),(30,(.d (.int .i64 a.length))),(31,(.d (.int .i64 i)))],[.sl false .leaf (af .i64 cur)]⟩ =
  some (.exit 0,⟨[(0,(.d (.int .i64 p))),(2,(.d (.sl .leaf (af .i64 b)))),(7,.sl 0 [] 0 n (some n)),(29,(.d (.sl .leaf (af .i64 a)))),(30,(.d (.int .i64 a.length))),(31,(.d (.int .i64 a.length))),(32,(.d (.bool false)))],[.sl false .leaf (af .i64 (zq a b m i cur))]⟩):=by
 intro m
 induction m with
 | zero=>
  intro i cur hi hc hs;have:i=a.length:=by omega
  subst this;exact cm (by simp -implicitDefEqProofs [Z1m_L1,aw,zq])
 | succ m ih=>
  intro i cur hi hc hs;have hil:i<a.length:=by omega
  have hai:a[i]=cf a i:=(gu hil).symm;have gx:=ha.le (by omega) i
  have q1:i<10000:=by omega
  have q2:i+b.length≤n:=by omega
  have q3:n<1000000:=by omega
  have q4:∀j,i+0≤j→-9000000000000≤cf cur j∧cf cur j≤9000000000000:=fun j _=>by
   have h9:=hs j;omega
  have h0:=S5 (O:=O) (p:=p) (a:=a) (la:=a.length) (nb:=i) gx hb q1 hbl q2 q3 b.length 0 cur (cd _) hc q4;have e0:((0:Nat):Int)=0:=rfl;rw [e0] at h0;have w4:IntKind.i64.wrap ((i:Int)+1)=((i+1:Nat):Int):=(w64 (x:=(i:Int)+1) (by omega)).trans (by omega)
  have hnew:∀j,-(((i+1:Nat):Int)*1000000)≤cf (vg (cf a i) b i b.length 0 cur) j∧cf (vg (cf a i) b i b.length 0 cur) j≤((i+1:Nat):Int)*1000000:=by
   intro j;have:=Rh (x:=cf a i) (b:=b) (i:=i) (cur:=cur) gx hb (by omega) hs j
   omega
  refine cg ?_ (ih (i+1) (vg (cf a i) b i b.length 0 cur) (by omega) (by rw [uh]; exact hc) hnew)
  simp -implicitDefEqProofs [Z1m_L1,aw,hil,hai,h0,w4]
theorem Sj {O:ap} {p:Int} {out:List Int} (hp:0<p) {n:Nat} (hn:n<1000000) (hout:out.length=n) (hpos:∀j,-9000000000000000≤cf out j∧cf out j≤9000000000000000) :
 ∀(m i:Nat) (cur:List Int),i+m=n→cur.length=n→(∀j,i≤j→cf cur j=cf out j) →
 dn O 0 (.loop Z1m_L2) ⟨[(0,(.d (.int .i64 p))),(7,.sl 0 [] 0 n (some n)),(56,.sl 0 [] 0 n (some n)),(57,(.d (.int .i64 n))),(58,(.d (.int .i64 i)))],[.sl false .leaf (af .i64 cur)]⟩ =
  some (.exit 4,⟨[(0,(.d (.int .i64 p))),(7,.sl 0 [] 0 n (some n)),(56,.sl 0 [] 0 n (some n)),(57,(.d (.int .i64 n))),(58,(.d (.int .i64 n))),(59,(.d (.bool false)))],[.sl false .leaf (af .i64 (upd (fun j=>(cf out j).tmod p) m i cur))]⟩)
 | 0,i,cur,hi,hc,hs=>by
  have:i=n:=by omega
  subst this;exact cm (by simp -implicitDefEqProofs [Z1m_L2,aw,upd])
 | m+1,i,cur,hi,hc,hs=>by
  have hp0:p≠0:=by omega
  have hin:i<n:=by omega
  have hic:i<cur.length:=by omega
  have hci:cur[i]=cf out i:=by rw [←gu hic]; exact hs i (by omega)
  have w4:IntKind.i64.wrap ((i:Int)+1)=((i+1:Nat):Int):=by rw [w64 (by omega)]; omega
  refine cg ?_ (Sj hp hn hout hpos m (i+1) (cur.set i ((cf out i).tmod p)) (by omega) (by simpa using hc) (fun j hj=>by rw [t8,if_neg (by omega)]; exact hs j (by omega)))
  simp -implicitDefEqProofs [Z1m_L2,aw,hin,hic,hci,hp0,w4]
def conv (a b:List Int):Nat→Nat→Int
 | 0,_=>0
 | m+1,j=>conv a b m j+if m≤j then cf a m*cf b (j-m) else 0
theorem L6 (a b:List Int):∀(m i:Nat) (cur:List Int) (j:Nat),i+m=a.length→a.length+b.length≤cur.length+1→0<b.length→(cf cur j=conv a b i j)→(∀j',cf cur j'=conv a b i j')→cf (zq a b m i cur) j=conv a b (i+m) j
 | 0,i,cur,j,_,_,_,h,_=>h
 | m+1,i,cur,j,hi,hl,hb,h,hall=>by
  have step:∀j',cf (vg (cf a i) b i b.length 0 cur) j'=conv a b (i+1) j':=by
   intro j';rw [It _ _ _ _ _ _ _ (by omega),hall j',conv]
   by_cases h1:i+0≤j'∧j'<i+0+b.length
   ·rw [if_pos h1,if_pos (by omega)]
   ·rw [if_neg h1]
    by_cases h2:i≤j'
    ·rw [if_pos h2,pc (l:=b) (by omega),Int.mul_zero]
    ·rw [if_neg h2]
  rw [zq,show i+(m+1)=(i+1)+m by omega]
  exact L6 a b m (i+1) _ j (by omega) (by rw [uh]; exact hl) hb (step j) step
def Can (p:Int) (l:List Int):Prop:=∀x∈l,0≤x∧x<p
theorem Can.small {p:Int} {l:List Int} (h:Can p l) {b:Int} (hp:p≤b):Small b l:=fun x hx=>by have:=h x hx; omega
theorem Can.le {p:Int} {l:List Int} (h:Can p l) (hp:0<p) (i:Nat):0≤cf l i∧cf l i<p:=by
 by_cases hi:i<l.length
 ·rw [gu hi]; exact h _ (ci hi)
 ·rw [pc (by omega)]; omega
theorem Ay {p:Int} {a b:List Int} (hp:0<p) (ha:Can p a) (hb:Can p b):∀m j,0≤conv a b m j
 | 0,j=>by simp [conv]
 | m+1,j=>by
  have:=Ay hp ha hb m j;rw [conv]
  split
  ·have:=fw (ha.le hp m).1 (hb.le hp (j-m)).1
   omega
  ·omega
def mul (p:Int) (a b:List Int):List Int:=trim ((List.range (a.length+b.length-1)).map fun j=>conv a b a.length j%p)
theorem En {l:List Int}:∀n,(∀j,j<n→cf l j=0)→rp l n=0
 | 0,_=>rfl
 | n+1,h=>by
  rw [rp,if_pos (h n (by omega))]
  exact En n fun j hj=>h j (by omega)
theorem T8 (a:List Int):∀m j,conv a [] m j=0
 | 0,_=>rfl
 | m+1,j=>by rw [conv,T8 a m j,pc (l:=[]) (by simp)]; simp
theorem pr (f:Nat→Int) (n j:Nat) (hj:j<n):cf ((List.range n).map f) j=f j:=by
 rw [gu (by simpa using hj)]; simp
theorem O9 (p:Int) (b:List Int):mul p [] b=[]:=by
 unfold mul trim;rw [En,il];intro j hj;rw [pr _ _ _ (by simpa using hj)]
 simp [conv]
theorem Lt (p:Int) (a:List Int):mul p a []=[]:=by
 unfold mul trim;rw [En,il];intro j hj;rw [pr _ _ _ (by simpa using hj),T8]
 simp
def Q5 (O:ap):Prop:=∀(p:Int) (a b:List Int),0<p→p<1000→Can p a→Can p b→a.length<10000→b.length<10000 →
 ask O F1m [(D.int .i64 p),(D.sl .leaf (af .i64 a)),(D.sl .leaf (af .i64 b))]=some ((D.sl .leaf (af .i64 (mul p a b))))
theorem a8t (hT:T F1m=some Z1m) (htr:ut (den T A)):Q5 (den T A):=by
 intro p a b hp hp' ha hb hal hbl;refine c9 hT rfl ?_
 by_cases h1:a=[]
 ·subst h1
  rw [O9];simp -implicitDefEqProofs [Z1m,Z1m_B,aw,jf]
 ·by_cases h2:b=[]
  ·subst h2
   have hal0:a.length≠0:=by simpa using h1
   rw [Lt];simp -implicitDefEqProofs [Z1m,Z1m_B,aw,jf,h1]
  ·have g1:0<a.length:=qj.2 h1
   have g2:0<b.length:=qj.2 h2
   have l1:=a4p (O:=den T A) (p:=p) (ha.small (b:=1000) (by omega)) (hb.small (b:=1000) (by omega)) hal hbl g2 rfl a.length 0 (List.replicate (a.length+b.length-1) 0) (cd _) (by simp) (fun j=>by
    have:cf (List.replicate (a.length+b.length-1) 0) j=0:=by
     by_cases hj:j<a.length+b.length-1
     ·rw [gu (by simpa using hj)]; simp
     ·exact pc (by simp; omega)
    rw [this]; simp)
   have hz:∀j,cf (List.replicate (a.length+b.length-1) (0:Int)) j=0:=fun j=>by
    by_cases hj:j<a.length+b.length-1
    ·rw [gu (by simpa using hj)]; simp
    ·exact pc (by simp; omega)
   have hrl:(zq a b a.length 0 (List.replicate (a.length+b.length-1) 0)).length=a.length+b.length-1:=by rw [Dq]; simp
   have hrc:∀j,cf (zq a b a.length 0 (List.replicate (a.length+b.length-1) 0)) j=conv a b a.length j:=fun j=>by
    have:=L6 a b a.length 0 (List.replicate (a.length+b.length-1) 0) j (cd _) (by simp; omega) g2 (by rw [hz]; rfl) (fun j'=>by rw [hz]; rfl)
    rwa [cd] at this
   have hcb:∀m j,conv a b m j≤(m:Int)*1000000:=by
    intro m
    induction m with
    | zero=>intro j; simp [conv]
    | succ m ih=>
     intro j;have h3:=ih j;have h4:=m7 ((ha.small (b:=1000) (by omega)).le (by omega) m) ((hb.small (b:=1000) (by omega)).le (by omega) (j-m)) (by omega)
     rw [conv]
     split <;> omega
   have l2:=Sj (O:=den T A) (p:=p) (out:=zq a b a.length 0 (List.replicate (a.length+b.length-1) 0)) hp (n:=a.length+b.length-1) (by omega) hrl (fun j=>by
    rw [hrc];have h3:=Ay hp ha hb a.length j;have h4:=hcb a.length j;omega) (a.length+b.length-1) 0 (zq a b a.length 0 (List.replicate (a.length+b.length-1) 0)) (cd _) hrl (fun _ _=>rfl)
   rw [Nz _ _ _ hrl] at l2
   have hfun:(fun j=>(cf (zq a b a.length 0 (List.replicate (a.length+b.length-1) 0)) j).tmod p)=fun j=>conv a b a.length j%p:=by
    funext j
    rw [hrc,ee (Ay hp ha hb a.length j)]
   rw [hfun] at l2;have e0:((0:Nat):Int)=0:=rfl;rw [e0] at l1 l2;have e1:=htr ((List.range (a.length+b.length-1)).map fun j=>conv a b a.length j%p) (by simp; omega)
   have n1:a.length≠0:=by omega
   have n2:b.length≠0:=by omega
   have w1:IntKind.i64.wrap ((a.length:Int)+(b.length:Int))=(a.length:Int)+(b.length:Int):=w64 (by omega)
   have w2:IntKind.i64.wrap ((a.length:Int)+(b.length:Int)-1)=((a.length+b.length-1:Nat):Int):=(w64 (x:=(a.length:Int)+(b.length:Int)-1) (by omega)).trans (by omega)
   have h8:(a.length+b.length-1)*8≤1099511627776:=by omega
   unfold mul;generalize a.length+b.length-1=n at *;have htk:((List.range n).map fun j=>conv a b a.length j%p).take n=(List.range n).map fun j=>conv a b a.length j%p:=bg (by simp)
   simp -implicitDefEqProofs [Z1m,Z1m_B,aw,h1,h2,w1,w2,h8,l1,l2,e1,htk]
def G1 (p n:Int):Nat→Int
 | 0=>1
 | m+1=>G1 p n m*n%p
def inv (p n:Int):Int:=G1 p n (p-2).toNat
theorem Wo {p n:Int} (hp:1<p):∀m,0≤G1 p n m∧G1 p n m<p
 | 0=>by simp [G1]; omega
 | m+1=>⟨ep _ (by omega),dl _ (by omega)⟩
theorem Mp {O:ap} {p n:Int} (hp:1<p) (hp':p<1000) (hn:0≤n∧n<p) {k:Nat} (hk:(k:Int)=p-2):∀(m i:Nat),i+m=k →
 dn O 0 (.loop Z17_L0) ⟨[(0,(.d (.int .i64 p))),(1,(.d (.int .i64 n))),(5,(.d (.int .i64 (G1 p n i)))),(7,(.d (.int .i64 k))),(8,(.d (.int .i64 i)))],[]⟩=some (.exit 0,⟨[(0,(.d (.int .i64 p))),(1,(.d (.int .i64 n))),(5,(.d (.int .i64 (G1 p n k)))),(7,(.d (.int .i64 k))),(8,(.d (.int .i64 k))),(9,(.d (.bool false)))],[]⟩)
 | 0,i,hi=>by
  have:i=k:=by omega
  subst this;exact cm (by simp -implicitDefEqProofs [Z17_L0,aw])
 | m+1,i,hi=>by
  have hik:i<k:=by omega
  have g:=Wo (n:=n) hp i;have hp0:p≠0:=by omega
  have gm:=m7 (x:=G1 p n i) (y:=n) (b:=1000) (c:=1000) (by omega) (by omega) (by omega)
  have w1:IntKind.i64.wrap (G1 p n i*n)=G1 p n i*n:=w64 (by omega)
  have w2:(G1 p n i*n).tmod p=G1 p n (i+1):=ee (fw g.1 hn.1);have w4:IntKind.i64.wrap ((i:Int)+1)=((i+1:Nat):Int):=(w64 (x:=(i:Int)+1) (by omega)).trans (by omega)
  refine cg ?_ (Mp hp hp' hn hk m (i+1) (by omega))
  simp -implicitDefEqProofs [Z17_L0,aw,hik,hp0,w1,w2,w4]
def g8 (O:ap):Prop:=∀p n:Int,1<p→p<1000→0≤n→n<p→ask O F17 [(D.int .i64 p),(D.int .i64 n)]=some ((D.int .i64 (inv p n)))
theorem a0t (hT:T F17=some Z17):g8 (den T A):=by
 intro p n hp hp' hn hn';have hk:(((p-2).toNat:Nat):Int)=p-2:=by omega
 have hl:=Mp (O:=den T A) hp hp' ⟨hn,hn'⟩ hk (p-2).toNat 0 (by omega)
 have w1:IntKind.i64.wrap (p-2)=(((p-2).toNat:Nat):Int):=(w64 (x:=p-2) (by omega)).trans (by omega)
 have e0:((0:Nat):Int)=0:=rfl;rw [e0] at hl;have e1:G1 p n 0=1:=rfl;rw [e1] at hl;refine c9 hT rfl ?_;unfold inv;generalize (p-2).toNat=k at *;simp -implicitDefEqProofs [Z17,Z17_B,w1,hl]
def lg (O:ap):Prop:=∀l:List Int,l.length<1000000→ask O F1q [(D.sl .leaf (af .i64 l))]=some ((D.int .i64 ((l.length:Int)-1)))
theorem a5o (hT:T F1q=some Z1q):lg (den T A):=by
 intro l hl;have w1:IntKind.i64.wrap ((l.length:Int)-1)=(l.length:Int)-1:=w64 (by omega)
 refine c9 hT rfl ?_;simp -implicitDefEqProofs [Z1q,Z1q_B,w1]
def Du (l:List Int):Int:=cf l (l.length-1)
def lk (O:ap):Prop:=∀l:List Int,l.length<1000000→ask O F1s [(D.sl .leaf (af .i64 l))]=some ((D.int .i64 (Du l)))
theorem abe (hT:T F1s=some Z1s):lk (den T A):=by
 intro l hl;refine c9 hT rfl ?_
 by_cases h:l=[]
 ·subst h
  simp -implicitDefEqProofs [Z1s,Z1s_B,aw,jf,Du,cf]
 ·have h1:0<l.length:=qj.2 h
  have w1:IntKind.i64.wrap ((l.length:Int)-1)=((l.length-1:Nat):Int):=(w64 (x:=(l.length:Int)-1) (by omega)).trans (by omega)
  have h2:l.length-1<l.length:=by omega
  have h3:l[l.length-1]? = some (Du l):=by
   rw [b8 h2]; exact congrArg some (gu h2).symm
  have h4:(l.length:Int)≠0:=by omega
  simp -implicitDefEqProofs [Z1s,Z1s_B,aw,h,w1,h3]
def B4 (O:ap):Prop:=∀n a b:Int,ask O F1w [(D.int .i64 n),(D.int .i64 a),(D.int .i64 b)]=some ((D.bool (decide (a≤n∧n≤b))))
theorem a52 (hT:T F1w=some Z1w):B4 (den T A):=by
 intro n a b;refine c9 hT rfl ?_
 by_cases h:a≤n <;> simp -implicitDefEqProofs [Z1w,Z1w_B,h]
def isP (p:Int):Bool:=decide (p=2∨p=3∨p=5∨p=7)
def G9 (O:ap):Prop:=∀p:Int,ask O Ft [(D.int .i64 p)]=some ((D.bool (isP p)))
theorem a0d (hT:T Ft=some Zt):G9 (den T A):=by
 intro p;refine c9 hT rfl ?_
 by_cases h2:p=2
 ·simp -implicitDefEqProofs [Zt,Zt_B,h2,isP]
 ·by_cases h3:p=3
  ·simp -implicitDefEqProofs [Zt,Zt_B,h3,isP]
  ·by_cases h5:p=5
   ·simp -implicitDefEqProofs [Zt,Zt_B,h5,isP]
   ·simp -implicitDefEqProofs [Zt,Zt_B,h2,h3,h5,isP]
def Ph (O:ap):Prop:=∀(p k:Int) (a:List Int),0<p→p<1000000→Small 1000000 a→-1000000≤k→k≤1000000→a.length<1000000 →
 ask O F1j [(D.int .i64 p),(D.sl .leaf (af .i64 a)),(D.int .i64 k)]=some ((D.sl .leaf (af .i64 (a7f p [] a k))))
theorem a78 (hT:T F1j=some Z1j) (hc:Bh (den T A)):Ph (den T A):=by
 intro p k a hp hp' ha hk hk' hl;have e1:=hc p k [] a hp hp' (by intro x hx; simp at hx) ha hk hk' (by simp) hl
 rw [jf] at e1;refine c9 hT rfl ?_;simp -implicitDefEqProofs [Z1j,Z1j_B,e1]
def Ad (O:ap):Prop:=ask O Fu []=some ((D.sl .leaf (af .i64 ([0,1]))))
theorem a60 (hT:T Fu=some Zu):Ad (den T A):=by
 refine c9 hT rfl ?_;simp -implicitDefEqProofs [Zu,Zu_B,af,List.replicate]
def ov (p q:Int) (b:List Int) (i:Nat):Nat→Nat→List Int→List Int
 | 0,_,cur=>cur
 | m+1,k,cur=>ov p q b i m (k+1) (cur.set (i+k) ((cf cur (i+k)-q*cf b k)%p))
theorem oh (p q:Int) (b:List Int) (i:Nat):∀(m k:Nat) (cur:List Int),(ov p q b i m k cur).length=cur.length
 | 0,_,_=>rfl
 | m+1,k,cur=>by rw [ov,oh]; simp
theorem A4 (p q:Int) (b:List Int) (i:Nat):∀(m k:Nat) (cur:List Int) (j:Nat),i+k+m≤cur.length→cf (ov p q b i m k cur) j=if i+k≤j∧j<i+k+m then (cf cur j-q*cf b (j-i))%p else cf cur j
 | 0,k,cur,j,_=>by rw [ov,if_neg (by omega)]
 | m+1,k,cur,j,h=>by
  rw [ov,A4 p q b i m (k+1) _ j (by rw [cx]; omega),t8]
  by_cases hj:j=i+k
  ·subst hj
   rw [if_neg (by omega),if_pos ⟨rfl,by omega⟩,if_pos (by omega),show i+k-i=k by omega]
  ·have e:(if j=i+k∧i+k<cur.length then (cf cur (i+k)-q*cf b k)%p else cf cur j)=cf cur j:=if_neg fun h=>hj h.1
   rw [e]
   by_cases h2:i+k+1≤j∧j<i+k+1+m
   ·rw [if_pos (by omega),if_pos (by omega)]
   ·rw [if_neg (by omega),if_neg (by omega)]
theorem Can.of_cf {p:Int} {l:List Int} (h:∀j,j<l.length→0≤cf l j∧cf l j<p):Can p l:=by
 intro x hx;obtain ⟨j,hj,rfl⟩:=lj hx;have:=h j hj
 rwa [gu hj] at this
theorem Ez {p q:Int} {b:List Int} {i:Nat} (hp:0<p) {m k:Nat} {cur:List Int} (hl:i+k+m≤cur.length) (hc:Can p cur):Can p (ov p q b i m k cur):=by
 apply Can.of_cf;intro j hj;rw [A4 _ _ _ _ _ _ _ _ hl]
 split
 ·exact ⟨ep _ (by omega),dl _ hp⟩
 ·exact hc.le hp j
theorem a02 {O:ap} (hred:v7 O) {p q by_:Int} {b quo:List Int} {i la nq:Nat} {cp:Option Nat} (hp:0<p) (hp':p<1000) (hq:0≤q∧q<p) (hb:Can p b) (hi:i<10000) (hbl:b.length<10000) (hn:i+b.length≤la) (hn':la<1000000) :
 ∀(m k:Nat) (cur:List Int),k+m=b.length→cur.length=la→Can p cur →
 dn O 0 (.loop Z13_L0) ⟨[(0,(.d (.int .i64 p))),(2,(.d (.sl .leaf (af .i64 b)))),(8,.sl 0 [] 0 la cp),(9,.sl 1 [] 0 nq (some nq)),(10,(.d (.int .i64 by_))),(11,(.d (.int .i64 i))),(12,(.d (.int .i64 q))),(57,(.d (.sl .leaf (af .i64 b)))),(58,(.d (.int .i64 b.length))),(59,(.d (.int .i64 k)))],[.sl false .leaf (af .i64 cur),.sl false .leaf (af .i64 quo)]⟩ =
  some (.exit 2,⟨[(0,(.d (.int .i64 p))),(2,(.d (.sl .leaf (af .i64 b)))),(8,.sl 0 [] 0 la cp),(9,.sl 1 [] 0 nq (some nq)),(10,(.d (.int .i64 by_))),(11,(.d (.int .i64 i))),(12,(.d (.int .i64 q))),(57,(.d (.sl .leaf (af .i64 b)))),(58,(.d (.int .i64 b.length))),(59,(.d (.int .i64 b.length))),(60,(.d (.bool false)))],[.sl false .leaf (af .i64 (ov p q b i m k cur)),.sl false .leaf (af .i64 quo)]⟩):=by
 intro m
 induction m with
 | zero=>
  intro k cur hk hc hcan;have:k=b.length:=by omega
  subst this;exact cm (by simp -implicitDefEqProofs [Z13_L0,aw,ov])
 | succ m ih=>
  intro k cur hk hc hcan;have hkl:k<b.length:=by omega
  have hbk:b[k]=cf b k:=(gu hkl).symm;have hik:i+k<la:=by omega
  have hikc:i+k<cur.length:=by omega
  have hck:cur[i+k]=cf cur (i+k):=(gu hikc).symm;have t1:(0:Int)≤(i:Int)+(k:Int):=by omega
  have t2:((i:Int)+(k:Int)).toNat=i+k:=by omega
  have w1:IntKind.i64.wrap ((i:Int)+(k:Int))=((i+k:Nat):Int):=(w64 (x:=(i:Int)+(k:Int)) (by omega)).trans (by omega)
  have gb:=hb.le hp k;have gc:=hcan.le hp (i+k);have gm:=m7 (x:=q) (y:=cf b k) (b:=1000) (c:=1000) (by omega) (by omega) (by omega)
  have w2:IntKind.i64.wrap (q*cf b k)=q*cf b k:=w64 (by omega)
  have w3:IntKind.i64.wrap (cf cur (i+k)-q*cf b k)=cf cur (i+k)-q*cf b k:=w64 (by omega)
  have w4:IntKind.i64.wrap ((k:Int)+1)=((k+1:Nat):Int):=(w64 (x:=(k:Int)+1) (by omega)).trans (by omega)
  have e3:=hred p (cf cur (i+k)-q*cf b k) hp (by omega) (by omega) (by omega)
  have hcan':Can p (cur.set (i+k) ((cf cur (i+k)-q*cf b k)%p)):=by
   intro x hx;rcases fk hx with h | h
   ·exact hcan x h
   ·subst h; exact ⟨ep _ (by omega),dl _ hp⟩
  refine cg ?_ (ih (k+1) (cur.set (i+k) ((cf cur (i+k)-q*cf b k)%p)) (by omega) (by simpa using hc) hcan')
  simp -implicitDefEqProofs [Z13_L0,aw,hkl,hbk,w1,t1,t2,hik,hikc,hck,w2,w3,w4,e3]
def dv (p by_:Int) (b:List Int):Nat→List Int×List Int→List Int×List Int
 | 0,r=>r
 | c+1,(cur,quo)=>
  let q:=cf cur (c+b.length-1)*by_%p
  dv p by_ b c (ov p q b c b.length 0 cur,quo.set c q)
theorem a1c {O:ap} (hred:v7 O) {p by_:Int} {b:List Int} {la nq:Nat} {cp:Option Nat} (hp:0<p) (hp':p<1000) (hby:0≤by_∧by_<p) (hb:Can p b) (hb0:0<b.length) (hn:nq+b.length=la+1) (hn':la<10000) :
 ∀(c:Nat) (cur quo:List Int),c≤nq→cur.length=la→quo.length=nq→Can p cur →
 dn O 0 (.loop Z13_L1) ⟨[(0,(.d (.int .i64 p))),(2,(.d (.sl .leaf (af .i64 b)))),(8,.sl 0 [] 0 la cp),(9,.sl 1 [] 0 nq (some nq)),(10,(.d (.int .i64 by_))),(11,(.d (.int .i64 ((c:Int)-1))))],[.sl false .leaf (af .i64 cur),.sl false .leaf (af .i64 quo)]⟩ =
  some (.exit 0,⟨[(0,(.d (.int .i64 p))),(2,(.d (.sl .leaf (af .i64 b)))),(8,.sl 0 [] 0 la cp),(9,.sl 1 [] 0 nq (some nq)),(10,(.d (.int .i64 by_))),(11,(.d (.int .i64 (-1)))),(38,(.d (.bool false)))],[.sl false .leaf (af .i64 (dv p by_ b c (cur,quo)).1),.sl false .leaf (af .i64 (dv p by_ b c (cur,quo)).2)]⟩):=by
 intro c
 induction c with
 | zero=>
  intro cur quo hc h1 h2 hcan;exact cm (by simp -implicitDefEqProofs [Z13_L1,aw,dv])
 | succ c ih=>
  intro cur quo hc h1 h2 hcan;have hp0:p≠0:=by omega
  have t0:(((c+1:Nat):Int)-1)=(c:Int):=by omega
  rw [t0];have hil:c+b.length-1<cur.length:=by omega
  have hil2:c+b.length-1<la:=by omega
  have hci:cur[c+b.length-1]=cf cur (c+b.length-1):=(gu hil).symm;have gc:=hcan.le hp (c+b.length-1);have w1:IntKind.i64.wrap ((c:Int)+(b.length:Int))=(c:Int)+(b.length:Int):=w64 (by omega)
  have w2:IntKind.i64.wrap ((c:Int)+(b.length:Int)-1)=((c+b.length-1:Nat):Int):=(w64 (x:=(c:Int)+(b.length:Int)-1) (by omega)).trans (by omega)
  have gm:=m7 (x:=cf cur (c+b.length-1)) (y:=by_) (b:=1000) (c:=1000) (by omega) (by omega) (by omega)
  have w3:IntKind.i64.wrap (cf cur (c+b.length-1)*by_)=cf cur (c+b.length-1)*by_:=w64 (by omega)
  have w4:(cf cur (c+b.length-1)*by_).tmod p=cf cur (c+b.length-1)*by_%p:=ee (fw gc.1 hby.1);have w5:IntKind.i64.wrap ((c:Int)-1)=(c:Int)-1:=w64 (by omega)
  have hcq:c<quo.length:=by omega
  have hcn:c<nq:=by omega
  have hq:0≤cf cur (c+b.length-1)*by_%p∧cf cur (c+b.length-1)*by_%p<p:=⟨ep _ hp0,dl _ hp⟩;have l0:=a02 (by_:=by_) (quo:=quo.set c (cf cur (c+b.length-1)*by_%p)) (nq:=nq) (cp:=cp) hred hp hp' hq hb (i:=c) (by omega) (by omega) (la:=la) (by omega) (by omega) b.length 0 cur (cd _) h1 hcan
  have e0:((0:Nat):Int)=0:=rfl;rw [e0] at l0;have ih':=ih (ov p (cf cur (c+b.length-1)*by_%p) b c b.length 0 cur) (quo.set c (cf cur (c+b.length-1)*by_%p)) (by omega) (by rw [oh]; exact h1) (by simpa using h2) (Ez hp (by omega) hcan)
  refine cg ?_ ih';simp -implicitDefEqProofs [Z13_L1,aw,hp0,w1,w2,hil,hil2,hci,w3,w4,w5,hcq,hcn,l0]
end Pe

namespace Gq
class CR (α:Type) extends Zero α,One α,Add α,Mul α,Neg α,Sub α where
 add_zero:∀a:α,a+0=a
 add_comm:∀a b:α,a+b=b+a
 add_assoc:∀a b c:α,a+b+c=a+(b+c)
 mul_one:∀a:α,a*1=a
 mul_comm:∀a b:α,a*b=b*a
 mul_assoc:∀a b c:α,a*b*c=a*(b*c)
 mul_add:∀a b c:α,a*(b+c)=a*b+a*c
 add_neg:∀a:α,a + -a=0
 sub_eq:∀a b:α,a-b=a + -b
section
variable {α:Type} [CR α]
theorem add_zero (a:α):a+0=a:=CR.add_zero a
theorem add_comm (a b:α):a+b=b+a:=CR.add_comm a b
theorem add_assoc (a b c:α):a+b+c=a+(b+c):=CR.add_assoc a b c
theorem mul_one (a:α):a*1=a:=CR.mul_one a
theorem mul_comm (a b:α):a*b=b*a:=CR.mul_comm a b
theorem mul_assoc (a b c:α):a*b*c=a*(b*c):=CR.mul_assoc a b c
theorem mul_add (a b c:α):a*(b+c)=a*b+a*c:=CR.mul_add a b c
theorem add_neg (a:α):a + -a=0:=CR.add_neg a
theorem sub_eq (a b:α):a-b=a + -b:=CR.sub_eq a b
end
instance:CR Int where
 add_zero:=Int.add_zero
 add_comm:=Int.add_comm
 add_assoc:=Int.add_assoc
 mul_one:=pm
 mul_comm:=jl
 mul_assoc:=xf
 mul_add:=ro
 add_neg:=Int.add_right_neg
 sub_eq:=fun _ _=>Int.sub_eq_add_neg
section
variable {α:Type} [CR α]
def pw (a:α):Nat→α
 | 0=>1
 | n+1=>pw a n*a
instance (priority:=100):HPow α Nat α:=⟨pw⟩
theorem pow_zero (a:α):a^0=1:=rfl
theorem pow_succ (a:α) (n:Nat):a^(n+1)=a^n*a:=rfl
theorem zero_add (a:α):0+a=a:=by rw [add_comm,add_zero]
theorem Yp (a:α):-a+a=0:=by rw [add_comm,add_neg]
theorem one_mul (a:α):1*a=a:=by rw [mul_comm,mul_one]
theorem add_mul (a b c:α):(a+b)*c=a*c+b*c:=by rw [mul_comm,mul_add,mul_comm c,mul_comm c]
theorem td (a b c:α):a+(b+c)=b+(a+c):=by rw [←add_assoc,add_comm a,add_assoc]
theorem mul_left_comm (a b c:α):a*(b*c)=b*(a*c):=by rw [←mul_assoc,mul_comm a,mul_assoc]
theorem Li {a b c:α} (h:a+b=a+c):b=c:=by
 have:-a+(a+b)=-a+(a+c):=by rw [h]
 rwa [←add_assoc,←add_assoc,Yp,zero_add,zero_add] at this
theorem mul_zero (a:α):a*0=0:=by
 apply Li (a:=a*0);rw [←mul_add,add_zero,add_zero]
theorem zero_mul (a:α):0*a=0:=by rw [mul_comm,mul_zero]
theorem G5 {a b:α} (h:a+b=0):b=-a:=Li (a:=a) (by rw [h,add_neg])
theorem neg_mul (a b:α):-a*b=-(a*b):=G5 (by rw [←add_mul,add_neg,zero_mul])
theorem a81 (a:α):- -a=a:=(G5 (Yp a)).symm
theorem ve:-(0:α)=0:=(G5 (add_zero 0)).symm
theorem zy (a b:α):-(a+b)=-a + -b:=by
 apply (G5 _).symm;rw [add_assoc,td b,←add_assoc,add_neg,zero_add,add_neg]
def nc:Nat→α
 | 0=>0
 | n+1=>nc n+1
theorem D7 (m n:Nat):nc (m+n)=(nc m+nc n:α):=by
 induction n with
 | zero=>exact (add_zero _).symm
 | succ n ih=>rw [←fa,nc,nc,ih,add_assoc]
theorem Oc (m n:Nat):nc (m*n)=(nc m*nc n:α):=by
 induction n with
 | zero=>exact (mul_zero _).symm
 | succ n ih=>rw [Nat.mul_succ,D7,nc,ih,mul_add,mul_one]
def ic:Int→α
 | .ofNat n=>nc n
 | .negSucc n=>-nc (n+1)
theorem Pk:ic 0=(0:α):=rfl
theorem Tz:ic 1=(1:α):=zero_add 1
theorem Et (m n:Nat):ic ((m:Int)-n)=(nc m + -nc n:α):=by
 by_cases h:n≤m
 ·obtain ⟨k,rfl⟩:=gv h
  have:((n+k:Nat):Int)-n=(k:Nat):=by omega
  rw [this];show nc k=_;rw [D7,add_comm (nc n),add_assoc,add_neg,add_zero]
 ·obtain ⟨k,rfl⟩:=gv (show m+1≤n by omega)
  have:(m:Int)-((m+1+k:Nat):Int)=Int.negSucc k:=by omega
  rw [this];show -nc (k+1)=_;rw [show m+1+k=m+(k+1) by omega,D7 m,zy,←add_assoc,add_neg,zero_add]
theorem Ie (j:Int):∃m n:Nat,j=(m:Int)-n:=by
 cases j with
 | ofNat m=>exact ⟨m,0,by simp⟩
 | negSucc n=>exact ⟨0,n+1,by omega⟩
theorem Ud (j k:Int):ic (j+k)=(ic j+ic k:α):=by
 obtain ⟨a,b,rfl⟩:=Ie j;obtain ⟨c,d,rfl⟩:=Ie k;rw [show ((a:Int)-b)+((c:Int)-d)=((a+c:Nat):Int)-((b+d:Nat):Int) by omega,Et,Et,Et,D7,D7,zy,add_assoc,add_assoc,td (nc c)]
theorem ab8 (j:Int):ic (-j)=(-ic j:α):=G5 (by rw [←Ud,Int.add_right_neg]; rfl)
theorem aa1 (j k:Int):ic (j*k)=(ic j*ic k:α):=by
 obtain ⟨a,b,rfl⟩:=Ie j;obtain ⟨c,d,rfl⟩:=Ie k
 have e:((a:Int)-b)*((c:Int)-d)=((a*c+b*d:Nat):Int)-((a*d+b*c:Nat):Int):=by
  simp only [Int.sub_mul,Int.mul_sub,Int.natCast_add,zr]; omega
 rw [e,Et,Et,Et,D7,D7,Oc,Oc,Oc,Oc,add_mul,mul_add,mul_add,neg_mul,neg_mul,mul_comm (nc a) (-nc d),neg_mul,mul_comm (nc b) (-nc d),neg_mul,a81,zy,mul_comm (nc d) (nc a),mul_comm (nc d) (nc b)];simp only [add_assoc,td,add_comm]
inductive RE where
 | zero | one
 | i (k:Int)
 | v (n:Nat)
 | add (a b:RE) | mul (a b:RE) | sub (a b:RE)
 | neg (a:RE)
 | pow (a:RE) (n:Nat)
def RE.ev (env:List α):RE→α
 | .zero=>0
 | .one=>1
 | .i k=>ic k
 | .v n=>(env[n]?).getD 0
 | .add a b=>a.ev env+b.ev env
 | .mul a b=>a.ev env*b.ev env
 | .sub a b=>a.ev env-b.ev env
 | .neg a=>-a.ev env
 | .pow a n=>pw (a.ev env) n
abbrev Mon:=List Nat
def a76 (n:Nat):Mon→Mon
 | []=>[n]
 | m::r=>if Nat.ble n m then n::m::r else m::a76 n r
def a8v:Mon→Mon→Mon
 | [],b=>b
 | n::a,b=>a76 n (a8v a b)
def ltM:Mon→Mon→Bool
 | [],[]=>false
 | [],_::_=>true
 | _::_,[]=>false
 | a::r,b::s=>if Nat.beq a b then ltM r s else Nat.blt a b
def eqM:Mon→Mon→Bool
 | [],[]=>true
 | a::r,b::s=>Nat.beq a b&&eqM r s
 | _,_=>false
abbrev Pl:=List (Mon×Int)
def Ve (m:Mon) (k:Int):Pl→Pl
 | []=>if k=0 then [] else [(m,k)]
 | (m',k')::r=>if eqM m m' then (if k+k'=0 then r else (m,k+k')::r) else if ltM m m' then (if k=0 then (m',k')::r else (m,k)::(m',k')::r) else (m',k')::Ve m k r
def a0i:Pl→Pl→Pl
 | [],b=>b
 | (m,k)::a,b=>Ve m k (a0i a b)
def Uq (m:Mon) (k:Int):Pl→Pl
 | []=>[]
 | (m',k')::r=>Ve (a8v m m') (k*k') (Uq m k r)
def a2q:Pl→Pl→Pl
 | [],_=>[]
 | (m,k)::a,b=>a0i (Uq m k b) (a2q a b)
def a91 (a:Pl):Nat→Pl
 | 0=>[([],1)]
 | n+1=>a2q (a91 a n) a
def RE.nf:RE→Pl
 | .zero=>[]
 | .one=>[([],1)]
 | .i k=>Ve [] k []
 | .v n=>[([n],1)]
 | .add a b=>a0i a.nf b.nf
 | .mul a b=>a2q a.nf b.nf
 | .sub a b=>a0i a.nf (Uq [] (-1) b.nf)
 | .neg a=>Uq [] (-1) a.nf
 | .pow a n=>a91 a.nf n
def eqP:Pl→Pl→Bool
 | [],[]=>true
 | (m,k)::a,(m',k')::b=>eqM m m'&&decide (k=k')&&eqP a b
 | _,_=>false
def evM (env:List α):Mon→α
 | []=>1
 | n::m=>(env[n]?).getD 0*evM env m
def evP (env:List α):Pl→α
 | []=>0
 | (m,k)::r=>ic k*evM env m+evP env r
theorem Wc:∀{a b:Mon},eqM a b=true→a=b
 | [],[],_=>rfl
 | x::a,y::b,h=>by
  simp only [eqM,az] at h;rw [Nat.eq_of_beq_eq_true h.1,Wc h.2]
theorem a59:∀{a b:Pl},eqP a b=true→a=b
 | [],[],_=>rfl
 | (m,k)::a,(m',k')::b,h=>by
  simp only [eqP,az,decide_eq_true_eq] at h;rw [Wc h.1.1,h.1.2,a59 h.2]
theorem X3 (env:List α) (n:Nat):∀m,evM env (a76 n m)=(env[n]?).getD 0*evM env m
 | []=>rfl
 | m::r=>by
  unfold a76
  split
  ·rfl
  ·rw [evM,evM,X3 env n r,mul_left_comm]
theorem X5 (env:List α):∀a b,evM env (a8v a b)=evM env a*evM env b
 | [],b=>(one_mul _).symm
 | n::a,b=>by rw [a8v,X3,X5 env a b,evM,mul_assoc]
theorem Hr (env:List α) (m:Mon) (k:Int):∀r,evP env (Ve m k r)=ic k*evM env m+evP env r
 | []=>by
  unfold Ve
  split
  ·rename_i h; rw [h,Pk,zero_mul,zero_add]
  ·rfl
 | (m',k')::r=>by
  unfold Ve
  split
  ·rename_i h
   obtain rfl:=Wc h
   split
   ·rename_i h2
    rw [evP,←add_assoc,←add_mul,←Ud,h2,Pk,zero_mul,zero_add]
   ·rw [evP,evP,Ud,add_mul,add_assoc]
  ·split
   ·split
    ·rename_i h; rw [h,Pk,zero_mul,zero_add]
    ·rfl
   ·rw [evP,Hr env m k r,evP,td]
theorem I7 (env:List α):∀a b,evP env (a0i a b)=evP env a+evP env b
 | [],b=>(zero_add _).symm
 | (m,k)::a,b=>by rw [a0i,Hr,I7 env a b,evP,add_assoc]
theorem Nr (env:List α) (m:Mon) (k:Int):∀r,evP env (Uq m k r)=ic k*evM env m*evP env r
 | []=>(mul_zero _).symm
 | (m',k')::r=>by
  rw [Uq,Hr,Nr env m k r,evP,mul_add,X5,aa1,mul_assoc,mul_assoc,mul_left_comm (ic k')];simp only [mul_assoc]
theorem Nu (env:List α):∀a b,evP env (a2q a b)=evP env a*evP env b
 | [],b=>(zero_mul _).symm
 | (m,k)::a,b=>by rw [a2q,I7,Nr,Nu env a b,evP,add_mul]
theorem a3k (env:List α):evP env [([],1)]=1:=by simp only [evP,evM,Tz,mul_one,add_zero]
theorem Ws (env:List α) (a:Pl):∀n,evP env (a91 a n)=pw (evP env a) n
 | 0=>a3k env
 | n+1=>by rw [a91,Nu,Ws env a n]; rfl
theorem a7w (a b:α):a * -b=-(a*b):=by rw [mul_comm,neg_mul,mul_comm]
theorem a5n (env:List α) (a:Pl):evP env (Uq [] (-1) a)=-evP env a:=by
 rw [Nr,evM,mul_one,ab8,Tz,neg_mul,one_mul]
theorem Cg (env:List α):∀e:RE,evP env e.nf=e.ev env
 | .zero=>rfl
 | .one=>a3k env
 | .i k=>by rw [RE.nf,Hr,evM,mul_one,evP,add_zero]; rfl
 | .v n=>by simp only [RE.nf,evP,evM,Tz,one_mul,mul_one,add_zero]; rfl
 | .add a b=>by rw [RE.nf,I7,Cg env a,Cg env b]; rfl
 | .mul a b=>by rw [RE.nf,Nu,Cg env a,Cg env b]; rfl
 | .sub a b=>by rw [RE.nf,I7,a5n,Cg env a,Cg env b,←sub_eq]; rfl
 | .neg a=>by rw [RE.nf,a5n,Cg env a]; rfl
 | .pow a n=>by rw [RE.nf,Ws,Cg env a]; rfl
class Ix {α:Type} (env:List α) (x:α) (n:outParam Nat):Prop where
 h:env[n]? = some x
instance (priority:=1000) {l:List α} {x:α}:Ix (x::l) x 0:=⟨rfl⟩
instance (priority:=500) {l:List α} {x y:α} {n:Nat} [h:Ix l x n]:Ix (y::l) x (n+1):=⟨by simpa using h.h⟩
class Rf (env:List α) (x:α) (e:outParam RE):Prop where
 h:e.ev env=x
variable {env:List α} {x y:α} {a b:RE}
instance:Rf env (0:α) .zero:=⟨rfl⟩
instance:Rf env (1:α) .one:=⟨rfl⟩
instance {k:Int}:Rf env (ic k:α) (.i k):=⟨rfl⟩
instance [h:Rf env x a] [h':Rf env y b]:Rf env (x+y) (.add a b):=⟨by rw [RE.ev,h.h,h'.h]⟩
instance [h:Rf env x a] [h':Rf env y b]:Rf env (x*y) (.mul a b):=⟨by rw [RE.ev,h.h,h'.h]⟩
instance [h:Rf env x a] [h':Rf env y b]:Rf env (x-y) (.sub a b):=⟨by rw [RE.ev,h.h,h'.h]⟩
instance [h:Rf env x a]:Rf env (-x) (.neg a):=⟨by rw [RE.ev,h.h]⟩
instance {n:Nat} [h:Rf env x a]:Rf env (x^n) (.pow a n):=⟨by rw [RE.ev,h.h]; rfl⟩
instance (priority:=10) {n:Nat} [h:Ix env x n]:Rf env x (.v n):=⟨by rw [RE.ev,h.h]; rfl⟩
theorem bj (env:List α) {x y:α} {a b:RE} [h:Rf env x a] [h':Rf env y b] (e:eqP a.nf b.nf=true):x=y:=by
 rw [←h.h,←h'.h,←Cg,←Cg,a59 e]
end
end Gq

namespace Gq
section
variable {R:Type} [CR R]
def ac5 (m:R):Setoid R where
 r a b:=∃c,a=b+m*c
 iseqv:={
  refl:=fun a=>⟨0,by rw [mul_zero,add_zero]⟩
  symm:=fun {a b} ⟨c,h⟩=>⟨-c,by rw [h]; exact bj [b,m,c] rfl⟩
  trans:=fun {a b c} ⟨u,h⟩ ⟨v,h'⟩=>⟨u+v,by rw [h,h']; exact bj [c,m,u,v] rfl⟩ }
def Quo (m:R):Type:=Quotient (ac5 m)
variable {m:R}
def Quo.mk (m:R) (a:R):Quo m:=Quotient.mk (ac5 m) a
theorem Quo.eq {a b:R}:Quo.mk m a=Quo.mk m b↔∃c,a=b+m*c:=⟨fun h=>Quotient.exact h,fun h=>Quotient.sound h⟩
theorem Quo.ind {P:Quo m→Prop} (h:∀a,P (Quo.mk m a)) (x:Quo m):P x:=Quotient.ind h x
instance:Zero (Quo m):=⟨Quo.mk m 0⟩
instance:One (Quo m):=⟨Quo.mk m 1⟩
instance:Add (Quo m):=⟨Quotient.lift₂ (fun a b=>Quo.mk m (a+b)) (fun a b a' b' ⟨c,h⟩ ⟨d,h'⟩=>Quo.eq.2 ⟨c+d,by rw [h,h']; exact bj [a',b',c,d,m] rfl⟩)⟩
instance:Mul (Quo m):=⟨Quotient.lift₂ (fun a b=>Quo.mk m (a*b)) (fun a b a' b' ⟨c,h⟩ ⟨d,h'⟩=>Quo.eq.2 ⟨c*b'+a'*d+m*c*d,by rw [h,h']; exact bj [a',b',c,d,m] rfl⟩)⟩
instance:Neg (Quo m):=⟨Quotient.lift (fun a=>Quo.mk m (-a)) (fun a a' ⟨c,h⟩=>Quo.eq.2 ⟨-c,by rw [h]; exact bj [a',c,m] rfl⟩)⟩
instance:Sub (Quo m):=⟨fun a b=>a + -b⟩
theorem Quo.mk_add (a b:R):Quo.mk m (a+b)=Quo.mk m a+Quo.mk m b:=rfl
theorem Quo.mk_mul (a b:R):Quo.mk m (a*b)=Quo.mk m a*Quo.mk m b:=rfl
theorem Quo.mk_neg (a:R):Quo.mk m (-a)=-Quo.mk m a:=rfl
theorem Quo.mk_zero:Quo.mk m 0=0:=rfl
theorem Quo.mk_one:Quo.mk m 1=1:=rfl
instance:CR (Quo m) where
 add_zero:=Quo.ind fun a=>congrArg (Quo.mk m) (add_zero a)
 add_comm:=Quo.ind fun a=>Quo.ind fun b=>congrArg (Quo.mk m) (add_comm a b)
 add_assoc:=Quo.ind fun a=>Quo.ind fun b=>Quo.ind fun c=>congrArg (Quo.mk m) (add_assoc a b c)
 mul_one:=Quo.ind fun a=>congrArg (Quo.mk m) (mul_one a)
 mul_comm:=Quo.ind fun a=>Quo.ind fun b=>congrArg (Quo.mk m) (mul_comm a b)
 mul_assoc:=Quo.ind fun a=>Quo.ind fun b=>Quo.ind fun c=>congrArg (Quo.mk m) (mul_assoc a b c)
 mul_add:=Quo.ind fun a=>Quo.ind fun b=>Quo.ind fun c=>congrArg (Quo.mk m) (mul_add a b c)
 add_neg:=Quo.ind fun a=>congrArg (Quo.mk m) (add_neg a)
 sub_eq:=fun _ _=>rfl
theorem Quo.mk_sub (a b:R):Quo.mk m (a-b)=Quo.mk m a-Quo.mk m b:=by rw [sub_eq,mk_add,mk_neg,←sub_eq]
theorem Quo.mk_pow (a:R):∀n,Quo.mk m (pw a n)=pw (Quo.mk m a) n
 | 0=>rfl
 | n+1=>by rw [pw,pw,mk_mul,mk_pow a n]
end
theorem sub_self {α:Type} [CR α] (a:α):a-a=0:=by rw [sub_eq,add_neg]
theorem sx {α:Type} [CR α] {a b:α} (h:a-b=0):a=b:=by
 have:a=(a-b)+b:=bj [a,b] rfl;rw [this,h,zero_add]
class Fd (K:Type) extends CR K where
 one_ne:(1:K)≠0
 inv:K→K
 mul_inv:∀a:K,a≠0→a*inv a=1
theorem Fd.mul_ne {K:Type} [Fd K] {a b:K} (ha:a≠0) (hb:b≠0):a*b≠0:=fun h=>by
 have:(inv a*inv b)*(a*b)=1:=by
  rw [show (inv a*inv b)*(a*b)=(a*inv a)*(b*inv b) from bj [a,b,inv a,inv b] rfl,Fd.mul_inv a ha,Fd.mul_inv b hb,mul_one]
 rw [h,mul_zero] at this;exact Fd.one_ne this.symm
theorem Fd.zero_or {K:Type} [Fd K] {a b:K} (h:a*b=0):a=0∨b=0:=by
 by_cases ha:a=0
 ·exact .inl ha
 ·by_cases hb:b=0
  ·exact .inr hb
  ·exact absurd h (Fd.mul_ne ha hb)
theorem Fd.inv_ne {K:Type} [Fd K] {a:K} (ha:a≠0):inv a≠0:=fun h=>by
 have:=Fd.mul_inv a ha;rw [h,mul_zero] at this;exact Fd.one_ne this.symm
class IsP (p:Int):Prop where
 h:p=2∨p=3∨p=5∨p=7
theorem IsP.pos {p:Int} [h:IsP p]:0<p:=by have:=h.h; omega
theorem IsP.le {p:Int} [h:IsP p]:p≤7:=by have:=h.h; omega
theorem IsP.ge {p:Int} [h:IsP p]:2≤p:=by have:=h.h; omega
abbrev Zp (p:Int):Type:=Quo p
abbrev zp (p:Int) (n:Int):Zp p:=Quo.mk p n
theorem Do {p a b:Int}:zp p a=zp p b↔a%p=b%p:=by
 rw [Quo.eq];constructor
 ·rintro ⟨c,rfl⟩
  rw [mc]
 ·intro h
  obtain ⟨c,hc⟩:=Int.dvd_of_emod_eq_zero (Int.emod_eq_emod_iff_emod_sub_eq_zero.1 h);exact ⟨c,by omega⟩
theorem zg (p a:Int):zp p (a%p)=zp p a:=Do.2 (n7 _ (Int.dvd_refl p))
theorem W2 (p a b:Int):zp p (a+b)=zp p a+zp p b:=rfl
theorem B5 (p a b:Int):zp p (a*b)=zp p a*zp p b:=rfl
theorem A8 (p a:Int):zp p (-a)=-zp p a:=rfl
theorem a4x (p a b:Int):zp p (a-b)=zp p a-zp p b:=rfl
theorem Bw (p:Int):zp p 0=0:=rfl
theorem Ci (p:Int):zp p 1=1:=rfl
def rep {p:Int}:Zp p→Int:=Quotient.lift (fun a:Int=>a%p) fun a b h=>by
 have:=Do.1 (Quotient.sound (s:=ac5 p) h);exact this
theorem Jk (p a:Int):rep (zp p a)=a%p:=rfl
theorem jq {p:Int}:∀x:Zp p,zp p (rep x)=x:=Quo.ind fun a=>zg p a
theorem gr {p:Int} [IsP p] (x:Zp p):0≤rep x∧rep x<p:=by
 rw [←jq x,Jk];have:=IsP.pos (p:=p);exact ⟨ep _ (by omega),dl _ (by omega)⟩
theorem Be {p:Int} {x y:Zp p} (h:rep x=rep y):x=y:=by rw [←jq x,←jq y,h]
theorem O0 {p a:Int} (h:0≤a∧a<p):rep (zp p a)=a:=by rw [Jk,n6 h.1 h.2]
theorem rep_zero {p:Int}:rep (0:Zp p)=0:=by show (0:Int)%p=0; simp
theorem k9 {p:Int} {x:Zp p}:rep x=0↔x=0:=⟨fun h=>Be (by rw [h,rep_zero]),fun h=>by rw [h,rep_zero]⟩
theorem pt {p:Int} [IsP p]:rep (1:Zp p)=1:=by
 have:=IsP.ge (p:=p);exact O0 (a:=1) (by omega)
def a95 (p a:Int):Int:=(a^(p-2).toNat)%p
theorem a7i (p:Int) [h:IsP p] (a:Int) (h0:0<a) (h1:a<p):a*a95 p a%p=1:=by
 rcases h.h with rfl | rfl | rfl | rfl
 ·obtain rfl:a=1:=by omega
  decide
 ·have:a=1∨a=2:=by omega
  rcases this with rfl | rfl <;> decide
 ·have:a=1∨a=2∨a=3∨a=4:=by omega
  rcases this with rfl | rfl | rfl | rfl <;> decide
 ·have:a=1∨a=2∨a=3∨a=4∨a=5∨a=6:=by omega
  rcases this with rfl | rfl | rfl | rfl | rfl | rfl <;> decide
instance {p:Int} [IsP p]:Fd (Zp p) where
 one_ne:=fun h=>by
  have:=congrArg rep h;rw [pt,rep_zero] at this;omega
 inv:=fun x=>zp p (a95 p (rep x))
 mul_inv:=fun x hx=>by
  have h0:=gr x;have h1:rep x≠0:=fun h=>hx (k9.1 h)
  have h2:zp p (rep x*a95 p (rep x))=1:=by
   rw [←zg,a7i p _ (by omega) h0.2]; rfl
  have h3:zp p (rep x)*zp p (a95 p (rep x))=1:=h2
  rwa [jq] at h3
section
variable {K:Type} [CR K]
def cv:Nat→(Nat→K)→(Nat→K)→K
 | 0,f,g=>f 0*g 0
 | n+1,f,g=>f 0*g (n+1)+cv n (fun i=>f (i+1)) g
theorem Sm:∀(n:Nat) (f g:Nat→K),cv (n+1) f g=cv n f (fun i=>g (i+1))+f (n+1)*g 0
 | 0,f,g=>rfl
 | n+1,f,g=>by rw [cv,Sm n,cv]; simp only [add_assoc]
theorem C0:∀(n:Nat) (f g:Nat→K),cv n f g=cv n g f
 | 0,f,g=>mul_comm _ _
 | n+1,f,g=>by rw [cv,Sm,C0 n,add_comm,mul_comm (f 0)]
theorem Va:∀(n:Nat) (f f' g:Nat→K),cv n (fun i=>f i+f' i) g=cv n f g+cv n f' g
 | 0,f,f',g=>add_mul _ _ _
 | n+1,f,f',g=>by rw [cv,Va n,cv,cv,add_mul]; exact bj [f 0*g (n+1),f' 0*g (n+1),cv n (fun i=>f (i+1)) g,cv n (fun i=>f' (i+1)) g] rfl
theorem Wz (k:K):∀(n:Nat) (f g:Nat→K),cv n (fun i=>k*f i) g=k*cv n f g
 | 0,f,g=>mul_assoc _ _ _
 | n+1,f,g=>by rw [cv,Wz k n,cv,mul_add,mul_assoc]
theorem Ot (n:Nat) (f g g':Nat→K):cv n f (fun i=>g i+g' i)=cv n f g+cv n f g':=by rw [C0,Va,C0 n g,C0 n g']
theorem S2:∀(n:Nat) (f g h:Nat→K),cv n (fun i=>cv i f g) h=cv n f (fun i=>cv i g h)
 | 0,f,g,h=>mul_assoc _ _ _
 | n+1,f,g,h=>by
  rw [cv,cv];show f 0*g 0*h (n+1)+cv n (fun i=>f 0*g (i+1)+cv i (fun i=>f (i+1)) g) h=f 0*cv (n+1) g h+cv n (fun i=>f (i+1)) (fun i=>cv i g h)
  rw [Va,Wz,S2 n,cv,mul_add,mul_assoc,add_assoc]
theorem C4 {g:Nat→K}:∀(n:Nat) {f:Nat→K},(∀i,f i=0)→cv n f g=0
 | 0,f,h=>by rw [cv,h,zero_mul]
 | n+1,f,h=>by rw [cv,h,zero_mul,C4 n (fun i=>h _),add_zero]
theorem U0 {g:Nat→K} {b:Nat} (hg:∀i,b≤i→g i=0):∀(a n:Nat) {f:Nat→K},(∀i,a≤i→f i=0)→a+b≤n+1→cv n f g=0
 | 0,n,f,hf,_=>C4 n fun i=>hf i (kf i)
 | a+1,0,f,hf,h=>by
  have:b=0:=by omega
  subst this;rw [cv,hg 0 (bh _),mul_zero]
 | a+1,n+1,f,hf,h=>by rw [cv,hg (n+1) (by omega),mul_zero,U0 hg a n (fun i hi=>hf _ (by omega)) (by omega),add_zero]
structure Pol (K:Type) [CR K] where
 c:Nat→K
 fin:∃n,∀i,n≤i→c i=0
theorem Pol.ext {a b:Pol K} (h:∀i,a.c i=b.c i):a=b:=by
 obtain ⟨f,hf⟩:=a;obtain ⟨g,hg⟩:=b;have:f=g:=funext h;subst this;rfl
def Yx:Nat→K:=fun i=>if i=0 then 1 else 0
instance:Zero (Pol K):=⟨⟨fun _=>0,0,fun _ _=>rfl⟩⟩
instance:One (Pol K):=⟨⟨Yx,1,fun i hi=>if_neg (by omega)⟩⟩
instance:Add (Pol K):=⟨fun a b=>⟨fun i=>a.c i+b.c i,by
 obtain ⟨n,hn⟩:=a.fin;obtain ⟨m,hm⟩:=b.fin;exact ⟨max n m,fun i hi=>by rw [hn i (by omega),hm i (by omega),add_zero]⟩⟩⟩
instance:Neg (Pol K):=⟨fun a=>⟨fun i=>-a.c i,by
 obtain ⟨n,hn⟩:=a.fin;exact ⟨n,fun i hi=>by rw [hn i hi,ve]⟩⟩⟩
instance:Sub (Pol K):=⟨fun a b=>a + -b⟩
instance:Mul (Pol K):=⟨fun a b=>⟨fun i=>cv i a.c b.c,by
 obtain ⟨n,hn⟩:=a.fin;obtain ⟨m,hm⟩:=b.fin;exact ⟨n+m,fun i hi=>U0 hm n i hn (by omega)⟩⟩⟩
theorem Pol.c_zero (i:Nat):(0:Pol K).c i=0:=rfl
theorem Pol.c_add (a b:Pol K) (i:Nat):(a+b).c i=a.c i+b.c i:=rfl
theorem Pol.c_neg (a:Pol K) (i:Nat):(-a).c i=-a.c i:=rfl
theorem Pol.c_mul (a b:Pol K) (i:Nat):(a*b).c i=cv i a.c b.c:=rfl
theorem a6c (n:Nat) (f:Nat→K):cv n Yx f=f n:=by
 cases n with
 | zero=>exact one_mul _
 | succ n=>
  have e:cv n (fun i=>Yx (i+1)) f=0:=C4 n (f:=fun i=>Yx (i+1)) (fun i=>if_neg (Nat.succ_ne_zero i))
  rw [cv,e,add_zero];exact one_mul _
instance:CR (Pol K) where
 add_zero:=fun a=>Pol.ext fun i=>add_zero _
 add_comm:=fun a b=>Pol.ext fun i=>add_comm _ _
 add_assoc:=fun a b c=>Pol.ext fun i=>add_assoc _ _ _
 mul_one:=fun a=>Pol.ext fun i=>by rw [Pol.c_mul,C0]; exact a6c i a.c
 mul_comm:=fun a b=>Pol.ext fun i=>C0 _ _ _
 mul_assoc:=fun a b c=>Pol.ext fun i=>S2 _ _ _ _
 mul_add:=fun a b c=>Pol.ext fun i=>Ot _ _ _ _
 add_neg:=fun a=>Pol.ext fun i=>add_neg _
 sub_eq:=fun _ _=>rfl
theorem Pol.c_sub (a b:Pol K) (i:Nat):(a-b).c i=a.c i-b.c i:=by rw [sub_eq,c_add,c_neg,←sub_eq]
def Pol.C (k:K):Pol K:=⟨fun i=>if i=0 then k else 0,1,fun i hi=>if_neg (by omega)⟩
def Pol.X:Pol K:=⟨fun i=>if i=1 then 1 else 0,2,fun i hi=>if_neg (by omega)⟩
theorem Pol.c_C (k:K) (i:Nat):(Pol.C k).c i=if i=0 then k else 0:=rfl
theorem Pol.c_X (i:Nat):(Pol.X:Pol K).c i=if i=1 then 1 else 0:=rfl
theorem Pol.c_Cmul (k:K) (a:Pol K) (i:Nat):(Pol.C k*a).c i=k*a.c i:=by
 rw [c_mul];cases i with
 | zero=>rfl
 | succ n=>
  have e:cv n (fun i=>(Pol.C k).c (i+1)) a.c=0:=C4 n (f:=fun i=>(Pol.C k).c (i+1)) (fun i=>by rw [c_C,if_neg (Nat.succ_ne_zero i)])
  rw [cv,e,add_zero]; rfl
theorem Pol.c_Xmul (a:Pol K) (i:Nat):(Pol.X*a).c i=if i=0 then 0 else a.c (i-1):=by
 rw [c_mul];cases i with
 | zero=>exact zero_mul _
 | succ n=>
  have e:(fun i=>(Pol.X:Pol K).c (i+1))=Yx:=funext fun i=>by
   rw [c_X]; unfold Yx
   by_cases h:i=0
   ·rw [if_pos h,if_pos (by omega)]
   ·rw [if_neg h,if_neg (by omega)]
  rw [cv,e,a6c,c_X,if_neg (by omega),zero_mul,zero_add,if_neg (by omega)]; rfl
theorem Pol.C_zero:Pol.C (0:K)=0:=Pol.ext fun i=>by rw [c_C,c_zero]; split <;> rfl
theorem Pol.C_one:Pol.C (1:K)=1:=rfl
theorem Pol.C_add (a b:K):Pol.C (a+b)=Pol.C a+Pol.C b:=Pol.ext fun i=>by
 rw [c_add,c_C,c_C,c_C]; split
 ·rfl
 ·rw [add_zero]
theorem Pol.C_mul (a b:K):Pol.C (a*b)=Pol.C a*Pol.C b:=Pol.ext fun i=>by
 rw [c_Cmul,c_C,c_C]; split
 ·rfl
 ·rw [mul_zero]
theorem Pol.C_neg (a:K):Pol.C (-a)=-Pol.C a:=G5 (by rw [←C_add,add_neg,C_zero])
def Pol.lt (a:Pol K) (n:Nat):Prop:=∀i,n≤i→a.c i=0
theorem Pol.lt.mono {a:Pol K} {n m:Nat} (h:a.lt n) (hnm:n≤m):a.lt m:=fun i hi=>h i (by omega)
theorem Pol.lt_zero {a:Pol K}:a.lt 0↔a=0:=⟨fun h=>Pol.ext fun i=>h i (kf i),fun h=>by rw [h]; exact fun _ _=>rfl⟩
theorem Pol.lt_add {a b:Pol K} {n:Nat} (ha:a.lt n) (hb:b.lt n):(a+b).lt n:=fun i hi=>by rw [c_add,ha i hi,hb i hi,add_zero]
theorem Pol.lt_neg {a:Pol K} {n:Nat} (ha:a.lt n):(-a).lt n:=fun i hi=>by rw [c_neg,ha i hi,ve]
theorem Pol.lt_sub {a b:Pol K} {n:Nat} (ha:a.lt n) (hb:b.lt n):(a-b).lt n:=by rw [sub_eq]; exact lt_add ha (lt_neg hb)
theorem Pol.lt_mul {a b:Pol K} {n m:Nat} (ha:a.lt n) (hb:b.lt m):(a*b).lt (n+m-1):=fun i hi=>U0 hb n i ha (by omega)
theorem Pol.lt_Cmul {a:Pol K} {n:Nat} (k:K) (ha:a.lt n):(C k*a).lt n:=fun i hi=>by rw [c_Cmul,ha i hi,mul_zero]
theorem Pol.lt_one:(1:Pol K).lt 1:=fun i hi=>if_neg (by omega)
theorem Pol.lt_C (k:K):(C k).lt 1:=fun i hi=>if_neg (by omega)
theorem Pol.lt_X:(X:Pol K).lt 2:=fun i hi=>if_neg (by omega)
theorem Pol.eq_C {a:Pol K} (h:a.lt 1):a=C (a.c 0):=Pol.ext fun i=>by
 rw [c_C]; split
 ·rename_i h0; rw [h0]
 ·exact h i (by omega)
theorem Pol.len_ex (a:Pol K):∃n,a.lt n∧∀m,a.lt m→n≤m:=by
 obtain ⟨n,hn⟩:=a.fin
 have h:∀k,∀n,n≤k→a.lt n→∃n,a.lt n∧∀m,a.lt m→n≤m:=by
  intro k
  induction k with
  | zero=>exact fun n hk hn=>⟨n,hn,fun m _=>by omega⟩
  | succ k ih=>
   intro n hk hn
   by_cases h:∃m,m<n∧a.lt m
   ·obtain ⟨m,h1,h2⟩:=h
    exact ih m (by omega) h2
   ·exact ⟨n,hn,fun m hm=>by
     rcases ek m n with h1 | h1
     ·exact absurd ⟨m,h1,hm⟩ h
     ·exact h1⟩
 exact h n n (bh n) hn
noncomputable def Pol.len (a:Pol K):Nat:=Classical.choose a.len_ex
theorem Pol.lt_len (a:Pol K):a.lt a.len:=(ec a.len_ex).1
theorem Pol.len_le {a:Pol K} {n:Nat} (h:a.lt n):a.len≤n:=(ec a.len_ex).2 n h
theorem Pol.lt_iff {a:Pol K} {n:Nat}:a.lt n↔a.len≤n:=⟨len_le,fun h=>a.lt_len.mono h⟩
theorem Pol.len_zero_iff {a:Pol K}:a.len=0↔a=0:=by rw [←lt_zero,lt_iff]; omega
theorem Pol.len_zero:(0:Pol K).len=0:=len_zero_iff.2 rfl
theorem Pol.len_pos {a:Pol K} (h:a≠0):0<a.len:=by
 have:a.len≠0:=fun h'=>h (len_zero_iff.1 h')
 omega
noncomputable def Pol.ld (a:Pol K):K:=a.c (a.len-1)
theorem Pol.ld_ne {a:Pol K} (h:a≠0):a.ld≠0:=fun h0=>by
 have hp:=len_pos h
 have:a.lt (a.len-1):=fun i hi=>by
  rcases ek i a.len with h1 | h1
  ·rw [show i=a.len-1 by omega]; exact h0
  ·exact a.lt_len i h1
 have:=len_le this;omega
theorem Pol.len_eq {a:Pol K} {n:Nat} (h:a.lt (n+1)) (h':a.c n≠0):a.len=n+1:=by
 have h1:=len_le h;rcases ek n a.len with h2 | h2
 ·omega
 ·exact absurd (a.lt_len n h2) h'
theorem U6 {g:Nat→K} {b:Nat} (hg:∀i,b+1≤i→g i=0):∀(a:Nat) {f:Nat→K},(∀i,a+1≤i→f i=0)→cv (a+b) f g=f a*g b
 | 0,f,hf=>by
  rw [cd];cases b with
  | zero=>rfl
  | succ b=>rw [cv,C4 b (fun i=>hf _ (by omega)),add_zero]
 | a+1,f,hf=>by
  rw [show a+1+b=(a+b)+1 by omega,cv,hg (a+b+1) (by omega),mul_zero,zero_add,U6 hg a (fun i hi=>hf _ (by omega))]
end
section
variable {K:Type} [Fd K]
theorem Pol.len_mul {a b:Pol K} (ha:a≠0) (hb:b≠0):(a*b).len+1=a.len+b.len:=by
 have h1:=len_pos ha;have h2:=len_pos hb
 have e:(a*b).c ((a.len-1)+(b.len-1))=a.ld*b.ld:=by
  rw [c_mul];exact U6 (f:=a.c) (fun i hi=>b.lt_len i (by omega)) _ (fun i hi=>a.lt_len i (by omega))
 have l:=len_eq (a:=a*b) (n:=(a.len-1)+(b.len-1)) ((lt_mul a.lt_len b.lt_len).mono (by omega)) (by rw [e]; exact Fd.mul_ne (ld_ne ha) (ld_ne hb))
 omega
theorem Pol.ld_mul {a b:Pol K} (ha:a≠0) (hb:b≠0):(a*b).ld=a.ld*b.ld:=by
 have h1:=len_pos ha;have h2:=len_pos hb
 have e:(a*b).c ((a.len-1)+(b.len-1))=a.ld*b.ld:=by
  rw [c_mul];exact U6 (f:=a.c) (fun i hi=>b.lt_len i (by omega)) _ (fun i hi=>a.lt_len i (by omega))
 have l:=len_mul ha hb;unfold ld at *;rw [←e]; congr 1; omega
theorem Pol.mul_ne {a b:Pol K} (ha:a≠0) (hb:b≠0):a*b≠0:=fun h=>by
 have l:=len_mul ha hb;have h1:=len_pos ha;have h2:=len_pos hb;rw [h,len_zero] at l;omega
theorem Pol.zero_or {a b:Pol K} (h:a*b=0):a=0∨b=0:=by
 by_cases ha:a=0
 ·exact .inl ha
 ·by_cases hb:b=0
  ·exact .inr hb
  ·exact absurd h (mul_ne ha hb)
theorem Pol.mul_cancel {a b c:Pol K} (ha:a≠0) (h:a*b=a*c):b=c:=by
 have:a*(b-c)=0:=by
  rw [show a*(b-c)=a*b-a*c from bj [a,b,c] rfl,h,sub_self]
 exact sx ((zero_or this).resolve_left ha)
theorem Pol.one_ne:(1:Pol K)≠0:=fun h=>Fd.one_ne (K:=K) (congrArg (fun f=>Pol.c f 0) h)
theorem Pol.len_one:(1:Pol K).len=1:=len_eq lt_one Fd.one_ne
theorem Pol.ld_one:(1:Pol K).ld=1:=by unfold ld; rw [len_one]; rfl
theorem Pol.len_X:(X:Pol K).len=2:=len_eq lt_X Fd.one_ne
theorem Pol.X_ne:(X:Pol K)≠0:=fun h=>by have:=len_X (K:=K); rw [h,len_zero] at this; omega
theorem Pol.len_C {k:K} (h:k≠0):(C k).len=1:=len_eq (lt_C k) h
theorem Pol.C_ne {k:K} (h:k≠0):C k≠0:=fun h'=>by have:=len_C h; rw [h',len_zero] at this; omega
theorem Pol.len_Cmul {k:K} (h:k≠0) (a:Pol K):(C k*a).len=a.len:=by
 by_cases ha:a=0
 ·rw [ha,mul_zero]
 ·have:=len_mul (C_ne h) ha
  rw [len_C h] at this;omega
def Pol.mo (k:K) (n:Nat):Pol K:=⟨fun i=>if i=n then k else 0,n+1,fun i hi=>if_neg (by omega)⟩
theorem a9s (k:K) (g:Nat→K):∀(n j:Nat),cv (n+j) (fun i=>if i=n then k else 0) g=k*g j
 | 0,0=>rfl
 | 0,j+1=>by
  rw [cd,cv,C4 j (fun i=>if_neg (by omega)),add_zero]; rfl
 | n+1,j=>by
  have e:(fun i=>if i+1=n+1 then k else 0)=(fun i=>if i=n then k else 0):=funext fun i=>by
   by_cases h:i=n
   ·rw [if_pos h,if_pos (by omega)]
   ·rw [if_neg h,if_neg (by omega)]
  rw [show n+1+j=(n+j)+1 by omega,cv,if_neg (by omega),zero_mul,zero_add,e,a9s k g n j]
theorem Pol.c_momul (k:K) (n:Nat) (a:Pol K) (i:Nat) (h:n≤i):(mo k n*a).c i=k*a.c (i-n):=by
 obtain ⟨j,rfl⟩:=gv h;rw [c_mul,Nat.add_sub_cancel_left];exact a9s k a.c n j
theorem Pol.div_ex (b:Pol K) (hb:b≠0):∀(n:Nat) (a:Pol K),a.lt n→∃q r:Pol K,a=q*b+r∧r.len<b.len
 | 0,a,h=>⟨0,0,by rw [lt_zero.1 h,zero_mul,add_zero],by rw [len_zero]; exact len_pos hb⟩
 | n+1,a,h=>by
  rcases ek n (b.len-1) with h1 | h1
  ·exact ⟨0,a,by rw [zero_mul,zero_add],by have:=len_le h; omega⟩
  ·have hp:=len_pos hb
   have key:(a-mo (a.c n*Fd.inv b.ld) (n-(b.len-1))*b).lt n:=fun i hi=>by
    rw [c_sub,c_momul _ _ _ _ (by omega)]
    by_cases h2:i=n
    ·subst h2
     rw [show i-(i-(b.len-1))=b.len-1 by omega]
     have:=Fd.mul_inv b.ld (ld_ne hb);show a.c i-a.c i*Fd.inv b.ld*b.ld=0;rw [mul_assoc,mul_comm (Fd.inv b.ld),this,mul_one,sub_self]
    ·rw [h i (by omega),b.lt_len _ (by omega),mul_zero,sub_self]
   obtain ⟨q,r,h2,h3⟩:=div_ex b hb n _ key;refine ⟨mo (a.c n*Fd.inv b.ld) (n-(b.len-1))+q,r,?_,h3⟩
   revert h2
   generalize mo (a.c n*Fd.inv b.ld) (n-(b.len-1))=t;intro h2;have:a=(a-t*b)+t*b:=bj [a,t,b] rfl;rw [this,h2];exact bj [q,b,r,t] rfl
theorem Pol.div_unique {b q r q' r':Pol K} (h:q*b+r=q'*b+r') (hr:r.len<b.len) (hr':r'.len<b.len):q=q'∧r=r':=by
 have e:(q-q')*b=r'-r:=by
  have:(q-q')*b=(q*b+r)-(q'*b+r):=bj [q,q',b,r] rfl;rw [this,h];exact bj [q',b,r,r'] rfl
 have hb:b≠0:=fun h0=>by rw [h0,len_zero] at hr; omega
 by_cases hq:q-q'=0
 ·have hq':=sx hq
  rw [hq,zero_mul] at e;exact ⟨hq',(sx e.symm).symm⟩
 ·have l:=len_mul hq hb
  rw [e] at l;have h1:=len_le (lt_sub (Pol.lt_iff.2 (show r'.len≤b.len-1 by omega)) (Pol.lt_iff.2 (show r.len≤b.len-1 by omega)))
  have:=len_pos hq;omega
open Classical in
noncomputable def Pol.qr (a b:Pol K):Pol K×Pol K:=
 if hb:b=0 then (0,a) else ((Classical.choose (div_ex b hb a.len a a.lt_len)),Classical.choose (ec (div_ex b hb a.len a a.lt_len)))
noncomputable instance:Div (Pol K):=⟨fun a b=>(Pol.qr a b).1⟩
noncomputable instance:Mod (Pol K):=⟨fun a b=>(Pol.qr a b).2⟩
theorem Pol.div_mod (a b:Pol K):a=(a/b)*b+a%b:=by
 show a=(qr a b).1*b+(qr a b).2;unfold qr
 split
 ·rename_i h; rw [h,mul_zero,zero_add]
 ·rename_i h; exact (ec (ec (div_ex b h a.len a a.lt_len))).1
theorem Pol.len_mod (a:Pol K) {b:Pol K} (h:b≠0):(a%b).len<b.len:=by
 show (qr a b).2.len<_;unfold qr;rw [dif_neg h];exact (ec (ec (div_ex b h a.len a a.lt_len))).2
theorem Pol.div_mod_eq {a b q r:Pol K} (h:a=q*b+r) (hr:r.len<b.len):a/b=q∧a%b=r:=by
 have hb:b≠0:=fun h0=>by rw [h0,len_zero] at hr; omega
 exact div_unique ((div_mod a b).symm.trans h) (len_mod a hb) hr
end
end Gq

namespace Pe
open Go Gq
abbrev Fp (p:Int):Type:=Pol (Zp p)
noncomputable def row {p:Int} (a:Fp p):List Int:=(List.range a.len).map fun i=>rep (a.c i)
def pad (l:List Int):List Int:=(List.range 64).map (cf l)
section
variable {p:Int}
@[simp] theorem bi (a:Fp p):(row a).length=a.len:=by simp [row]
theorem ft (a:Fp p) (i:Nat):cf (row a) i=rep (a.c i):=by
 rcases ek i a.len with h | h
 ·exact pr _ _ _ h
 ·rw [pc (by rw [bi]; exact h),a.lt_len i h,rep_zero]
theorem ll [IsP p] (a:Fp p):Can p (row a):=Can.of_cf fun j _=>by rw [ft]; exact gr _
theorem Gh [IsP p] (a:Fp p) {b:Int} (hb:7≤b):Small b (row a):=(ll a).small (by have:=IsP.le (p:=p); omega)
theorem dt:row (0:Fp p)=[]:=by
 apply u7;rw [bi,Pol.len_zero]
theorem a8y {a:Fp p}:row a=[]↔a=0:=by rw [←fj,bi,Pol.len_zero_iff]
theorem Mv (l:List Int):∀n,(∀i,rp l n≤i→i<n→cf l i=0)∧(rp l n=0∨cf l (rp l n-1)≠0)
 | 0=>⟨fun i _ h=>absurd h (Nat.not_lt_zero i),.inl rfl⟩
 | n+1=>by
  have ih:=Mv l n;unfold rp
  by_cases h:cf l n=0
  ·rw [if_pos h]
   refine ⟨fun i h1 h2=>?_,ih.2⟩
   by_cases hi:i=n
   ·rw [hi,h]
   ·exact ih.1 i h1 (by omega)
  ·rw [if_neg h]
   exact ⟨fun i h1 h2=>by omega,.inr h⟩
theorem Ar {l:List Int} {f:Fp p} (h:∀i,cf l i=rep (f.c i)):trim l=row f:=by
 have ht:=Mv l l.length;have hl:=Hy l l.length
 have e:rp l l.length=f.len:=by
  apply Nat.le_antisymm
  ·rcases ht.2 with h0 | h0
   ·omega
   ·rw [h] at h0
    rcases ek (rp l l.length-1) f.len with h1 | h1
    ·omega
    ·exact absurd (by rw [f.lt_len _ h1,rep_zero]) h0
  ·apply Pol.len_le
   intro i hi;apply k9.1;rw [←h];rcases ek i l.length with h1 | h1
   ·exact ht.1 i hi h1
   ·exact pc h1
 apply qb
 ·rw [bi,←e]; unfold trim; rw [bv]; omega
 ·intro i h1 h2
  have e1:(trim l)[i]=cf l i:=by
   unfold trim at h1 ⊢;rw [sj,gu]
  have e2:(row f)[i]=cf (row f) i:=(gu h2).symm;rw [e1,e2,ft,h]
def fe (p:Int) (l:List Int):Fp p:=⟨fun i=>zp p (cf l i),l.length,fun i hi=>by rw [pc hi]; rfl⟩
theorem jy (l:List Int) (i:Nat):(fe p l).c i=zp p (cf l i):=rfl
theorem a6t (l:List Int):(fe p l).lt l.length:=fun i hi=>by rw [jy,pc hi]; rfl
theorem xo (a:Fp p):fe p (row a)=a:=Pol.ext fun i=>by rw [jy,ft,jq]
theorem re [IsP p] {l:List Int} (h:Can p l):trim l=row (fe p l):=Ar fun i=>by
 have h1:=h.le IsP.pos i;rw [jy,O0 h1]
theorem a7l {a b:Fp p} (h:row a=row b):a=b:=by rw [←xo a,←xo b,h]
theorem Pz:pad []=List.replicate 64 0:=by decide +kernel
@[simp] theorem akj:z64=af .u8 (pad []):=by rw [Pz]; unfold af z64; rw [List.map_replicate]
theorem c8 (l:List Int):(pad l).length=64:=by simp [pad]
theorem Am {l:List Int} (h:l.length≤64) (i:Nat):cf (pad l) i=cf l i:=by
 rcases ek i 64 with h1 | h1
 ·exact pr _ _ _ h1
 ·rw [pc (by rw [c8]; exact h1),pc (by omega)]
theorem ml (l:List Int) (i:Nat) (h:i<64):(pad l)[i]? = some (cf l i):=by
 rw [pad,fm,i8 h]; rfl
theorem Jh {l m:List Int} (hl:m.length=64) (h:∀i,i<64→cf l i=cf m i):pad l=m:=by
 apply qb
 ·rw [c8,hl]
 ·intro i h1 h2
  rw [←gu h2,←h i (by omega)]
  simp [pad]
theorem S3 [IsP p] (a b:Fp p) (k:Int):a7f p (row a) (row b) k=row (a+Pol.C (zp p k)*b):=by
 apply Ar;intro i
 have e:rep ((a+Pol.C (zp p k)*b).c i)=(rep (a.c i)+k*rep (b.c i))%p:=by
  rw [Pol.c_add,Pol.c_Cmul,←Jk]
  congr 1
  rw [W2,B5,jq,jq]
 rw [e];rcases ek i (max a.len b.len) with h | h
 ·rw [pr _ _ _ (by simpa using h)]
  unfold lin;rw [ft,ft]
 ·rw [pc (by simpa using h),a.lt_len i (by omega),b.lt_len i (by omega)]
  simp [rep_zero]
def cvs {K:Type} [CR K] (f g:Nat→K):Nat→Nat→K
 | 0,_=>0
 | m+1,j=>cvs f g m j+if m≤j then f m*g (j-m) else 0
theorem J8 {K:Type} [CR K] (f g:Nat→K):∀m j,cvs f g (m+1) j=f 0*g j+if j=0 then 0 else cvs (fun i=>f (i+1)) g m (j-1)
 | 0,j=>by
  show 0+(if 0≤j then f 0*g (j-0) else 0)=_
  rw [if_pos (kf j),Nat.sub_zero,Gq.zero_add]
  split <;> exact (Gq.add_zero _).symm
 | m+1,j=>by
  rw [cvs,J8 f g m j]
  by_cases h:j=0
  ·subst h
   rw [if_pos rfl,if_neg (by omega),if_pos rfl,Gq.add_zero]
  ·rw [if_neg h,if_neg h,cvs]
   rw [Gq.add_assoc]
   congr 2
   by_cases h2:m+1≤j
   ·rw [if_pos h2,if_pos (by omega),show j-(m+1)=j-1-m by omega]
   ·rw [if_neg h2,if_neg (by omega)]
theorem a3c {K:Type} [CR K] (g:Nat→K):∀(j m:Nat) (f:Nat→K),j<m→cvs f g m j=cv j f g
 | 0,0,f,h=>by omega
 | 0,m+1,f,_=>by rw [J8,if_pos rfl,Gq.add_zero]; rfl
 | j+1,0,f,h=>by omega
 | j+1,m+1,f,h=>by rw [J8,if_neg (by omega),cv,Nat.add_sub_cancel,a3c g j m _ (by omega)]
theorem Tl {K:Type} [CR K] (f g:Nat→K) {m:Nat} (h:∀i,m≤i→f i=0) (j:Nat):∀k,cvs f g (m+k) j=cvs f g m j
 | 0=>rfl
 | k+1=>by
  rw [←fa,cvs,Tl f g h j k,h (m+k) (by omega),Gq.zero_mul]
  split <;> exact Gq.add_zero _
theorem Xv (l m:List Int):∀n j,zp p (conv l m n j)=cvs (fe p l).c (fe p m).c n j
 | 0,j=>rfl
 | n+1,j=>by
  rw [conv,cvs,←Xv l m n j]
  split
  ·rfl
  ·rfl
theorem a7e [IsP p] (a b:Fp p):mul p (row a) (row b)=row (a*b):=by
 apply Ar;intro i
 have e:∀i,conv (row a) (row b) (row a).length i%p=rep ((a*b).c i):=fun i=>by
  rw [←Jk,Xv,xo,xo,bi,Pol.c_mul]
  congr 1
  rw [←Tl a.c b.c a.lt_len i (i+1),a3c];omega
 rcases ek i (a.len+b.len-1) with h | h
 ·rw [pr _ _ _ (by simpa using h),e]
 ·rw [pc (by simpa using h),Pol.lt_mul a.lt_len b.lt_len i h,rep_zero]
end
end Pe
namespace Pe
open Go Gq
variable {T:Nat→Option Fn} {A:ap}
theorem a2w (p:Int) [h:IsP p] (a:Int) (h0:0<a) (h1:a<p):a*inv p a%p=1:=by
 rcases h.h with rfl | rfl | rfl | rfl
 ·obtain rfl:a=1:=by omega
  decide
 ·have:a=1∨a=2:=by omega
  rcases this with rfl | rfl <;> decide
 ·have:a=1∨a=2∨a=3∨a=4:=by omega
  rcases this with rfl | rfl | rfl | rfl <;> decide
 ·have:a=1∨a=2∨a=3∨a=4∨a=5∨a=6:=by omega
  rcases this with rfl | rfl | rfl | rfl | rfl | rfl <;> decide
theorem vd (p:Int) [IsP p] (a:Int):0≤inv p a∧inv p a<p:=by
 have:=IsP.ge (p:=p);exact Wo (by omega) _
@[simp] theorem a4l {p:Int} (a:Fp p):(row a).take a.len=row a:=bg (by simp)
def fl (O:ap):Prop:=∀(p:Int) [IsP p] (k:Int) (a b:Fp p),-1000000≤k→k≤1000000→a.len<1000000→b.len<1000000 →
 ask O F12 [(D.int .i64 p),(D.sl .leaf (af .i64 (row a))),(D.sl .leaf (af .i64 (row b))),(D.int .i64 k)]=some (D.sl .leaf (af .i64 (row (a+Pol.C (zp p k)*b))))
theorem Yr {O:ap} (h:Bh O):fl O:=fun p i k a b h1 h2 h3 h4=>by
 have h5:=IsP.pos (p:=p);have h6:=IsP.le (p:=p);rw [h p k (row a) (row b) h5 (by omega) (Gh a (by omega)) (Gh b (by omega)) h1 h2 (by simpa using h3) (by simpa using h4),S3]
def um (O:ap):Prop:=∀(p:Int) [IsP p] (a b:Fp p),a.len<10000→b.len<10000 →
 ask O F1m [(D.int .i64 p),(D.sl .leaf (af .i64 (row a))),(D.sl .leaf (af .i64 (row b)))]=some (D.sl .leaf (af .i64 (row (a*b))))
theorem a7y {O:ap} (h:Q5 O):um O:=fun p i a b h1 h2=>by
 have h5:=IsP.pos (p:=p);have h6:=IsP.le (p:=p);rw [h p (row a) (row b) h5 (by omega) (ll a) (ll b) (by simpa using h1) (by simpa using h2),a7e]
def wi (O:ap):Prop:=∀(p:Int) [IsP p] (k:Int) (a:Fp p),-1000000≤k→k≤1000000→a.len<1000000 →
 ask O F1j [(D.int .i64 p),(D.sl .leaf (af .i64 (row a))),(D.int .i64 k)]=some (D.sl .leaf (af .i64 (row (Pol.C (zp p k)*a))))
theorem a72 {O:ap} (h:Ph O):wi O:=fun p i k a h1 h2 h3=>by
 have h5:=IsP.pos (p:=p);have h6:=IsP.le (p:=p);have e:=S3 (0:Fp p) a k;rw [dt,Gq.zero_add] at e;rw [h p k (row a) h5 (by omega) (Gh a (by omega)) h1 h2 (by simpa using h3),e]
theorem a5g {K:Type} [CR K] {g:Nat→K}:∀{i:Nat} {f:Nat→K},(∀j,j≤i→f j=0)→cv i f g=0
 | 0,f,h=>by rw [cv,h 0 (bh 0),Gq.zero_mul]
 | i+1,f,h=>by rw [cv,h 0 (kf _),Gq.zero_mul,a5g (fun j hj=>h (j+1) (by omega)),Gq.add_zero]
theorem Su {K:Type} [Fd K] (k:K) (n:Nat) (a:Pol K) (i:Nat):(Pol.mo k n*a).c i=if n≤i then k*a.c (i-n) else 0:=by
 split
 ·rename_i h; exact Pol.c_momul k n a i h
 ·rename_i h
  rw [Pol.c_mul];exact a5g fun j hj=>if_neg (by omega)
section
variable {p:Int} [IsP p]
theorem Sz (q:Int) (b:Fp p) (c:Nat) (cur:List Int) (h:c+b.len≤cur.length):fe p (ov p q (row b) c b.len 0 cur)=fe p cur-Pol.mo (zp p q) c*b:=Pol.ext fun j=>by
 rw [Pol.c_sub,Su,jy,jy,A4 _ _ _ _ _ _ _ _ (by omega)]
 by_cases h1:c+0≤j∧j<c+0+b.len
 ·rw [if_pos h1,if_pos (by omega),zg,a4x,B5,ft,jq]
 ·rw [if_neg h1]
  split
  ·rw [b.lt_len _ (by omega),Gq.mul_zero,sub_eq,ve,Gq.add_zero]
  ·rw [sub_eq,ve,Gq.add_zero]
theorem a0m (q:Int) (c:Nat) (quo:List Int) (h:c<quo.length) (h0:cf quo c=0):fe p (quo.set c q)=fe p quo+Pol.mo (zp p q) c:=Pol.ext fun j=>by
 rw [Pol.c_add,jy,jy,t8];show _=_+(if j=c then zp p q else 0)
 by_cases h1:j=c
 ·subst h1
  rw [if_pos ⟨rfl,h⟩,if_pos rfl,h0,Bw,Gq.zero_add]
 ·rw [if_neg (by omega),if_neg h1,Gq.add_zero]
theorem Ns (b:Fp p) (hb:b≠0):∀(c:Nat) (cur quo:List Int),c+b.len≤cur.length+1→c≤quo.length→Can p cur→(∀j,j<c→cf quo j=0)→(∀j,c+b.len-1≤j→cf cur j=0)→Can p quo →
 let r:=dv p (inv p (rep b.ld)) (row b) c (cur,quo)
 fe p r.1+fe p r.2*b=fe p cur+fe p quo*b∧(∀j,b.len-1≤j→cf r.1 j=0)∧Can p r.1∧Can p r.2
 | 0,cur,quo,_,_,hcan,_,h,hq=>⟨rfl,fun j hj=>h j (by omega),hcan,hq⟩
 | c+1,cur,quo,hl,hlq,hcan,hq0,h,hq=>by
  have hp:=IsP.pos (p:=p);have hbl:=Pol.len_pos hb;have hr:=gr b.ld;have hld:rep b.ld≠0:=fun h0=>Pol.ld_ne hb (k9.1 h0)
  generalize hqd:cf cur (c+b.len-1)*inv p (rep b.ld)%p=q;have hqin:0≤q∧q<p:=by subst hqd; exact ⟨ep _ (by omega),dl _ hp⟩
  have hlen:c+b.len≤cur.length:=by omega
  have e:dv p (inv p (rep b.ld)) (row b) (c+1) (cur,quo)=dv p (inv p (rep b.ld)) (row b) c (ov p q (row b) c b.len 0 cur,quo.set c q):=by
   rw [dv]; simp only [bi,hqd]
  rw [e]
  have key:(cf cur (c+b.len-1)-q*rep b.ld)%p=0:=by
   have h1:=a2w p (rep b.ld) (by omega) hr.2
   have h2:q*rep b.ld%p=cf cur (c+b.len-1)%p:=by
    subst hqd;rw [Int.mul_emod,n7 _ (Int.dvd_refl p),←Int.mul_emod,xf,jl (inv p _),Int.mul_emod,h1,pm,n7 _ (Int.dvd_refl p)]
   rw [Int.sub_emod,h2,←Int.sub_emod,Int.sub_self,Int.zero_emod]
  have ih:=Ns b hb c (ov p q (row b) c b.len 0 cur) (quo.set c q) (by rw [oh]; omega) (by simp; omega) (Ez hp (by omega) hcan)
   (fun j hj=>by rw [t8,if_neg (by omega)]; exact hq0 j (by omega))
   (fun j hj=>by
    rw [A4 _ _ _ _ _ _ _ _ (by omega)]
    by_cases hj2:j=c+b.len-1
    ·subst hj2
     rw [if_pos (by omega),ft,show c+b.len-1-c=b.len-1 by omega]; exact key
    ·rw [if_neg (by omega)]; exact h j (by omega))
   (fun x hx=>by
    rcases fk hx with h1 | h1
    ·exact hq x h1
    ·subst h1; exact hqin)
  refine ⟨?_,ih.2⟩;rw [ih.1,Sz q b c cur hlen,a0m q c quo (by omega) (hq0 c (by omega))]
  exact bj [fe p cur,Pol.mo (zp p q) c,b,fe p quo] rfl
def Xp (O:ap):Prop:=∀l:List Int,l.length<1000000→O F22 [(.d (.sl .leaf (af .i64 l)))] []=some (.sl 0 [] 0 l.length none,[],[.sl false .leaf (af .i64 l)])
def qq (O:ap):Prop:=∀(p:Int) [IsP p] (a b:Fp p),b≠0→a.len<5000→b.len<5000 →
 ask O F13 [(D.int .i64 p),(D.sl .leaf (af .i64 (row a))),(D.sl .leaf (af .i64 (row b)))]=some (.tup [(D.sl .leaf (af .i64 (row (a/b)))),(D.sl .leaf (af .i64 (row (a%b))))])
end
section
variable {p:Int}
theorem ua (b:Fp p):Du (row b)=rep b.ld:=by unfold Du Pol.ld; rw [ft,bi]
end
section
variable {p:Int} [IsP p]
theorem a6r (hT:T F13=some Z13) (hcl:Xp (den T A)) (htr:ut (den T A)) (hld:lk (den T A)) (hinv:g8 (den T A)) (hred:v7 (den T A)):qq (den T A):=by
 intro p ip a b hb ha hbl;have hp:=IsP.ge (p:=p);have hp7:=IsP.le (p:=p);have e1:=hcl (row a) (by simpa using (show a.len<1000000 by omega))
 rw [bi] at e1;have hb0:=Pol.len_pos hb;refine c9 hT rfl ?_
 by_cases hlt:a.len<b.len
 ·obtain ⟨h1,h2⟩:=Pol.div_mod_eq (a:=a) (b:=b) (q:=0) (r:=a) (by rw [Gq.zero_mul,Gq.zero_add]) hlt
  rw [h1,h2,dt];have h3:(a.len:Int)<(b.len:Int):=by omega
  simp -implicitDefEqProofs [Z13,Z13_B,aw,e1,h3,jf,a4l]
 ·have h3:¬ (a.len:Int)<(b.len:Int):=by omega
  have hr:=gr b.ld;have e2:=hld (row b) (by simpa using (show b.len<1000000 by omega))
  rw [ua] at e2;have e3:=hinv p (rep b.ld) (by omega) (by omega) hr.1 hr.2
  have w1:IntKind.i64.wrap ((a.len:Int)-b.len)=(a.len:Int)-b.len:=w64 (by omega)
  have w2:IntKind.i64.wrap ((a.len:Int)-b.len+1)=((a.len-b.len+1:Nat):Int):=(w64 (x:=(a.len:Int)-b.len+1) (by omega)).trans (by omega)
  have w3:IntKind.i64.wrap (((a.len-b.len+1:Nat):Int)-1)=((a.len-b.len+1:Nat):Int)-1:=w64 (by omega)
  have h8:(a.len-b.len+1)*8≤1099511627776:=by omega
  have l1:=a1c (O:=den T A) (by_:=inv p (rep b.ld)) (b:=row b) (la:=a.len) (nq:=a.len-b.len+1) (cp:=none) hred (by omega) (by omega) (vd p _) (ll b) (by rw [bi]; omega) (by rw [bi]; omega) (by omega)
   (a.len-b.len+1) (row a) (List.replicate (a.len-b.len+1) 0) (bh _) (bi a) (by simp) (ll a)
  have hz:∀n j,cf (List.replicate n (0:Int)) j=0:=fun n j=>by
   by_cases hj:j<n
   ·rw [gu (by simpa using hj)]; simp
   ·exact pc (by simp; omega)
  have sp:=Ns b hb (a.len-b.len+1) (row a) (List.replicate (a.len-b.len+1) 0) (by rw [bi]; omega) (by simp) (ll a) (fun j _=>hz _ j) (fun j hj=>by rw [pc]; rw [bi]; omega) (fun x hx=>by
   obtain rfl:=(List.mem_replicate.1 hx).2; omega)
  have hl1:∀(c:Nat) (x y:List Int),(dv p (inv p (rep b.ld)) (row b) c (x,y)).1.length=x.length∧(dv p (inv p (rep b.ld)) (row b) c (x,y)).2.length=y.length:=by
   intro c
   induction c with
   | zero=>exact fun x y=>⟨rfl,rfl⟩
   | succ c ih=>
    intro x y;rw [dv];obtain ⟨i1,i2⟩:=ih (ov p (cf x (c+(row b).length-1)*inv p (rep b.ld)%p) (row b) c (row b).length 0 x) (y.set c (cf x (c+(row b).length-1)*inv p (rep b.ld)%p));exact ⟨by rw [i1,oh],by rw [i2,cx]⟩
  obtain ⟨l2,l3⟩:=hl1 (a.len-b.len+1) (row a) (List.replicate (a.len-b.len+1) 0);generalize dv p (inv p (rep b.ld)) (row b) (a.len-b.len+1) (row a,List.replicate (a.len-b.len+1) 0)=r at *;obtain ⟨s1,s2,s3,s4⟩:=sp;have z0:fe p (List.replicate (a.len-b.len+1) 0)=0:=Pol.ext fun j=>by rw [jy,hz]; rfl
  rw [z0,Gq.zero_mul,Gq.add_zero,xo,Gq.add_comm] at s1
  have hrl:(fe p r.1).len<b.len:=by
   have:(fe p r.1).lt (b.len-1):=fun i hi=>by rw [jy,s2 i hi]; rfl
   have:=Pol.len_le this;omega
  obtain ⟨h1,h2⟩:=Pol.div_mod_eq s1.symm hrl;rw [h1,h2,←re s3,←re s4];have t1:=htr r.1 (by rw [l2,bi]; omega)
  have t2:=htr r.2 (by rw [l3,d9]; omega)
  have k1:r.1.take a.len=r.1:=bg (by rw [l2,bi]; omega)
  have k2:r.2.take (a.len-b.len+1)=r.2:=bg (by rw [l3,d9]; omega)
  rw [d9] at l3;rw [bi] at l2;generalize a.len-b.len+1=n at *;simp -implicitDefEqProofs [Z13,Z13_B,aw,e1,h3,w1,w2,w3,h8,e2,e3,l1,t1,t2,l2,l3,k1,k2]
end
end Pe

/-
 Functions of the program in the small form,printed by a program.
-/
namespace Pe
open Go
def Z26_L0:Cd:=
 Irg [Ibn 9 .lss 8 7] [0,1,7,8,9]
 (.seq (Icd 9
 (.skip)
 (.exit 0))
 (.seq (.block 1 (Irg [Lw 10 8,
 Lw 5 10] [0,1,5,7,8]
 (Irg [Lw 11 1,
 Lw 12 0,
 Lw 13 5,
 Iia 14 Sx6 12 13,
 Ipx 15 14,
 Ll 16 (.call .flat [] (.t 11) [(.t 15)])] [0,1,5,7,8,16]
 (Icd 16
 (Irg [Lw 17 5,
 Lw 4 17] [4]
 (.ret))
 (.skip)))))
 (.region [Ibc 18 .add 8 1,
 Lw 8 18] [0,1,7,8])))
def Z26_B:Cd:=
 Irg [Imc 4 0] [0,1]
 (.seq (Irg [Lw 6 0,
 Ien 7 6,
 Imc 8 0] [0,1,7,8]
 (.block 0 (.loop (Z26_L0))))
 (Irg [Imc 4 (-1)] [4]
 (.ret)))
def Z26:Fn:=
 { nparams:=2,nblk:=0,results:=[.tmp 4],body:=Z26_B }
def Z24_B:Cd:=
 Irg [Ll 4 (.mv (.c (.bool false)))] [0,1]
 (Irg [Lw 5 0,
 Lw 6 1,
 Ll 7 (Ofx F26 [(.t 5),(.t 6)]),
 Ibc 8 .geq 7 0,
 Lw 4 8] [4]
 (.ret))
def Z24:Fn:=
 { nparams:=2,nblk:=0,results:=[.tmp 4],body:=Z24_B }
def Z25_L0:Cd:=
 Irg [Ibn 9 .lss 8 7] [0,1,7,8,9]
 (.seq (Icd 9
 (.skip)
 (.exit 0))
 (.seq (.block 1 (Irg [Lw 10 8,
 Lw 5 10] [0,1,5,7,8]
 (Irg [Lw 11 1,
 Lw 12 0,
 Lw 13 5,
 Iia 14 .leaf 12 13,
 Ilx 15 14,
 Ll 16 (.call .flat [] (.t 11) [(.t 15)])] [0,1,5,7,8,16]
 (Icd 16
 (Irg [Lw 17 5,
 Lw 4 17] [4]
 (.ret))
 (.skip)))))
 (.region [Ibc 18 .add 8 1,
 Lw 8 18] [0,1,7,8])))
def Z25_B:Cd:=
 Irg [Imc 4 0] [0,1]
 (.seq (Irg [Lw 6 0,
 Ien 7 6,
 Imc 8 0] [0,1,7,8]
 (.block 0 (.loop (Z25_L0))))
 (Irg [Imc 4 (-1)] [4]
 (.ret)))
def Z25:Fn:=
 { nparams:=2,nblk:=0,results:=[.tmp 4],body:=Z25_B }
def Z23_B:Cd:=
 Irg [Ll 4 (.mv (.c (.bool false)))] [0,1]
 (Irg [Lw 5 0,
 Lw 6 1,
 Ll 7 (Ofx F25 [(.t 5),(.t 6)]),
 Ibc 8 .geq 7 0,
 Lw 4 8] [4]
 (.ret))
def Z23:Fn:=
 { nparams:=2,nblk:=0,results:=[.tmp 4],body:=Z23_B }
def Z2i_L0:Cd:=
 .seq (Irg [Lw 18 9,
 Lw 19 1,
 Ibn 20 .gtr 18 19,
 Lw 21 20,
 Lx 22 3 21 true,
 Lx 23 0 21 true,
 Lx 24 9 21 true,
 Lg 25 (.idxA none (.st [.leaf,.leaf]) (.t 23) (.t 24)) 21 true,
 Lg 26 (.load (.st [.leaf,.leaf]) (.t 25)) 21 true,
 Lx 27 0 21 true,
 Lx 28 9 21 true,
 Lg 29 (.bin .sub (.t 28) (Acx 1)) 21 true,
 Lg 30 (.idxA none (.st [.leaf,.leaf]) (.t 27) (.t 29)) 21 true,
 Lg 31 (.load (.st [.leaf,.leaf]) (.t 30)) 21 true,
 Lg 32 (.call .flat [] (.t 22) [(.t 26),(.t 31)]) 21 true,
 Lg 33 (.bin .lss (.t 32) (Acx 0)) 21 true,
 Ian 34 21 33] [0,1,2,3,8,9,34]
 (Icd 34
 (.skip)
 (.exit 2)))
 (.seq (.block 3 (.region [Lw 37 0,
 Lw 38 9,
 Lw 39 0,
 Lw 40 9,
 Ibc 41 .sub 40 1,
 Lw 42 0,
 Lw 43 9,
 Ibc 44 .sub 43 1,
 Ll 45 (.idxA none (.st [.leaf,.leaf]) (.t 42) (.t 44)),
 Ll 46 (.load (.st [.leaf,.leaf]) (.t 45)),
 Lw 47 0,
 Lw 48 9,
 Ll 49 (.idxA none (.st [.leaf,.leaf]) (.t 47) (.t 48)),
 Ll 50 (.load (.st [.leaf,.leaf]) (.t 49)),
 Ll 51 (.idxA none (.st [.leaf,.leaf]) (.t 37) (.t 38)),
 Ls (.store false (.st [.leaf,.leaf]) (.t 51) (.t 46)),
 Ll 52 (.idxA none (.st [.leaf,.leaf]) (.t 39) (.t 41)),
 Ls (.store false (.st [.leaf,.leaf]) (.t 52) (.t 50))] [0,1,2,3,8,9]))
 (.region [Lw 35 9,
 Ibc 36 .sub 35 1,
 Lw 9 36] [0,1,2,3,8,9]))
def Z2i_L1:Cd:=
 .seq (Irg [Lw 12 8,
 Lw 13 2,
 Ibn 14 .lss 12 13] [0,1,2,3,8,14]
 (Icd 14
 (.skip)
 (.exit 0)))
 (.seq (.block 1 (Irg [Lw 17 8,
 Lw 9 17] [0,1,2,3,8,9]
 (.block 2 (.loop (Z2i_L0)))))
 (.region [Lw 15 8,
 Ibc 16 .add 15 1,
 Lw 8 16] [0,1,2,3,8]))
def Z2i_B:Cd:=
 Irg [Lw 10 1,
 Ibc 11 .add 10 1,
 Lw 8 11] [0,1,2,3,8]
 (.block 0 (.loop (Z2i_L1)))
def Z2i:Fn:=
 { nparams:=4,nblk:=0,results:=[],body:=Z2i_B }
def Z21_B:Cd:=
 Irg [Imc 2 0] [0,2]
 (.seq (Irg [Lw 3 0,
 Ll 4 (.bin .geq (.t 3) (.c (.int .u64 4294967296)))] [0,2,4]
 (Icd 4
 (Irg [Lw 5 0,
 Ll 6 (.bin .shr (.t 5) (.c (.int .u64 32))),
 Lw 0 6] [0]
 (.region [Imc 2 32] [0,2]))
 (.skip)))
 (.seq (Irg [Lw 7 0,
 Ll 8 (.bin .geq (.t 7) (.c (.int .u64 65536)))] [0,2,8]
 (Icd 8
 (Irg [Lw 9 0,
 Ll 10 (.bin .shr (.t 9) (.c (.int .u64 16))),
 Lw 0 10] [0,2]
 (.region [Lw 11 2,
 Ibc 12 .add 11 16,
 Lw 2 12] [0,2]))
 (.skip)))
 (.seq (Irg [Lw 13 0,
 Ll 14 (.bin .geq (.t 13) (.c (.int .u64 256)))] [0,2,14]
 (Icd 14
 (Irg [Lw 15 0,
 Ll 16 (.bin .shr (.t 15) (.c (.int .u64 8))),
 Lw 0 16] [0,2]
 (.region [Lw 17 2,
 Ibc 18 .add 17 8,
 Lw 2 18] [0,2]))
 (.skip)))
 (Irg [Lw 19 2,
 Lw 20 0,
 Icv 21 .u8 20,
 Ll 22 (.idx none .leaf (.c (.str (ByteArray.mk #[0,1,2,2,3,3,3,3,4,4,4,4,4,4,4,4,5,5,5,5,5,5,5,5,5,5,5,5,5,5,5,5,6,6,6,6,6,6,6,6,6,6,6,6,6,6,6,6,6,6,6,6,6,6,6,6,6,6,6,6,6,6,6,6,7,7,7,7,7,7,7,7,7,7,7,7,7,7,7,7,7,7,7,7,7,7,7,7,7,7,7,7,7,7,7,7,7,7,7,7,7,7,7,7,7,7,7,7,7,7,7,7,7,7,7,7,7,7,7,7,7,7,7,7,7,7,7,7,8,8,8,8,8,8,8,8,8,8,8,8,8,8,8,8,8,8,8,8,8,8,8,8,8,8,8,8,8,8,8,8,8,8,8,8,8,8,8,8,8,8,8,8,8,8,8,8,8,8,8,8,8,8,8,8,8,8,8,8,8,8,8,8,8,8,8,8,8,8,8,8,8,8,8,8,8,8,8,8,8,8,8,8,8,8,8,8,8,8,8,8,8,8,8,8,8,8,8,8,8,8,8,8,8,8,8,8,8,8,8,8,8,8,8,8,8,8,8,8,8,8,8,8,8,8,8,8]))) (.t 21)),
 Icv 23 .i64 22,
 Ibn 24 .add 19 23,
 Lw 2 24] [2]
 (.ret)))))
def Z21:Fn:=
 { nparams:=1,nblk:=0,results:=[.tmp 2],body:=Z21_B }
def Z1z_B:Cd:=
 Irg [Imc 2 0] [0]
 (.seq (.cond (.c (.bool false))
 (Irg [Lw 3 0,
 Icv 4 .u32 3,
 Ll 5 (Ofx F20 [(.t 4)]),
 Lw 2 5] [2]
 (.ret))
 (.skip))
 (Irg [Lw 6 0,
 Ll 7 (Ofx F21 [(.t 6)]),
 Lw 2 7] [2]
 (.ret)))
def Z1z:Fn:=
 { nparams:=1,nblk:=0,results:=[.tmp 2],body:=Z1z_B }
def Z2x_L0:Cd:=
 .block 1 (Irg [Lw 21 2,
 Lw 22 1,
 Ibn 23 .sub 21 22,
 Lw 12 23] [0,1,2,3,4,10,11,12]
 (.seq (Irg [Lw 24 12,
 Ibc 25 .leq 24 12] [0,1,2,3,4,10,11,12,25]
 (Icd 25
 (Irg [Lw 26 0,
 Lw 27 1,
 Lw 28 2,
 Lw 29 4,
 Ll 30 (.call .heap [] (.f F2i) [(.t 26),(.t 27),(.t 28),(.t 29)])] []
 (.ret))
 (.skip)))
 (.seq (Irg [Lw 31 3,
 Ibc 32 .eql 31 0] [0,1,2,3,4,10,11,12,32]
 (Icd 32
 (Irg [Lw 33 0,
 Lw 34 1,
 Lw 35 2,
 Lw 36 4,
 Ll 37 (.call .heap [] (.f F2g) [(.t 33),(.t 34),(.t 35),(.t 36)])] []
 (.ret))
 (.skip)))
 (.seq (Irg [Lw 38 10,
 Ll 39 (.un .not (.t 38))] [0,1,2,3,4,10,11,12,39]
 (Icd 39
 (Irg [Lw 40 0,
 Lw 41 1,
 Lw 42 2,
 Lw 43 4,
 Ll 44 (.call .heap [] (.f F2c) [(.t 40),(.t 41),(.t 42),(.t 43)])] [0,1,2,3,4,10,11,12]
 (.region [Lw 45 3,
 Ibc 46 .sub 45 1,
 Lw 3 46] [0,1,2,3,4,10,11,12]))
 (.skip)))
 (Irg [Lw 48 0,
 Lw 49 1,
 Lw 50 2,
 Lw 51 4,
 Ll 52 (Ofx F2e [(.t 48),(.t 49),(.t 50),(.t 51)]),
 Lw 47 52,
 Iex 53 47 0,
 Iex 54 47 1,
 Lw 13 53,
 Lw 14 54] [0,1,2,3,4,10,11,12,13,14]
 (.seq (Irg [Lw 55 14,
 Ibc 56 .eql 55 2] [0,1,2,3,4,10,11,12,13,14,56]
 (Icd 56
 (Irg [Lw 57 0,
 Lw 58 1,
 Lw 59 2,
 Lw 60 4,
 Ll 61 (.call .heap [] (.f F2z) [(.t 57),(.t 58),(.t 59),(.t 60)])] [0,1,2,3,4,10,11,12,13]
 (Irg [Lw 62 2,
 Ibc 63 .sub 62 1,
 Lw 64 13,
 Lw 65 1,
 Ibn 66 .sub 64 65,
 Ibn 67 .sub 63 66,
 Lw 13 67] [0,1,2,3,4,10,11,12,13]
 (.region [Imc 14 1] [0,1,2,3,4,10,11,12,13,14])))
 (.skip)))
 (.seq (Irg [Lw 68 10,
 Lw 69 68,
 Lx 70 11 69 true,
 Ian 71 69 70,
 Lw 72 71,
 Lx 73 14 72 true,
 Lg 74 (.bin .eql (.t 73) (Acx 1)) 72 true,
 Ian 75 72 74] [0,1,2,3,4,10,11,12,13,75]
 (Icd 75
 (Irg [Lw 76 0,
 Lw 77 1,
 Lw 78 2,
 Lw 79 4,
 Ll 80 (.call .heap [] (.f F2r) [(.t 76),(.t 77),(.t 78),(.t 79)])] [0,1,2,3,4,10,11,12,13,80]
 (Icd 80
 (.ret)
 (.skip)))
 (.skip)))
 (.seq (Irg [Lw 81 1,
 Ibc 82 .gtr 81 0,
 Lw 83 82,
 Lx 84 4 83 true,
 Lx 85 0 83 true,
 Lx 86 1 83 true,
 Lg 87 (.bin .sub (.t 86) (Acx 1)) 83 true,
 Lg 88 (.idxA none (.st [.leaf,.leaf]) (.t 85) (.t 87)) 83 true,
 Lg 89 (.load (.st [.leaf,.leaf]) (.t 88)) 83 true,
 Lx 90 0 83 true,
 Lx 91 13 83 true,
 Lg 92 (.idxA none (.st [.leaf,.leaf]) (.t 90) (.t 91)) 83 true,
 Lg 93 (.load (.st [.leaf,.leaf]) (.t 92)) 83 true,
 Lg 94 (.call .flat [] (.t 84) [(.t 89),(.t 93)]) 83 true,
 Lg 95 (.bin .lss (.t 94) (Acx 0)) 83 true,
 Lg 96 (.un .not (.t 95)) 83 true,
 Ian 97 83 96] [0,1,2,3,4,10,11,12,13,97]
 (Icd 97
 (Irg [Lw 98 0,
 Lw 99 1,
 Lw 100 2,
 Lw 101 13,
 Lw 102 4,
 Ll 103 (.call .heap [] (.f F2v) [(.t 98),(.t 99),(.t 100),(.t 101),(.t 102)]),
 Lw 15 103] [0,2,3,4,10,11,15]
 (Irg [Lw 104 15,
 Lw 1 104] [0,1,2,3,4,10,11]
 (.exit 1)))
 (.skip)))
 (Irg [Lw 106 0,
 Lw 107 1,
 Lw 108 2,
 Lw 109 13,
 Lw 110 4,
 Ll 111 (.call .heap [] (.f F2t) [(.t 106),(.t 107),(.t 108),(.t 109),(.t 110)]),
 Lw 105 111,
 Iex 112 105 0,
 Iex 113 105 1,
 Lw 16 112,
 Lw 17 113] [0,1,2,3,4,12,16,17]
 (Irg [Lw 114 17,
 Lw 11 114] [0,1,2,3,4,11,12,16]
 (Irg [Lw 115 16,
 Lw 116 1,
 Ibn 117 .sub 115 116,
 Lw 118 2,
 Lw 119 16,
 Ibn 120 .sub 118 119,
 Lw 18 117,
 Lw 19 120] [0,1,2,3,4,11,12,16,18,19]
 (Irg [Lw 121 12,
 Ibc 122 .quo 121 8,
 Lw 20 122] [0,1,2,3,4,11,16,18,19,20]
 (Irg [Lw 123 18,
 Lw 124 19,
 Ibn 125 .lss 123 124] [0,1,2,3,4,11,16,18,19,20,125]
 (Icd 125
 (Irg [Lw 126 18,
 Lw 127 20,
 Ibn 128 .geq 126 127,
 Lw 10 128] [0,1,2,3,4,10,11,16]
 (Irg [Lw 129 0,
 Lw 130 1,
 Lw 131 16,
 Lw 132 3,
 Lw 133 4,
 Ll 134 (.call .heap [] (.f F2x) [(.t 129),(.t 130),(.t 131),(.t 132),(.t 133)])] [0,2,3,4,10,11,16]
 (.region [Lw 135 16,
 Ibc 136 .add 135 1,
 Lw 1 136] [0,1,2,3,4,10,11])))
 (Irg [Lw 137 19,
 Lw 138 20,
 Ibn 139 .geq 137 138,
 Lw 10 139] [0,1,2,3,4,10,11,16]
 (Irg [Lw 140 0,
 Lw 141 16,
 Ibc 142 .add 141 1,
 Lw 143 2,
 Lw 144 3,
 Lw 145 4,
 Ll 146 (.call .heap [] (.f F2x) [(.t 140),(.t 142),(.t 143),(.t 144),(.t 145)])] [0,1,3,4,10,11,16]
 (.region [Lw 147 16,
 Lw 2 147] [0,1,2,3,4,10,11])))))))))))))))))
def Z2x_B:Cd:=
 Irg [Ll 10 (.mv (.c (.bool true)))] [0,1,2,3,4,10]
 (Irg [Ll 11 (.mv (.c (.bool true)))] [0,1,2,3,4,10,11]
 (.block 0 (.loop (Z2x_L0))))
def Z2x:Fn:=
 { nparams:=5,nblk:=0,results:=[],body:=Z2x_B }
def Z2a_B:Cd:=
 Irg [Lw 5 0,
 Ien 6 5,
 Lw 4 6] [0,1,4]
 (.region [Lw 7 0,
 Lw 8 4,
 Lw 9 4,
 Icv 10 .u64 9,
 Ll 11 (Ofx F1z [(.t 10)]),
 Lw 12 1,
 Ll 13 (.call .heap [] (.f F2x) [(.t 7),(Acx 0),(.t 8),(.t 11),(.t 12)])] [])
def Z2a:Fn:=
 { nparams:=2,nblk:=0,results:=[],body:=Z2a_B }
def Z4_B:Cd:=
 Irg [Ll 2 (.mv (.c (.bool false)))] [0]
 (Irg [Lw 3 0,
 Lw 4 0,
 Ibn 5 .neq 3 4,
 Lw 2 5] [2]
 (.ret))
def Z4:Fn:=
 { nparams:=1,nblk:=0,results:=[.tmp 2],body:=Z4_B }
def Z0_B:Cd:=
 Irg [Imc 4 0] [0,1]
 (Irg [Lw 7 0,
 Ll 8 (Ofx F4 [(.t 7)]),
 Lw 5 8] [0,1,5]
 (Irg [Lw 9 1,
 Ll 10 (Ofx F4 [(.t 9)]),
 Lw 6 10] [0,1,5,6]
 (.seq (Irg [Lw 11 5] [0,1,6,11]
 (Icd 11
 (.seq (Irg [Lw 12 6] [12]
 (Icd 12
 (Irg [Imc 4 0] [4]
 (.ret))
 (.skip)))
 (Irg [Imc 4 (-1)] [4]
 (.ret)))
 (.skip)))
 (.seq (Irg [Lw 13 6] [0,1,13]
 (Icd 13
 (Irg [Imc 4 1] [4]
 (.ret))
 (.skip)))
 (.seq (Irg [Lw 14 0,
 Lw 15 1,
 Ibn 16 .lss 14 15] [0,1,16]
 (Icd 16
 (Irg [Imc 4 (-1)] [4]
 (.ret))
 (.skip)))
 (.seq (Irg [Lw 17 0,
 Lw 18 1,
 Ibn 19 .gtr 17 18] [19]
 (Icd 19
 (Irg [Imc 4 1] [4]
 (.ret))
 (.skip)))
 (Irg [Imc 4 0] [4]
 (.ret))))))))
def Z0:Fn:=
 { nparams:=2,nblk:=0,results:=[.tmp 4],body:=Z0_B }
def Z5_B:Cd:=
 Irg [Ll 2 (.mv (.c (.bool false)))] [0]
 (Irg [Lw 3 0,
 Lw 4 0,
 Ibn 5 .neq 3 4,
 Lw 2 5] [2]
 (.ret))
def Z5:Fn:=
 { nparams:=1,nblk:=0,results:=[.tmp 2],body:=Z5_B }
def Z3_B:Cd:=
 Irg [Imc 4 0] [0,1]
 (Irg [Lw 7 0,
 Ll 8 (Ofx F5 [(.t 7)]),
 Lw 5 8] [0,1,5]
 (Irg [Lw 9 1,
 Ll 10 (Ofx F5 [(.t 9)]),
 Lw 6 10] [0,1,5,6]
 (.seq (Irg [Lw 11 5] [0,1,6,11]
 (Icd 11
 (.seq (Irg [Lw 12 6] [12]
 (Icd 12
 (Irg [Imc 4 0] [4]
 (.ret))
 (.skip)))
 (Irg [Imc 4 (-1)] [4]
 (.ret)))
 (.skip)))
 (.seq (Irg [Lw 13 6] [0,1,13]
 (Icd 13
 (Irg [Imc 4 1] [4]
 (.ret))
 (.skip)))
 (.seq (Irg [Lw 14 0,
 Lw 15 1,
 Ibn 16 .lss 14 15] [0,1,16]
 (Icd 16
 (Irg [Imc 4 (-1)] [4]
 (.ret))
 (.skip)))
 (.seq (Irg [Lw 17 0,
 Lw 18 1,
 Ibn 19 .gtr 17 18] [19]
 (Icd 19
 (Irg [Imc 4 1] [4]
 (.ret))
 (.skip)))
 (Irg [Imc 4 0] [4]
 (.ret))))))))
def Z3:Fn:=
 { nparams:=2,nblk:=0,results:=[.tmp 4],body:=Z3_B }
def ir_slices_IndexFunc_impl_row_impl_row_L0:Cd:=
 Irg [Ibn 9 .lss 8 7] [0,1,7,8,9]
 (.seq (Icd 9
 (.skip)
 (.exit 0))
 (.seq (.block 1 (Irg [Lw 10 8,
 Lw 5 10] [0,1,5,7,8]
 (Irg [Lw 11 1,
 Lw 12 0,
 Lw 13 5,
 Iia 14 .leaf 12 13,
 Ilx 15 14,
 Ll 16 (.call .flat [] (.t 11) [(.t 15)])] [0,1,5,7,8,16]
 (Icd 16
 (Irg [Lw 17 5,
 Lw 4 17] [4]
 (.ret))
 (.skip)))))
 (.region [Ibc 18 .add 8 1,
 Lw 8 18] [0,1,7,8])))
def ir_slices_IndexFunc_impl_row_impl_row_B:Cd:=
 Irg [Imc 4 0] [0,1]
 (.seq (Irg [Lw 6 0,
 Ien 7 6,
 Imc 8 0] [0,1,7,8]
 (.block 0 (.loop (ir_slices_IndexFunc_impl_row_impl_row_L0))))
 (Irg [Imc 4 (-1)] [4]
 (.ret)))
def Z27:Fn:=
 { nparams:=2,nblk:=0,results:=[.tmp 4],body:=ir_slices_IndexFunc_impl_row_impl_row_B }
def ir_slices_insertionSortCmpFunc_impl_row_L0:Cd:=
 .seq (Irg [Lw 18 9,
 Lw 19 1,
 Ibn 20 .gtr 18 19,
 Lw 21 20,
 Lx 22 3 21 true,
 Lx 23 0 21 true,
 Lx 24 9 21 true,
 Lg 25 (.idxA none .leaf (.t 23) (.t 24)) 21 true,
 Lg 26 (.load .leaf (.t 25)) 21 true,
 Lx 27 0 21 true,
 Lx 28 9 21 true,
 Lg 29 (.bin .sub (.t 28) (Acx 1)) 21 true,
 Lg 30 (.idxA none .leaf (.t 27) (.t 29)) 21 true,
 Lg 31 (.load .leaf (.t 30)) 21 true,
 Lg 32 (.call .flat [] (.t 22) [(.t 26),(.t 31)]) 21 true,
 Lg 33 (.bin .lss (.t 32) (Acx 0)) 21 true,
 Ian 34 21 33] [0,1,2,3,8,9,34]
 (Icd 34
 (.skip)
 (.exit 2)))
 (.seq (.block 3 (.region [Lw 37 0,
 Lw 38 9,
 Lw 39 0,
 Lw 40 9,
 Ibc 41 .sub 40 1,
 Lw 42 0,
 Lw 43 9,
 Ibc 44 .sub 43 1,
 Iia 45 .leaf 42 44,
 Ilx 46 45,
 Lw 47 0,
 Lw 48 9,
 Iia 49 .leaf 47 48,
 Ilx 50 49,
 Iia 51 .leaf 37 38,
 Ls (.store false .leaf (.t 51) (.t 46)),
 Iia 52 .leaf 39 41,
 Ls (.store false .leaf (.t 52) (.t 50))] [0,1,2,3,8,9]))
 (.region [Lw 35 9,
 Ibc 36 .sub 35 1,
 Lw 9 36] [0,1,2,3,8,9]))
def ir_slices_insertionSortCmpFunc_impl_row_L1:Cd:=
 .seq (Irg [Lw 12 8,
 Lw 13 2,
 Ibn 14 .lss 12 13] [0,1,2,3,8,14]
 (Icd 14
 (.skip)
 (.exit 0)))
 (.seq (.block 1 (Irg [Lw 17 8,
 Lw 9 17] [0,1,2,3,8,9]
 (.block 2 (.loop (ir_slices_insertionSortCmpFunc_impl_row_L0)))))
 (.region [Lw 15 8,
 Ibc 16 .add 15 1,
 Lw 8 16] [0,1,2,3,8]))
def ir_slices_insertionSortCmpFunc_impl_row_B:Cd:=
 Irg [Lw 10 1,
 Ibc 11 .add 10 1,
 Lw 8 11] [0,1,2,3,8]
 (.block 0 (.loop (ir_slices_insertionSortCmpFunc_impl_row_L1)))
def Z2j:Fn:=
 { nparams:=4,nblk:=0,results:=[],body:=ir_slices_insertionSortCmpFunc_impl_row_B }
def ir_slices_pdqsortCmpFunc_impl_row_L0:Cd:=
 .block 1 (Irg [Lw 21 2,
 Lw 22 1,
 Ibn 23 .sub 21 22,
 Lw 12 23] [0,1,2,3,4,10,11,12]
 (.seq (Irg [Lw 24 12,
 Ibc 25 .leq 24 12] [0,1,2,3,4,10,11,12,25]
 (Icd 25
 (Irg [Lw 26 0,
 Lw 27 1,
 Lw 28 2,
 Lw 29 4,
 Ll 30 (.call .heap [] (.f F2j) [(.t 26),(.t 27),(.t 28),(.t 29)])] []
 (.ret))
 (.skip)))
 (.seq (Irg [Lw 31 3,
 Ibc 32 .eql 31 0] [0,1,2,3,4,10,11,12,32]
 (Icd 32
 (Irg [Lw 33 0,
 Lw 34 1,
 Lw 35 2,
 Lw 36 4,
 Ll 37 (.call .heap [] (.f F2h) [(.t 33),(.t 34),(.t 35),(.t 36)])] []
 (.ret))
 (.skip)))
 (.seq (Irg [Lw 38 10,
 Ll 39 (.un .not (.t 38))] [0,1,2,3,4,10,11,12,39]
 (Icd 39
 (Irg [Lw 40 0,
 Lw 41 1,
 Lw 42 2,
 Lw 43 4,
 Ll 44 (.call .heap [] (.f F2d) [(.t 40),(.t 41),(.t 42),(.t 43)])] [0,1,2,3,4,10,11,12]
 (.region [Lw 45 3,
 Ibc 46 .sub 45 1,
 Lw 3 46] [0,1,2,3,4,10,11,12]))
 (.skip)))
 (Irg [Lw 48 0,
 Lw 49 1,
 Lw 50 2,
 Lw 51 4,
 Ll 52 (Ofx F2f [(.t 48),(.t 49),(.t 50),(.t 51)]),
 Lw 47 52,
 Iex 53 47 0,
 Iex 54 47 1,
 Lw 13 53,
 Lw 14 54] [0,1,2,3,4,10,11,12,13,14]
 (.seq (Irg [Lw 55 14,
 Ibc 56 .eql 55 2] [0,1,2,3,4,10,11,12,13,14,56]
 (Icd 56
 (Irg [Lw 57 0,
 Lw 58 1,
 Lw 59 2,
 Lw 60 4,
 Ll 61 (.call .heap [] (.f F30) [(.t 57),(.t 58),(.t 59),(.t 60)])] [0,1,2,3,4,10,11,12,13]
 (Irg [Lw 62 2,
 Ibc 63 .sub 62 1,
 Lw 64 13,
 Lw 65 1,
 Ibn 66 .sub 64 65,
 Ibn 67 .sub 63 66,
 Lw 13 67] [0,1,2,3,4,10,11,12,13]
 (.region [Imc 14 1] [0,1,2,3,4,10,11,12,13,14])))
 (.skip)))
 (.seq (Irg [Lw 68 10,
 Lw 69 68,
 Lx 70 11 69 true,
 Ian 71 69 70,
 Lw 72 71,
 Lx 73 14 72 true,
 Lg 74 (.bin .eql (.t 73) (Acx 1)) 72 true,
 Ian 75 72 74] [0,1,2,3,4,10,11,12,13,75]
 (Icd 75
 (Irg [Lw 76 0,
 Lw 77 1,
 Lw 78 2,
 Lw 79 4,
 Ll 80 (.call .heap [] (.f F2s) [(.t 76),(.t 77),(.t 78),(.t 79)])] [0,1,2,3,4,10,11,12,13,80]
 (Icd 80
 (.ret)
 (.skip)))
 (.skip)))
 (.seq (Irg [Lw 81 1,
 Ibc 82 .gtr 81 0,
 Lw 83 82,
 Lx 84 4 83 true,
 Lx 85 0 83 true,
 Lx 86 1 83 true,
 Lg 87 (.bin .sub (.t 86) (Acx 1)) 83 true,
 Lg 88 (.idxA none .leaf (.t 85) (.t 87)) 83 true,
 Lg 89 (.load .leaf (.t 88)) 83 true,
 Lx 90 0 83 true,
 Lx 91 13 83 true,
 Lg 92 (.idxA none .leaf (.t 90) (.t 91)) 83 true,
 Lg 93 (.load .leaf (.t 92)) 83 true,
 Lg 94 (.call .flat [] (.t 84) [(.t 89),(.t 93)]) 83 true,
 Lg 95 (.bin .lss (.t 94) (Acx 0)) 83 true,
 Lg 96 (.un .not (.t 95)) 83 true,
 Ian 97 83 96] [0,1,2,3,4,10,11,12,13,97]
 (Icd 97
 (Irg [Lw 98 0,
 Lw 99 1,
 Lw 100 2,
 Lw 101 13,
 Lw 102 4,
 Ll 103 (.call .heap [] (.f F2w) [(.t 98),(.t 99),(.t 100),(.t 101),(.t 102)]),
 Lw 15 103] [0,2,3,4,10,11,15]
 (Irg [Lw 104 15,
 Lw 1 104] [0,1,2,3,4,10,11]
 (.exit 1)))
 (.skip)))
 (Irg [Lw 106 0,
 Lw 107 1,
 Lw 108 2,
 Lw 109 13,
 Lw 110 4,
 Ll 111 (.call .heap [] (.f F2u) [(.t 106),(.t 107),(.t 108),(.t 109),(.t 110)]),
 Lw 105 111,
 Iex 112 105 0,
 Iex 113 105 1,
 Lw 16 112,
 Lw 17 113] [0,1,2,3,4,12,16,17]
 (Irg [Lw 114 17,
 Lw 11 114] [0,1,2,3,4,11,12,16]
 (Irg [Lw 115 16,
 Lw 116 1,
 Ibn 117 .sub 115 116,
 Lw 118 2,
 Lw 119 16,
 Ibn 120 .sub 118 119,
 Lw 18 117,
 Lw 19 120] [0,1,2,3,4,11,12,16,18,19]
 (Irg [Lw 121 12,
 Ibc 122 .quo 121 8,
 Lw 20 122] [0,1,2,3,4,11,16,18,19,20]
 (Irg [Lw 123 18,
 Lw 124 19,
 Ibn 125 .lss 123 124] [0,1,2,3,4,11,16,18,19,20,125]
 (Icd 125
 (Irg [Lw 126 18,
 Lw 127 20,
 Ibn 128 .geq 126 127,
 Lw 10 128] [0,1,2,3,4,10,11,16]
 (Irg [Lw 129 0,
 Lw 130 1,
 Lw 131 16,
 Lw 132 3,
 Lw 133 4,
 Ll 134 (.call .heap [] (.f F2y) [(.t 129),(.t 130),(.t 131),(.t 132),(.t 133)])] [0,2,3,4,10,11,16]
 (.region [Lw 135 16,
 Ibc 136 .add 135 1,
 Lw 1 136] [0,1,2,3,4,10,11])))
 (Irg [Lw 137 19,
 Lw 138 20,
 Ibn 139 .geq 137 138,
 Lw 10 139] [0,1,2,3,4,10,11,16]
 (Irg [Lw 140 0,
 Lw 141 16,
 Ibc 142 .add 141 1,
 Lw 143 2,
 Lw 144 3,
 Lw 145 4,
 Ll 146 (.call .heap [] (.f F2y) [(.t 140),(.t 142),(.t 143),(.t 144),(.t 145)])] [0,1,3,4,10,11,16]
 (.region [Lw 147 16,
 Lw 2 147] [0,1,2,3,4,10,11])))))))))))))))))
def ir_slices_pdqsortCmpFunc_impl_row_B:Cd:=
 Irg [Ll 10 (.mv (.c (.bool true)))] [0,1,2,3,4,10]
 (Irg [Ll 11 (.mv (.c (.bool true)))] [0,1,2,3,4,10,11]
 (.block 0 (.loop (ir_slices_pdqsortCmpFunc_impl_row_L0))))
def Z2y:Fn:=
 { nparams:=5,nblk:=0,results:=[],body:=ir_slices_pdqsortCmpFunc_impl_row_B }
def ir_slices_SortFunc_impl_row_impl_row_B:Cd:=
 Irg [Lw 5 0,
 Ien 6 5,
 Lw 4 6] [0,1,4]
 (.region [Lw 7 0,
 Lw 8 4,
 Lw 9 4,
 Icv 10 .u64 9,
 Ll 11 (Ofx F1z [(.t 10)]),
 Lw 12 1,
 Ll 13 (.call .heap [] (.f F2y) [(.t 7),(Acx 0),(.t 8),(.t 11),(.t 12)])] [])
def Z2b:Fn:=
 { nparams:=2,nblk:=0,results:=[],body:=ir_slices_SortFunc_impl_row_impl_row_B }
end Pe
namespace Pe
open Go Gq
variable {T:Nat→Option Fn} {A:ap}
def zn (ds:List D):Prop:=∀x∈ds,x.isTup=false
theorem ot (h:Heap):∀{ds:List D},zn ds→q9 h (ds.map .d)=some ds
 | [],_=>rfl
 | d::ds,hn=>by
  have h1:d.isTup=false:=hn d (by simp)
  have h2:=ot h (ds:=ds) fun x hx=>hn x (by simp [hx])
  simp [h1,h2]
theorem vr (h:Heap):∀{a b:List V} {x y:List D},q9 h a=some x→q9 h b=some y→q9 h (a++b)=some (x++y)
 | [],b,x,y,h1,h2=>by simp at h1; subst h1; simpa using h2
 | v::a,b,x,y,h1,h2=>by
  simp only [a1o] at h1;obtain ⟨d,hd,h1⟩:=a5.1 h1;simp only [aau] at h1
  split at h1
  ·cases h1
  ·rename_i hn
   obtain ⟨z,hz,rfl⟩:=ac.1 h1;have:=vr h hz h2;simp [hd,hn,this]
theorem E3 {O:ap} {np:Nat} {h:Heap} {news:List Nat} {g:Nat} {first caps:List D} {x r:D} (h1:zn first) (h2:zn caps) (hx:x.isTup=false) (ha:ask O g (first++[x]++caps)=some r) (hr:r.flat=true) :
 Ei O np h .flat news (g,first.map .d,caps.map .d) [.d x]=some (.d r,h):=by
 have e:q9 h (first.map .d++[.d x]++caps.map .d)=some (first++[x]++caps):=
  vr h (vr h (ot h h1) (ot h (ds:=[x]) (by intro y hy; simp at hy; subst hy; exact hx))) (ot h h2)
 rw [Cq,e,ae,Jj,ha,ae,Gn,hr,if_pos rfl]
def nk (P:D→Bool):List D→Nat→Int
 | [],_=>-1
 | d::ds,i=>if P d then i else nk P ds (i+1)
theorem Nh (P:D→Bool):∀(ds:List D) (i:Nat),(0≤nk P ds i)↔ds.any P=true
 | [],i=>by simp [nk]
 | d::ds,i=>by
  rw [nk];cases h:P d
  ·simp [h,Nh P ds (i+1)]
  ·simp [h]
def u9 (O:ap) (g:Nat) (first caps cs:List D) (P:D→Bool):Prop:=zn first∧zn caps∧zn cs∧∀x∈cs,ask O g (first++[x]++caps)=some (D.bool (P x))
def Dy (s:Sh) (cs:List D):Prop:=∀x∈cs,x.sh=s
theorem R8 {O:ap} {g:Nat} {first caps cs:List D} {P:D→Bool} (hF:u9 O g first caps cs P) (hs:Dy .leaf cs) (hl:cs.length<2000000):∀(m i:Nat),i+m=cs.length →
 dn O 0 (.loop Z25_L0) ⟨[(0,.d (.sl .leaf cs)),(1,.d (.fn g first caps)),(7,(.d (.int .i64 cs.length))),(8,(.d (.int .i64 i)))],[]⟩ =
  if (cs.drop i).any P then some (.ret,⟨[(4,(.d (.int .i64 (nk P (cs.drop i) i))))],[]⟩) else some (.exit 0,⟨[(0,.d (.sl .leaf cs)),(1,.d (.fn g first caps)),(7,(.d (.int .i64 cs.length))),(8,(.d (.int .i64 cs.length))),(9,(.d (.bool false)))],[]⟩)
 | 0,i,hi=>by
  have:i=cs.length:=by omega
  subst this;rw [o8];exact cm (by simp -implicitDefEqProofs [Z25_L0,aw])
 | m+1,i,hi=>by
  have hlt:i<cs.length:=by omega
  have h1:(i:Int)<cs.length:=by omega
  have hx:cs[i]? = some cs[i]:=b8 hlt;have hm:cs[i]∈cs:=ci hlt;have hc:=E3 (O:=O) (np:=0) (h:=[]) (news:=[]) hF.1 hF.2.1 (hF.2.2.1 _ hm) (hF.2.2.2 _ hm) rfl;have hsh:=hs _ hm;have w4:IntKind.i64.wrap ((i:Int)+1)=((i+1:Nat):Int):=(w64 (x:=(i:Int)+1) (by omega)).trans (by omega)
  rw [bx hlt];cases hp:P cs[i]
  ·rw [hp] at hc
   refine cg (s1:=⟨[(0,.d (.sl .leaf cs)),(1,.d (.fn g first caps)),(7,(.d (.int .i64 cs.length))),(8,(.d (.int .i64 ((i+1:Nat)))))],[]⟩) ?_ ?_
   ·simp -implicitDefEqProofs [Z25_L0,aw,h1,hx,hsh,hc,w4]
   ·rw [R8 hF hs hl m (i+1) (by omega)]
    simp only [p5,hp,Bool.false_or,nk,b9,if_false]
  ·rw [hp] at hc
   have e:nk P (cs[i]::cs.drop (i+1)) i=i:=by simp [nk,hp]
   rw [e];simp only [p5,hp,Bool.true_or,if_true];exact lq (by simp -implicitDefEqProofs [Z25_L0,aw,h1,hx,hsh,hc])
theorem Tf {O:ap} {g:Nat} {first caps cs:List D} {P:D→Bool} (hF:u9 O g first caps cs P) (hs:Dy (.arr 64 .leaf) cs) (hl:cs.length<2000000):∀(m i:Nat),i+m=cs.length →
 dn O 0 (.loop Z26_L0) ⟨[(0,.d (.sl (.arr 64 .leaf) cs)),(1,.d (.fn g first caps)),(7,(.d (.int .i64 cs.length))),(8,(.d (.int .i64 i)))],[]⟩ =
  if (cs.drop i).any P then some (.ret,⟨[(4,(.d (.int .i64 (nk P (cs.drop i) i))))],[]⟩) else some (.exit 0,⟨[(0,.d (.sl (.arr 64 .leaf) cs)),(1,.d (.fn g first caps)),(7,(.d (.int .i64 cs.length))),(8,(.d (.int .i64 cs.length))),(9,(.d (.bool false)))],[]⟩)
 | 0,i,hi=>by
  have:i=cs.length:=by omega
  subst this;rw [o8];exact cm (by simp -implicitDefEqProofs [Z26_L0,aw])
 | m+1,i,hi=>by
  have hlt:i<cs.length:=by omega
  have h1:(i:Int)<cs.length:=by omega
  have hx:cs[i]? = some cs[i]:=b8 hlt;have hm:cs[i]∈cs:=ci hlt;have hc:=E3 (O:=O) (np:=0) (h:=[]) (news:=[]) hF.1 hF.2.1 (hF.2.2.1 _ hm) (hF.2.2.2 _ hm) rfl;have hsh:=hs _ hm;have w4:IntKind.i64.wrap ((i:Int)+1)=((i+1:Nat):Int):=(w64 (x:=(i:Int)+1) (by omega)).trans (by omega)
  rw [bx hlt];cases hp:P cs[i]
  ·rw [hp] at hc
   refine cg (s1:=⟨[(0,.d (.sl (.arr 64 .leaf) cs)),(1,.d (.fn g first caps)),(7,(.d (.int .i64 cs.length))),(8,(.d (.int .i64 ((i+1:Nat)))))],[]⟩) ?_ ?_
   ·simp -implicitDefEqProofs [Z26_L0,aw,h1,hx,hsh,hc,w4]
   ·rw [Tf hF hs hl m (i+1) (by omega)]
    simp only [p5,hp,Bool.false_or,nk,b9,if_false]
  ·rw [hp] at hc
   have e:nk P (cs[i]::cs.drop (i+1)) i=i:=by simp [nk,hp]
   rw [e];simp only [p5,hp,Bool.true_or,if_true];exact lq (by simp -implicitDefEqProofs [Z26_L0,aw,h1,hx,hsh,hc])
def jc (O:ap) (F:Nat) (s:Sh):Prop:=∀(g:Nat) (first caps cs:List D) (P:D→Bool),u9 O g first caps cs P→Dy s cs→cs.length<2000000 →
 ask O F [.sl s cs,.fn g first caps]=some (D.int .i64 (nk P cs 0))
theorem a3v (hT:T F25=some Z25):jc (den T A) F25 .leaf:=by
 intro g first caps cs P hF hs hl;have h:=R8 hF hs hl cs.length 0 (cd _);rw [ef] at h;have e0:((0:Nat):Int)=0:=rfl;rw [e0] at h;refine c9 hT rfl ?_
 by_cases ha:cs.any P=true
 ·rw [if_pos ha] at h
  simp -implicitDefEqProofs [Z25,Z25_B,h]
 ·rw [if_neg ha] at h
  have hn:nk P cs 0=-1:=by
   have hi:∀(ds:List D) (i:Nat),ds.any P=false→nk P ds i=-1:=by
    intro ds
    induction ds with
    | nil=>intro i _; rfl
    | cons d ds ih=>intro i hd; simp at hd; rw [nk,hd.1]; simpa using ih (i+1) (by simpa using hd.2)
   exact hi cs 0 (by simpa using ha)
  simp -implicitDefEqProofs [Z25,Z25_B,h,hn]
theorem a64 (hT:T F26=some Z26):jc (den T A) F26 (.arr 64 .leaf):=by
 intro g first caps cs P hF hs hl;have h:=Tf hF hs hl cs.length 0 (cd _);rw [ef] at h;have e0:((0:Nat):Int)=0:=rfl;rw [e0] at h;refine c9 hT rfl ?_
 by_cases ha:cs.any P=true
 ·rw [if_pos ha] at h
  simp -implicitDefEqProofs [Z26,Z26_B,h]
 ·rw [if_neg ha] at h
  have hn:nk P cs 0=-1:=by
   have hi:∀(ds:List D) (i:Nat),ds.any P=false→nk P ds i=-1:=by
    intro ds
    induction ds with
    | nil=>intro i _; rfl
    | cons d ds ih=>intro i hd; simp at hd; rw [nk,hd.1]; simpa using ih (i+1) (by simpa using hd.2)
   exact hi cs 0 (by simpa using ha)
  simp -implicitDefEqProofs [Z26,Z26_B,h,hn]
def Bb (O:ap) (F:Nat) (s:Sh):Prop:=∀(g:Nat) (first caps cs:List D) (P:D→Bool),u9 O g first caps cs P→Dy s cs→cs.length<2000000 →
 ask O F [.sl s cs,.fn g first caps]=some (D.bool (cs.any P))
theorem T6 (hT:T F23=some Z23) (hi:jc (den T A) F25 .leaf):Bb (den T A) F23 .leaf:=by
 intro g first caps cs P hF hs hl;have h:=hi g first caps cs P hF hs hl;have e:decide (0≤nk P cs 0)=cs.any P:=by rw [Bool.eq_iff_iff]; simpa using Nh P cs 0
 refine c9 hT rfl ?_;simp -implicitDefEqProofs [Z23,Z23_B,h,e]
theorem Rj (hT:T F24=some Z24) (hi:jc (den T A) F26 (.arr 64 .leaf)):Bb (den T A) F24 (.arr 64 .leaf):=by
 intro g first caps cs P hF hs hl;have h:=hi g first caps cs P hF hs hl;have e:decide (0≤nk P cs 0)=cs.any P:=by rw [Bool.eq_iff_iff]; simpa using Nh P cs 0
 refine c9 hT rfl ?_;simp -implicitDefEqProofs [Z24,Z24_B,h,e]
def D.num:D→Int
 | .int _ n=>n
 | _=>0
def gw (l:List Int):Prop:=∀x∈l,0≤x∧x<256
abbrev p7 (l:List Int):D:=(D.arr 64 .leaf (af .u8 l))
def Bc (O:ap) (F:Nat) (s:Sh):Prop:=∀(g:Nat) (first caps cs:List D) (P:D→Bool),u9 O g first caps cs P→Dy s cs→cs.length<2000000 →
 ask O F [.sl s cs,.fn g first caps]=some (D.bool (cs.all P))
theorem X1 (P:D→Bool) (cs:List D):(!cs.any fun x=>!P x)=cs.all P:=by
 induction cs with
 | nil=>rfl
 | cons c cs ih=>simp [←ih]
theorem aal {g:Nat} {first caps cs:List D} {P:D→Bool} (hT:T Fj=some Zj) (hF:u9 (den T A) g first caps cs P):u9 (den T A) Fj [] [.ip (.fn g first caps)] cs fun x=>!P x:=by
 refine ⟨fun x hx=>by simp at hx,fun x hx=>by simp at hx; subst hx; rfl,hF.2.2.1,fun x hx=>?_⟩
 have hc:=E3 (O:=den T A) (np:=0) (h:=[]) (news:=[]) hF.1 hF.2.1 (hF.2.2.1 _ hx) (hF.2.2.2 _ hx) rfl;refine c9 hT rfl ?_;simp -implicitDefEqProofs [Zj,Zj_B,hc]
theorem a0e (hT:T Fi=some Zi) (hT1:T Fj=some Zj) (hc:Bb (den T A) F23 .leaf):Bc (den T A) Fi .leaf:=by
 intro g first caps cs P hF hs hl;have e:=hc _ _ _ _ _ (aal hT1 hF) hs hl;have e2:=X1 P cs;have t1:=ot [.box false (.fn g first caps)] hF.1;have t2:=ot [.box false (.fn g first caps)] hF.2.1;rw [←e2];generalize (cs.any fun x=>!P x)=r at *
 refine c9 hT rfl ?_;simp -implicitDefEqProofs [Zi,Zi_B,e]
theorem ac2 {g:Nat} {first caps cs:List D} {P:D→Bool} (hT:T Fl=some Zl) (hs:Dy (.arr 64 .leaf) cs) (hF:u9 (den T A) g first caps cs P):u9 (den T A) Fl [] [.ip (.fn g first caps)] cs fun x=>!P x:=by
 refine ⟨fun x hx=>by simp at hx,fun x hx=>by simp at hx; subst hx; rfl,hF.2.2.1,fun x hx=>?_⟩
 have hc:=E3 (O:=den T A) (np:=0) (h:=[.box false x]) (news:=[]) hF.1 hF.2.1 (hF.2.2.1 _ hx) (hF.2.2.2 _ hx) rfl;have h1:=hF.2.2.1 _ hx;have h2:=hs _ hx;refine c9 hT rfl ?_;simp -implicitDefEqProofs [Zl,Zl_B,hc,h1,h2]
theorem a1q (hT:T Fk=some Zk) (hT1:T Fl=some Zl) (hc:Bb (den T A) F24 (.arr 64 .leaf)):Bc (den T A) Fk (.arr 64 .leaf):=by
 intro g first caps cs P hF hs hl;have e:=hc _ _ _ _ _ (ac2 hT1 hs hF) hs hl;have e2:=X1 P cs;rw [←e2];generalize (cs.any fun x=>!P x)=r at *
 refine c9 hT rfl ?_;simp -implicitDefEqProofs [Zk,Zk_B,e]
def xn (p:Int) (l:List Int):Bool:=l.all fun x=>decide (x<p)
def Dt (O:ap):Prop:=∀(p:Int) (l:List Int),gw l→l.length=64→ask O Fr [(D.int .i64 p),(D.arr 64 .leaf (af .u8 l))]=some (D.bool (xn p l))
theorem a6m (p:Int) (l:List Int):((af .u8 l).all fun x=>decide (x.num<p))=xn p l:=by
 unfold af xn;rw [List.all_map];rfl
theorem a3p (hT:T Fr=some Zr) (hT1:T Fs=some Zs) (ha:Bc (den T A) Fi .leaf):Dt (den T A):=by
 intro p l hb hl
 have hF:u9 (den T A) Fs [] [.ip (D.int .i64 p)] (af .u8 l) fun x=>decide (x.num<p):=by
  refine ⟨fun x hx=>by simp at hx,fun x hx=>by simp at hx; subst hx; rfl,fun x hx=>?_,fun x hx=>?_⟩
  ·obtain ⟨n,_,rfl⟩:=ch.1 hx; rfl
  ·obtain ⟨n,hn,rfl⟩:=ch.1 hx
   have h1:=hb n hn;have w1:IntKind.i64.wrap n=n:=w64 (by omega)
   refine c9 hT1 rfl ?_;simp -implicitDefEqProofs [Zs,Zs_B,w1,D.num];exact decide_eq_decide.2 se
 have e:=ha _ _ _ _ _ hF (fun x hx=>by obtain ⟨n,_,rfl⟩:=ch.1 hx; rfl) (by simp [hl])
 rw [a6m] at e;have ht:l.take 64=l:=bg (by omega)
 refine c9 hT rfl ?_;simp -implicitDefEqProofs [Zr,Zr_B,e,hl,ht]
def k8 (p:Int) (ls:List (List Int)):Int:=if isP p∧ls.all (xn p) then 0 else 1
def Tg (ls:List (List Int)):Prop:=∀l∈ls,l.length=64∧gw l
def D.nums:D→List Int
 | .arr _ _ cs=>cs.map D.num
 | _=>[]
theorem M9 (l:List Int):(p7 l).nums=l:=by
 simp only [D.nums,af,List.map_map];have:(D.num ∘ D.int .u8)=id:=rfl;rw [this,List.map_id]
def mu (O:ap):Prop:=∀(p:Int) (ls:List (List Int)),Tg ls→ls.length<2000000→ask O Fw [(D.int .i64 p),.sl (.arr 64 .leaf) (ls.map p7)]=some (D.int .i64 (k8 p ls))
theorem a1b {p:Int} {ls:List (List Int)} (h:Tg ls) (hT1:T Fx=some Zx) (hi:Dt (den T A)):u9 (den T A) Fx [] [.ip (D.int .i64 p)] (ls.map p7) fun x=>xn p x.nums:=by
 refine ⟨fun x hx=>by simp at hx,fun x hx=>by simp at hx; subst hx; rfl,fun x hx=>?_,fun x hx=>?_⟩
 ·obtain ⟨n,_,rfl⟩:=ch.1 hx; rfl
 ·obtain ⟨n,hn,rfl⟩:=ch.1 hx
  have e:=hi p n (h n hn).2 (h n hn).1;have e2:=M9 n;refine c9 hT1 rfl ?_;simp -implicitDefEqProofs [Zx,Zx_B,e,e2]
theorem a48 (p:Int) (ls:List (List Int)):((ls.map p7).all fun x=>xn p x.nums)=ls.all (xn p):=by
 rw [List.all_map]
 congr 1
 funext l
 simp only [Function.comp,M9]
theorem Ri (hT:T Fw=some Zw) (hT1:T Fx=some Zx) (hp:G9 (den T A)) (hi:Dt (den T A)) (ha:Bc (den T A) Fk (.arr 64 .leaf)):mu (den T A):=by
 intro p ls h hl;have e:=ha _ _ _ _ _ (a1b (p:=p) h hT1 hi) (fun x hx=>by obtain ⟨n,_,rfl⟩:=ch.1 hx; rfl) (by simpa using hl)
 rw [a48] at e;have e1:=hp p;unfold k8;refine c9 hT rfl ?_;cases h1:isP p
 ·rw [h1] at e1
  simp -implicitDefEqProofs [Zw,Zw_B,e1,aw]
 ·rw [h1] at e1
  cases h2:ls.all (xn p)
  ·rw [h2] at e
   simp -implicitDefEqProofs [Zw,Zw_B,e1,e,aw]
  ·rw [h2] at e
   simp -implicitDefEqProofs [Zw,Zw_B,e1,e,aw]
end Pe
namespace Pe
open Go
theorem Mn:∀(xs:List D),(∀x∈xs,(Ty.int .u8).has x)→∃l:List Int,xs=af .u8 l∧gw l
 | [],_=>⟨[],rfl,fun _ h=>by cases h⟩
 | x::xs,h=>by
  obtain ⟨l,rfl,hb⟩:=Mn xs fun y hy=>h y (kg _ hy)
  have h1:=h x (by simp)
  cases x <;> simp only [Ty.has] at h1
  obtain ⟨rfl,h1⟩:=h1;refine ⟨_::l,rfl,fun y hy=>?_⟩
  rcases cn.1 hy with rfl | hy
  ·have:=bounds_u8 h1; omega
  ·exact hb y hy
theorem Vg {xs:List D} (h:Ty.hasAll [] xs):xs=[]:=by
 cases xs <;> simp only [Ty.hasAll] at h; rfl
theorem Sn {T:Ty} {Ts:List Ty} {xs:List D} (h:Ty.hasAll (T::Ts) xs):∃x r,xs=x::r∧T.has x∧Ty.hasAll Ts r:=by
 cases xs <;> simp only [Ty.hasAll] at h; exact ⟨_,_,rfl,h⟩
def em (P:Program) (num:Nat→Nat) (g:Nat) (fn:Fn):Bool:=match P.funcs[g]? with
 | some x=>He P num fn x
 | none=>false
def a9u (P:Program) (num:Nat→Nat):List (Nat×Fn)→Prop
 | []=>True
 | e::r=>em P num (num e.1) e.2=true∧a9u P num r
theorem Ma {P:Program} {num:Nat→Nat}:∀{l:List (Nat×Fn)},a9u P num l→∀f fn,l.lookup f=some fn→∃g,P.funcs[num f]? = some g∧He P num fn g=true
 | [],_,f,fn,h=>by cases h
 | (a,b)::r,⟨h1,h2⟩,f,fn,h=>by
  rw [List.lookup_cons] at h
  split at h
  ·rename_i e
   obtain rfl:=au h;have:f=a:=by simpa using e
   subst this;unfold em at h1
   split at h1
   ·rename_i g hg; exact ⟨g,hg,h1⟩
   ·cases h1
  ·exact Ma h2 f fn h
end Pe
namespace Pe
open Go
variable {P:Program} {num:Nat→Nat}
theorem Vj {C:Cx} {φ:Loc} {s:St} {a:Act} {ops:Array Oper} {N np:Nat} {o:Oper} {j d:Nat} {v:V} {K:Act→World→Prop} {Q:Exit→Act→World→Prop}
 (hs:SR C φ s a.tmps) (hN:N≤a.tmps.size) (hd:o.dst=some d) (hdN:d<N) (hg:o.guard=none) (hj:ops[j]? = some o) (hop:OpWp P o a C φ s.h v s.h (fun _=>False))
 (hK:∀C' φ' u,Runs np C C' φ φ' s.h s.h→SR C' φ' ⟨(d,v)::s.e,s.h⟩ (a.put o.dst u).tmps→K (a.put o.dst u) C'.w):wpOp P ops Q j K a C.w:=by
 have hw:Region.wanted o (yielded ops a.tmps)=true:=by unfold Region.wanted; rw [hg]
 unfold wpOp;simp only [hj];rw [hw,if_pos rfl];left;refine hop K Q fun C' φ' u st hx k=>hK C' φ' u ⟨st,k.mono fun _ h=>h.elim⟩ ⟨st.hr,st.bd,fun n w hn=>?_⟩
 simp only [Env.get] at hn;rw [hd,Om (om hdN hN)]
 by_cases hdn:d=n
 ·subst hdn
  simp only [if_true,a8] at hn;subst hn;refine ⟨u,if_pos rfl,?_⟩;rcases hx with hx | hx
  ·rw [hd] at hx; cases hx
  ·exact hx
 ·rw [if_neg hdn] at hn
  rw [if_neg (jj hdn)];obtain ⟨u0,h1,h2⟩:=hs.env n w hn;exact ⟨u0,h1,k w u0 (fun _ _ h=>h.elim) h2⟩
theorem a2l {C:Cx} {φ:Loc} {s:St} {a:Act} {o:Oper} (hs:SR C φ s a.tmps) {x:Arg} {x' y':Operand} {t yt e:TypeId} (ho:o.op=.binOp .eql t x' y' yt) (hx:d8 C.num x x'=true) (ht:P.underlying t=some (.slice e)) (hy:a.eval y'=.slice none 0 0)
 {sh:Sh} {cs:List D} (hv:s.e.arg x=some (.d (.sl sh cs))):∃b,OpGood P o a C φ s.h (.d (.bool b)) s.h (fun _=>False):=by
 obtain ⟨ad,c,e1,_,_⟩:=Na (ce hs hx hv);refine ⟨decide (ad=none),cu hs (u:=.bool (decide (ad=none))) ?_ (ko ..)⟩
 have hq:(Go.Op.equal t (.slice ad cs.length c) (.slice none 0 0)).run P C.w=.ok (decide (ad=none)) C.w:=by
  show (Go.Op.equalIn (9999+1) t (.slice ad cs.length c) (.slice none 0 0)).run P C.w=.ok (decide (ad=none)) C.w;generalize 9999=d;cases ad <;> simp [Go.Op.equalIn,Sem.run_bind,run_underlying ht,Result.andThen_ok,Sem.run_pure]
 have hb:binOp .eql t (.slice ad cs.length c) (.slice none 0 0)=(do pure (.bool (←Go.Op.equal t (.slice ad cs.length c) (.slice none 0 0)))):=rfl;simp [execOp,ho,e1,hy,eqGuard,hb,hq]
theorem a1f {x:Arg} {o:Oper} (h:a0y P num (.nilq false x) o=true):∃t x' y' yt e,o.op=.binOp .eql t x' y' yt∧d8 num x x'=true∧pb y'=true∧P.underlying t=some (.slice e):=by
 cases hq:o.op with
 | binOp op t x' y' yt=>
  simp only [a0y,hq,az,decide_eq_true_eq] at h;obtain ⟨⟨⟨h3,h4⟩,h5⟩,h6⟩:=h
  split at h6
  ·rename_i e he
   exact ⟨t,x',y',yt,e,by rw [h3]; rfl,h4,h5,he⟩
  ·cases h6
 | _=>simp only [a0y,hq,b9] at h
def Pi (s:Sh) (z:D) (bytes:Nat):Cd:=
 .seq (.region [⟨some 2,.nilOwn 0 s,none,[]⟩] [0])
 (.seq (.seq (.region [⟨some 3,.mv (.t 0),none,[]⟩,
  ⟨some 4,.nilq false (.t 3),none,[]⟩] [0,4])
  (.cond (.t 4)
   (.seq (.region [⟨some 2,.nilOwn 2 s,none,[]⟩] [2])
    (.ret))
   (.skip)))
  (.seq (.region [⟨some 5,.buildSl false 2 s z 0 [],none,[]⟩,
   ⟨some 6,.mv (.t 0),none,[]⟩,
   ⟨some 7,.append s 3 bytes (.t 5) (.t 6),none,[]⟩,
   ⟨some 2,.mv (.t 7),none,[]⟩] [2])
   (.ret)))
def wg (s:Sh) (z:D) (bytes:Nat):Fn:={ nparams:=1,nblk:=4,results:=[.tmp 2],body:=Pi s z bytes }
def t6:Code→Bool
 | .seq _ (.seq (.seq (.region _ _ false) _) _)=>true
 | _=>false
theorem Cr {N:Nat} {a b:Cd} {x:Code} (h:kr P num N (.seq a b) x=true):∃y z,x=.seq y z∧kr P num N a y=true∧kr P num N b z=true:=by
 cases x <;> simp only [kr,b9,az] at h
 exact ⟨_,_,rfl,h⟩
def xt (s:Sh):St:=⟨[(2,.sl 2 [] 0 0 none)],[.hole,.hole,.sl false s [],.hole]⟩
theorem Wx:ma P num (fun _ _ _=>none):=fun f vs bs ans h=>by cases h
theorem Tj {s:Sh} {z:D} {bytes N:Nat} (hm:P.follows .mixedOrders=true) {x:Code} (hok:kr P num N (Pi s z bytes) x=true) (hshape:t6 x=true) (hbeq:Sh.beq s s=true)
 (C:Cx) (φ:Loc) (a:Act) (hC:C.num=num) (hs:SR C φ ⟨params 0 [.d (.sl s [])],[]++List.replicate 4 .hole⟩ a.tmps) (hN:N≤a.tmps.size)
 (Q:Exit→Act→World→Prop) (hQ:a85 num 0 Q .ret C φ ([]++List.replicate 4 .hole) (xt s) a):x.wp P Q a C.w:=by
 obtain ⟨x1,x2,rfl,ok1,ok2⟩:=Cr hok;obtain ⟨x3,x4,rfl,ok3,ok4⟩:=Cr ok2;obtain ⟨x5,x6,rfl,ok5,ok6⟩:=Cr ok3;have nc:ma P num (fun _ _ _=>none):=Wx
 -- ahead
 refine wp_seq (wa (O:=fun _ _ _=>none) (np:=0) (N:=N) nc hm 1 _ _ ok1 C φ _ ⟨[(0,.d (.sl s []))],[.hole,.hole,.hole,.hole]⟩ a .normal hC hs hN rfl _ ?_)
 intro C1 φ1 a1 k1 r1 hs1 z1 d1;refine wp_seq (wp_seq ?_)
 -- the question
 cases x5 <;> simp only [kr,b9,az] at ok5
 rename_i id ops draw
 cases draw with
 | true=>simp [t6] at hshape
 | false=>
 have hops:=ok5.1;obtain ⟨hl,hget⟩:=v8 hops;have hl2:ops.size=2:=by simpa using hl.symm
 have g0:ops.toList[0]? = some ops[0]:=by simp [hl2]
 have g1:ops.toList[1]? = some ops[1]:=by simp [hl2]
 have i0:=hget 0 _ _ rfl g0;have i1:=hget 1 _ _ rfl g1;have N1:N≤a1.tmps.size:=by rw [z1]; exact hN
 refine wp_region ?_;rw [hl2];show wpOps P ops _ [0,1] a1 C1.w;rw [wpOps_cons];refine G2 (O:=fun _ _ _=>none) (np:=0) (k1▸nc) hs1 N1 (k1▸i0) (by simp) (s':=⟨[(3,.d (.sl s [])),(0,.d (.sl s []))],[.hole,.hole,.hole,.hole]⟩) rfl fun C2 φ2 u2 rn2 hs2=>?_
 have k2:C2.num=num:=rn2.st.le.num.trans k1;rw [wpOps_cons];unfold Mf at i1;simp only [az,decide_eq_true_eq] at i1;obtain ⟨⟨⟨hdst,hdN⟩,hop⟩,hguard⟩:=i1;have hdst':ops[1].dst=some 4:=hdst.symm;have hdN':4<N:=by simpa [hdst'] using hdN
 have hg:ops[1].guard=none:=by
  cases hq:ops[1].guard with
  | none=>rfl
  | some q=>rw [hq] at hguard; simp at hguard
 have N2:N≤(a1.put ops[0].dst u2).tmps.size:=by rw [tp]; exact N1
 have key:∃b,OpGood P ops[1] (a1.put ops[0].dst u2) C2 φ2 [.hole,.hole,.hole,.hole] (.d (.bool b)) [.hole,.hole,.hole,.hole] (fun _=>False):=by
  obtain ⟨t,x',y',yt,e,h1,h2,h3,h4⟩:=a1f hop;refine a2l hs2 h1 (k2▸h2) h4 ?_ (x:=.t 3) (sh:=s) (cs:=[]) rfl;unfold pb at h3
  split at h3
  ·rfl
  ·cases h3
 obtain ⟨b,key⟩:=key;refine Vj (np:=0) hs2 N2 hdst' hdN' hg (by simp) key.wp fun C3 φ3 u3 rn3 hs3=>?_
 have k3:C3.num=num:=rn3.st.le.num.trans k2;show (Exit.then _ _) .normal _ _;obtain ⟨rn4,hs4⟩:=Lo 0 hs3 [0,4];have N4:N≤((a1.put ops[0].dst u2).put ops[1].dst u3).tmps.size:=by rw [tp]; exact N2
 have d4:((a1.put ops[0].dst u2).put ops[1].dst u3).defers=a.defers:=by
  rw [←d1];cases ops[0].dst <;> cases ops[1].dst <;> rfl
 have z4:((a1.put ops[0].dst u2).put ops[1].dst u3).tmps.size=a.tmps.size:=by rw [tp,tp,z1]
 have back:Runs 0 C C3 φ φ3 ([]++List.replicate 4 .hole) [.hole,.hole,.hole,.hole]:=(r1.trans (rn2.trans rn3)).trans rn4;generalize ((a1.put ops[0].dst u2).put ops[1].dst u3)=a3 at *;have hs5:SR C3 φ3 ⟨[(0,.d (.sl s [])),(4,.d (.bool b))],[.hole,.hole,.hole,.hole]⟩ a3.tmps:=hs4;cases b with
 | true=>
  have ev:f6 (fun _ _ _=>none) 0 1 (.cond (.t 4) (.seq (.region [⟨some 2,.nilOwn 2 s,none,[]⟩] [2]) (.ret)) (.skip)) ⟨[(0,.d (.sl s [])),(4,.d (.bool true))],[.hole,.hole,.hole,.hole]⟩=some (.ret,⟨[(2,.sl 2 [] 0 0 (some 0))],[.hole,.hole,.sl false s [],.hole]⟩):=rfl
  refine wa (O:=fun _ _ _=>none) (np:=0) (N:=N) nc hm 1 _ _ ok6 C3 φ3 _ _ a3 .ret k3 hs5 N4 ev _ ?_
  intro C6 φ6 a6 k6 r6 hs6 z6 d6;refine hQ C6 φ6 a6 k6 (back.trans r6) ⟨hs6.hr,hs6.bd,fun n v hn=>?_⟩ (z6.trans z4) (d6.trans d4)
  simp only [xt,Env.get] at hn
  split at hn
  ·rename_i h2
   subst h2;obtain rfl:=au hn;obtain ⟨u,h5,h6⟩:=hs6.env 2 (.sl 2 [] 0 0 (some 0)) rfl;refine ⟨u,h5,?_⟩;simp only [RX] at h6 ⊢;obtain ⟨B,base,sh,m,ad,c,e1,e2,e3,e4,e5,e6,e7⟩:=h6;exact ⟨B,base,sh,m,ad,c,e1,e2,e3,e4,e5,(fun k hk=>by cases hk),e7⟩
  ·cases hn
 | false=>
  have ev:f6 (fun _ _ _=>none) 0 1 (.cond (.t 4) (.seq (.region [⟨some 2,.nilOwn 2 s,none,[]⟩] [2]) (.ret)) (.skip)) ⟨[(0,.d (.sl s [])),(4,.d (.bool false))],[.hole,.hole,.hole,.hole]⟩=some (.normal,⟨[(0,.d (.sl s [])),(4,.d (.bool false))],[.hole,.hole,.hole,.hole]⟩):=rfl
  refine wa (O:=fun _ _ _=>none) (np:=0) (N:=N) nc hm 1 _ _ ok6 C3 φ3 _ _ a3 .normal k3 hs5 N4 ev _ ?_
  intro C6 φ6 a6 k6 r6 hs6 z6 d6
  have ev2:f6 (fun _ _ _=>none) 0 1 (.seq (.region [⟨some 5,.buildSl false 2 s z 0 [],none,[]⟩,⟨some 6,.mv (.t 0),none,[]⟩,⟨some 7,.append s 3 bytes (.t 5) (.t 6),none,[]⟩,⟨some 2,.mv (.t 7),none,[]⟩] [2]) (.ret)) ⟨[(0,.d (.sl s [])),(4,.d (.bool false))],[.hole,.hole,.hole,.hole]⟩=some (.ret,xt s):=by
   simp [f6,jb,ru,oe,Ins.side,Ins.on,bc,kv,ri,freezeIf,fi,ik,Env.arg,Env.get,Env.putO,Env.kill,Op.kill,toE,hbeq,Env.keep,tw,Env.refd,V.refs,xt,Env.clear]
  refine wa (O:=fun _ _ _=>none) (np:=0) (N:=N) nc hm 1 _ _ ok4 C6 φ6 _ _ a6 .ret k6 hs6 (by rw [z6]; exact N4) ev2 _ ?_
  intro C7 φ7 a7 k7 r7 hs7 z7 d7;exact hQ C7 φ7 a7 k7 ((back.trans r6).trans r7) hs7 (z7.trans (z6.trans z4)) (d7.trans (d6.trans d4))
theorem S8 {s:Sh} {z:D} {bytes:Nat} (hm:P.follows .mixedOrders=true) {f:Nat} {g:Func} (hg:P.funcs[num f]? = some g) (hok:He P num (wg s z bytes) g=true) (hshape:(match g.body with | some x=>t6 x | none=>false)=true) (hbeq:Sh.beq s s=true)
 {cs:List D} (hl:cs.length*bytes≤1099511627776) {C:Cx} {φ:Loc} {us:List Value} (hC:C.num=num) (hr:HR C φ []) (hb:∀b,C.I b→b<C.w.heap.size) (hv:RXs C φ [] [.d (.sl s cs)] us) :
 T7 P (num f) us C φ [] [.sl false s cs] (.sl 0 [] 0 cs.length none):=by
 cases cs with
 | cons c cs=>
  have hl':(cs.length+1)*bytes≤1099511627776:=hl
  have hrun:run (fun _ _ _=>none) 1 (wg s z bytes) [.d (.sl s (c::cs))] []=some (.sl 0 [] 0 (c::cs).length none,[],[.sl false s (c::cs)]):=by
   simp [hl',run,wg,Pi,f6,jb,ru,oe,Ins.side,Ins.on,bc,kv,ri,freezeIf,fi,ik,Env.arg,Env.get,Env.putO,Env.kill,Op.kill,toE,hbeq,Env.keep,tw,Env.refd,V.refs,Env.clear,params,zo,Tt,o7,t7,Heap.pick,V.ren,List.idxOf,List.findIdx,List.findIdx.go]
  exact (Nb Wx hm hg hok hrun hC hr hb hv).2
 | nil=>
  unfold He at hok;simp only [az,bne_iff_ne,ne_eq,decide_eq_true_eq] at hok;obtain ⟨⟨⟨hname,hnp⟩,hres⟩,hbody⟩:=hok;cases hcode:g.body with
  | none=>rw [hcode] at hbody; cases hbody
  | some code=>
   rw [hcode] at hbody hshape;simp only at hbody hshape;refine (a5f (wg s z bytes) hg hname hnp hres hcode (vs:=[.d (.sl s [])]) (bs:=[]) (ans:=(.sl 0 [] 0 0 none,[],[.sl false s []])) .ret (xt s) rfl ?_ (fun C φ a hC hs hN Q hQ=>Tj hm hbody hshape hbeq C φ a hC hs hN Q hQ) hC hr hb hv).2
   simp [wg,xt,zo,Tt,Env.get,o7,t7,V.refs,Heap.pick,V.ren,List.idxOf,List.findIdx,List.findIdx.go]
def Ep (ids:Nat→Option (Sh×D×Nat)):ap:=fun f vs bs=>
 match ids f with
 | some (s,_,bytes)=>match vs with
  | [.d (.sl t cs)]=>match bs with
   | []=>if Sh.beq t s=true∧cs.length*bytes≤1099511627776 then some (.sl 0 [] 0 cs.length none,[],[.sl false t cs]) else none
   | _=>none
  | _=>none
 | none=>none
theorem Yy {ids:Nat→Option (Sh×D×Nat)} {f:Nat} {s:Sh} {z:D} {bytes:Nat} {cs:List D} (h1:ids f=some (s,z,bytes)) (h0:Sh.beq s s=true) (h2:cs.length*bytes≤1099511627776) :
 Ep ids f [.d (.sl s cs)] []=some (.sl 0 [] 0 cs.length none,[],[.sl false s cs]):=by
 simp [Ep,h1,h0,h2]
theorem Nm {ids:Nat→Option (Sh×D×Nat)} (hm:P.follows .mixedOrders=true)
 (hids:∀f s z bytes,ids f=some (s,z,bytes)→Sh.beq s s=true∧∃g,P.funcs[num f]? = some g∧He P num (wg s z bytes) g=true∧(match g.body with | some x=>t6 x | none=>false)=true):ma P num (Ep ids):=by
 intro f vs bs ans h C φ us hC hr hb hv;unfold Ep at h
 split at h
 ·rename_i s z bytes hi
  split at h
  ·rename_i t cs
   split at h
   ·split at h
    ·rename_i hc
     obtain rfl:=au h;obtain ⟨hbeq,g,hg,hok,hshape⟩:=hids f s z bytes hi;obtain rfl:=Sh.beq_eq _ _ hc.1;exact ⟨rfl,S8 hm hg hok hshape hbeq hc.2 hC hr hb hv⟩
    ·cases h
   ·cases h
  ·cases h
 ·cases h
end Pe
