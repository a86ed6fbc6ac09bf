/-
  A part of the proof: an evaluator for a small form of the code, its soundness, and contracts of functions over it.
-/
import Derived.IntWalk
import Derived.Carry
import Derived.OpenShut
import GoSem.Core.View
import Derived.Test.YtjccdlpphbjckaaGreatW1
import Derived.Test.YtjccdlpphbjckaaGreatW2

namespace Pe
open Go
def air (np:Nat) (ks:List Nat) (s:St):Out×St:=(.normal,⟨s.e.keep ks,ta (s.e.keep ks) np 0 s.h⟩)
@[simp] theorem amr (np:Nat) (ks:List Nat) (e:Env) (h:Heap):air np ks ⟨e,h⟩=(.normal,⟨e.keep ks,ta (e.keep ks) np 0 h⟩):=rfl
@[simp] theorem ang {O:ap} {np:Nat} {s:St} (is:List Ins) (ks:List Nat):dn O np (.region is ks) s=(i6 O np is s).map (air np ks):=a40 is ks
def aka (e:Env) (i:Ins) (r:V×Heap):St:=⟨(e.kill (i.op.kill e r.1)).putO i.dst r.1,r.2⟩
@[simp] theorem amu (e:Env) (i:Ins) (v:V) (h:Heap):aka e i (v,h)=⟨(e.kill (i.op.kill e v)).putO i.dst v,h⟩:=rfl
def acv (O:ap) (np:Nat) (s:St) (i:Ins):Option Bool→Option St
 | some true=>(bc O np s.e s.h i.op).map (aka s.e i)
 | some false=>some ⟨s.e.putO i.dst (.tup []),s.h⟩
 | none=>none
@[simp] theorem aer (O:ap) (np:Nat) (s:St) (i:Ins):kj O np s i=acv O np s i (i.on s.e):=rfl
section
variable {O:ap} {np:Nat} {e:Env} {h:Heap}
def kNt (x:D):Option D:=if x.isTup then none else some x
def kEl (p:List Nat) (b:Blk):Option (Sh×List D):=b.elems p
def Iy (p:List Nat) (b:Blk):Option D:=b.get p
def slD (off len:Nat):Option (Sh×List D)→Option D
 | some (s,cs)=>if off+len≤cs.length then some (.sl s ((cs.drop off).take len)) else none
 | none=>none
@[simp] theorem an8 (x:D):kNt x=if x.isTup then none else some x:=rfl
@[simp] theorem aph (p:List Nat) (b:Blk):kEl p b=b.elems p:=rfl
@[simp] theorem alx (p:List Nat) (b:Blk):Iy p b=b.get p:=rfl
@[simp] theorem aj5 (off len:Nat) (s:Sh) (cs:List D):slD off len (some (s,cs))=if off+len≤cs.length then some (.sl s ((cs.drop off).take len)) else none:=rfl
@[simp] theorem alq (v:V):Ba h v=(toD h v).bind kNt:=rfl
@[simp] theorem aq8 (x:D):toD h (.d x)=some x:=by simp [toD]
def ae2 (p:List Nat) (b:Blk):Option (Sh×List D):=b.dels p
@[simp] theorem aly (p:List Nat) (b:Blk):ae2 p b=b.dels p:=rfl
@[simp] theorem ala (fr:Bool) (s:Sh) (cs:List D) (p:List Nat):(Blk.sl fr s cs).dels p=(Blk.sl fr s cs).elems p:=rfl
@[simp] theorem ak2 (fr:Bool) (d:D) (p:List Nat):(Blk.box fr d).dels p=(Blk.box fr d).elems p:=rfl
@[simp] theorem ake (fr:Bool) (s:Sh) (idx:List Nat) (rows:List (List D)):(Blk.tb fr s idx rows).dels [0]=(Gm s rows idx).map (Prod.mk .leaf):=rfl
@[simp] theorem aju (fr:Bool) (s:Sh) (idx:List Nat) (rows:List (List D)) (r:Nat):(Blk.tb fr s idx rows).dels [r+1]=(rows[r]?).map (Prod.mk s):=rfl
@[simp] theorem api (i:Nat) (p:List Nat) (off len:Nat) (cap:Option Nat):toD h (.sl i p off len cap)=slD off len ((h[i]?).bind (ae2 p)):=by
 have:(ae2 p)=(Blk.dels · p):=rfl
 rw [this];simp only [toD];cases (h[i]?).bind (Blk.dels · p) <;> rfl
@[simp] theorem aq1 (x:D):toE h (.d x)=some x:=rfl
@[simp] theorem ao2 (i:Nat) (p:List Nat) (off len:Nat) (cap:Option Nat):toE h (.sl i p off len cap)=slD off len ((h[i]?).bind (kEl p)):=by
 have:(kEl p)=(Blk.elems · p):=rfl
 rw [this];simp only [toE];cases (h[i]?).bind (Blk.elems · p) <;> rfl
@[simp] theorem ale (i:Nat) (p:List Nat):toD h (.ptr i p)=((h[i]?).bind (Iy p)).map .ip:=by simp only [toD]; rfl
def kFn (h:Heap) (f:Nat) (caps:List V) (a:List D):Option D:=(qq h caps).map (.fn f a)
@[simp] theorem apd (f:Nat) (caps:List V) (a:List D):kFn h f caps a=(qq h caps).map (.fn f a):=rfl
@[simp] theorem aon (f:Nat) (first caps:List V):toD h (.fn f first caps)=(qq h first).bind (kFn h f caps):=by simp only [toD]; rfl
@[simp] theorem aml (vs:List V):toD h (.tup vs)=(qq h vs).map .tup:=by simp only [toD]
def kDs (h:Heap) (vs:List V) (x:D):Option (List D):=if x.isTup then none else (qq h vs).map (List.cons x)
@[simp] theorem aef (vs:List V) (x:D):kDs h vs x=if x.isTup then none else (qq h vs).map (List.cons x):=rfl
@[simp] theorem ajm:qq h []=some []:=by simp [qq]
@[simp] theorem a33 (v:V) (vs:List V):qq h (v::vs)=(toD h v).bind (kDs h vs):=by simp only [qq]; rfl
def adp (e:Env) (as:List Arg) (v:V):Option (List V):=(e.args as).map (List.cons v)
@[simp] theorem ajk (as:List Arg) (v:V):adp e as v=(e.args as).map (List.cons v):=rfl
@[simp] theorem ajr:e.args []=some []:=rfl
@[simp] theorem ahl (a:Arg) (as:List Arg):e.args (a::as)=(e.arg a).bind (adp e as):=rfl
def kMv (h:Heap) (v:V):V×Heap:=(v,h)
@[simp] theorem ao3 (v:V):kMv h v=(v,h):=rfl
@[simp] theorem aq0 (x:Arg):bc O np e h (.mv x)=(e.arg x).map (kMv h):=rfl
def afd (h:Heap):V→Option (V×Heap)
 | .d (.ip y)=>some (.d (.ip y),h)
 | .ptr i p=>some (.ptr i p,h)
 | _=>none
@[simp] theorem aoq (y:D):afd h (.d (.ip y))=some (.d (.ip y),h):=rfl
@[simp] theorem aof (i:Nat) (p:List Nat):afd h (.ptr i p)=some (.ptr i p,h):=rfl
@[simp] theorem aor (x:Arg):bc O np e h (.chk x)=(e.arg x).bind (afd h):=by
 simp only [bc];cases e.arg x with
 | none=>rfl
 | some v=>cases v <;> try rfl
           rename_i d; cases d <;> rfl
def adm (e:Env) (h:Heap) (a b:Arg):V→Option (V×Heap)
 | .d (.bool t)=>(e.arg (if t then a else b)).map (kMv h)
 | _=>none
@[simp] theorem am1 (a b:Arg) (t:Bool):adm e h a b (.d (.bool t))=(e.arg (if t then a else b)).map (kMv h):=rfl
@[simp] theorem amb (c a b:Arg):bc O np e h (.pick c a b)=(e.arg c).bind (adm e h a b):=by
 simp only [bc];cases e.arg c with
 | none=>rfl
 | some v=>cases v <;> try rfl
           rename_i d; cases d <;> rfl
def a5l (i:Nat) (d:D) (h:Heap):Option (V×Heap):=(ig h i (.box false d)).map (Prod.mk (.ptr i []))
@[simp] theorem aim (i:Nat) (d:D):a5l i d h=(ig h i (.box false d)).map (Prod.mk (.ptr i [])):=rfl
def a8b (np:Nat) (h:Heap) (fz:Bool) (i:Nat) (rs:List Nat) (d:D):Option (V×Heap):=(freezeIf fz h rs).bind (a5l (np+i) d)
@[simp] theorem al6 (fz:Bool) (i:Nat) (rs:List Nat) (d:D):a8b np h fz i rs d=(freezeIf fz h rs).bind (a5l (np+i) d):=rfl
def ak8 (np:Nat) (h:Heap) (fz:Bool) (i:Nat) (v:V):Option (V×Heap):=(Ba h v).bind (a8b np h fz i v.refs)
@[simp] theorem amk (fz:Bool) (i:Nat) (v:V):ak8 np h fz i v=(Ba h v).bind (a8b np h fz i v.refs):=rfl
@[simp] theorem ao7 (fz:Bool) (i:Nat) (x:Arg):bc O np e h (.box fz i x)=(e.arg x).bind (ak8 np h fz i):=rfl
def Nh (h:Heap) (s:Sh) (x:D):Option (V×Heap):=if Sh.beq x.sh s then some (.d x,h) else none
@[simp] theorem agn (s:Sh) (x:D):Nh h s x=if Sh.beq x.sh s then some (.d x,h) else none:=rfl
def a6n (h:Heap) (s:Sh):V→Option (V×Heap)
 | .d (.ip x)=>Nh h s x
 | .ptr i p=>((h[i]?).bind (Iy p)).bind (Nh h s)
 | _=>none
@[simp] theorem amn (s:Sh) (x:D):a6n h s (.d (.ip x))=Nh h s x:=rfl
@[simp] theorem ams (s:Sh) (i:Nat) (p:List Nat):a6n h s (.ptr i p)=((h[i]?).bind (Iy p)).bind (Nh h s):=rfl
@[simp] theorem am8 (s:Sh) (x:Arg):bc O np e h (.load s x)=(e.arg x).bind (a6n h s):=by
 simp only [bc];cases e.arg x with
 | none=>rfl
 | some v=>cases v <;> try rfl
           rename_i d; cases d <;> rfl
def aaw (h:Heap) (o:BinOp):V→V→Option (V×Heap)
 | .d a,.d b=>(vh o a b).map fun r=>(.d r,h)
 | _,_=>none
def kD (h:Heap) (r:D):V×Heap:=(.d r,h)
@[simp] theorem aq6 (r:D):kD h r=(.d r,h):=rfl
@[simp] theorem an4 (o:BinOp) (a b:D):aaw h o (.d a) (.d b)=(vh o a b).map (kD h):=rfl
def a0n (e:Env) (h:Heap) (o:BinOp) (y:Arg) (v:V):Option (V×Heap):=(e.arg y).bind (aaw h o v)
@[simp] theorem aiy (o:BinOp) (y:Arg) (v:V):a0n e h o y v=(e.arg y).bind (aaw h o v):=rfl
@[simp] theorem apy (o:BinOp) (x y:Arg):bc O np e h (.bin o x y)=(e.arg x).bind (a0n e h o y):=by
 simp only [bc];cases e.arg x with
 | none=>rfl
 | some v=>
  cases hy:e.arg y with
  | none=>cases v <;> simp [a0n,hy]
  | some w=>cases v <;> cases w <;> simp [a0n,hy,aaw]
theorem two {α:Type} {x y:Option V} {f:V→V→Option α} {g:Option α} (h1:∀v w,x=some v→y=some w→g=f v w) (h2:x=none∨y=none→g=none):g=x.bind fun v=>y.bind (f v):=by
 cases hx:x with
 | none=>exact h2 (.inl hx)
 | some v=>
  cases hy:y with
  | none=>exact h2 (.inr hy)
  | some w=>exact h1 v w hx hy
def kUn (h:Heap) (o:UnOp):V→Option (V×Heap)
 | .d a=>(unD o a).map (kD h)
 | _=>none
@[simp] theorem apz (o:UnOp) (a:D):kUn h o (.d a)=(unD o a).map (kD h):=rfl
@[simp] theorem aq2 (o:UnOp) (x:Arg):bc O np e h (.un o x)=(e.arg x).bind (kUn h o):=by
 simp only [bc];cases e.arg x with
 | none=>rfl
 | some v=>cases v <;> rfl
def ad7 (h:Heap) (k:IntKind):V→Option (V×Heap)
 | .d (.int _ n)=>some (.d (.int k (k.wrap n)),h)
 | _=>none
@[simp] theorem am7 (k q:IntKind) (n:Int):ad7 h k (.d (.int q n))=some (.d (.int k (k.wrap n)),h):=rfl
@[simp] theorem ami (k:IntKind) (x:Arg):bc O np e h (.conv k x)=(e.arg x).bind (ad7 h k):=by
 simp only [bc];cases e.arg x with
 | none=>rfl
 | some v=>cases v <;> try rfl
           rename_i d; cases d <;> rfl
def al3 (h:Heap) (ss:List Sh) (j:Nat):V→Option (V×Heap)
 | .d (.st ts cs)=>if Sh.beqs ts ss then (cs[j]?).map (kD h) else none
 | _=>none
@[simp] theorem apv (ss ts:List Sh) (j:Nat) (cs:List D):al3 h ss j (.d (.st ts cs))=if Sh.beqs ts ss then (cs[j]?).map (kD h) else none:=rfl
@[simp] theorem apn (ss:List Sh) (x:Arg) (j:Nat):bc O np e h (.fld ss x j)=(e.arg x).bind (al3 h ss j):=by
 simp only [bc];cases e.arg x with
 | none=>rfl
 | some v=>cases v <;> try rfl
           rename_i d; cases d <;> rfl
def kIp (h:Heap) (c:D):V×Heap:=(.d (.ip c),h)
@[simp] theorem aoo (c:D):kIp h c=(.d (.ip c),h):=rfl
def Xr (h:Heap) (ss:List Sh) (i:Nat) (p:List Nat) (y:D):Option (V×Heap):=if Sh.beq y.sh (.st ss) then some (.ptr i p,h) else none
@[simp] theorem ah8 (ss:List Sh) (i:Nat) (p:List Nat) (y:D):Xr h ss i p y=if Sh.beq y.sh (.st ss) then some (.ptr i p,h) else none:=rfl
def a7s (h:Heap) (ss:List Sh) (j:Nat):V→Option (V×Heap)
 | .ptr i p=>((h[i]?).bind (Iy p)).bind (Xr h ss i (p++[j]))
 | .d (.ip (.st ts cs))=>if Sh.beqs ts ss then (cs[j]?).map (kIp h) else none
 | _=>none
@[simp] theorem amt (ss:List Sh) (j i:Nat) (p:List Nat):a7s h ss j (.ptr i p)=((h[i]?).bind (Iy p)).bind (Xr h ss i (p++[j])):=rfl
@[simp] theorem alf (ss ts:List Sh) (j:Nat) (cs:List D):a7s h ss j (.d (.ip (.st ts cs)))=if Sh.beqs ts ss then (cs[j]?).map (kIp h) else none:=rfl
@[simp] theorem am0 (ss:List Sh) (x:Arg) (j:Nat):bc O np e h (.fldA ss x j)=(e.arg x).bind (a7s h ss j):=by
 simp only [bc];cases e.arg x with
 | none=>rfl
 | some v=>cases v <;> try rfl
           rename_i d; cases d <;> try rfl
           rename_i d; cases d <;> rfl
def af0 (h:Heap) (j:Nat):V→Option (V×Heap)
 | .d (.tup vs)=>(vs[j]?).map (kD h)
 | .tup vs=>(vs[j]?).map (kMv h)
 | _=>none
@[simp] theorem anj (j:Nat) (vs:List D):af0 h j (.d (.tup vs))=(vs[j]?).map (kD h):=rfl
@[simp] theorem ao9 (j:Nat) (vs:List V):af0 h j (.tup vs)=(vs[j]?).map (kMv h):=rfl
@[simp] theorem an5 (x:Arg) (j:Nat):bc O np e h (.ext x j)=(e.arg x).bind (af0 h j):=by
 simp only [bc];cases e.arg x with
 | none=>rfl
 | some v=>cases v <;> try rfl
           rename_i d; cases d <;> rfl
def abx (h:Heap):Bool→V→Option (V×Heap)
 | false,.d (.sl _ cs)=>some (.d (.int .i64 cs.length),h)
 | false,.sl _ _ _ n _=>some (.d (.int .i64 n),h)
 | true,.d (.str b)=>some (.d (.int .i64 b.size),h)
 | _,_=>none
@[simp] theorem ani (s:Sh) (cs:List D):abx h false (.d (.sl s cs))=some (.d (.int .i64 cs.length),h):=rfl
@[simp] theorem anf (i:Nat) (p:List Nat) (off n:Nat) (cap:Option Nat):abx h false (.sl i p off n cap)=some (.d (.int .i64 n),h):=rfl
@[simp] theorem apj (b:ByteArray):abx h true (.d (.str b))=some (.d (.int .i64 b.size),h):=rfl
@[simp] theorem ao0 (str:Bool) (x:Arg):bc O np e h (.len str x)=(e.arg x).bind (abx h str):=by
 cases str <;> simp only [bc]
 ·cases e.arg x with
  | none=>rfl
  | some v=>cases v <;> try rfl
            rename_i d; cases d <;> rfl
 ·cases e.arg x with
  | none=>rfl
  | some v=>cases v <;> try rfl
            rename_i d; cases d <;> rfl
def Et (O:ap) (np:Nat) (h:Heap) (m:Mode) (news:List Nat) (g:Nat×List V×List V) (vs:List V):Option (V×Heap):=
 match m with
 | .heap=>ov O np news h g.1 (g.2.1++vs++g.2.2)
 | _=>ka O m h g.1 (g.2.1++vs++g.2.2)
def Qw (O:ap) (np:Nat) (e:Env) (h:Heap) (m:Mode) (news:List Nat) (as:List Arg) (g:Nat×List V×List V):Option (V×Heap):=(e.args as).bind (Et O np h m news g)
@[simp] theorem ags (m:Mode) (news:List Nat) (as:List Arg) (g:Nat×List V×List V):Qw O np e h m news as g=(e.args as).bind (Et O np h m news g):=rfl
def Yu (O:ap) (np:Nat) (e:Env) (h:Heap) (m:Mode) (news:List Nat) (as:List Arg) (fv:V):Option (V×Heap):=(callee fv).bind (Qw O np e h m news as)
@[simp] theorem ahh (m:Mode) (news:List Nat) (as:List Arg) (fv:V):Yu O np e h m news as fv=(callee fv).bind (Qw O np e h m news as):=rfl
@[simp] theorem amp (m:Mode) (news:List Nat) (f:Arg) (as:List Arg):bc O np e h (.call m news f as)=(e.arg f).bind (Yu O np e h m news as):=by
 simp only [bc];cases e.arg f with
 | none=>rfl
 | some fv=>
  simp only [ae,Yu];cases callee fv with
  | none=>rfl
  | some g=>
   simp only [ae,Qw];cases e.args as with
   | none=>rfl
   | some vs=>cases m <;> rfl
def a2z (m:Mode) (h:Heap) (rs:List Nat) (x:D):Option (V×Heap):=
 match m with
 | .flat=>if x.flat then some (.d x,h) else none
 | .plain=>if rs.isEmpty then some (.d x,h) else none
 | _=>some (.d x,freeze h rs)
@[simp] theorem Hr (rs:List Nat) (x:D):a2z .flat h rs x=if x.flat then some (.d x,h) else none:=rfl
@[simp] theorem ag0 (rs:List Nat) (x:D):a2z .plain h rs x=if rs.isEmpty then some (.d x,h) else none:=rfl
@[simp] theorem agr (rs:List Nat) (x:D):a2z .data h rs x=some (.d x,freeze h rs):=rfl
def agk (m:Mode) (h:Heap) (rs:List Nat):Ans→Option (V×Heap)
 | (v,_,nb)=>(toD nb v).bind (a2z m h rs)
@[simp] theorem alh (m:Mode) (rs:List Nat) (v:V) (bs nb:Heap):agk m h rs (v,bs,nb)=(toD nb v).bind (a2z m h rs):=rfl
def Wq (O:ap) (m:Mode) (h:Heap) (f:Nat) (rs:List Nat) (ds:List D):Option (V×Heap):=(O f (ds.map .d) []).bind (agk m h rs)
def ads:Ans→Option D
 | (v,_,nb)=>toD nb v
@[simp] theorem amf (v:V) (bs nb:Heap):ads (v,bs,nb)=toD nb v:=rfl
def ask (O:ap) (f:Nat) (ds:List D):Option D:=(O f (ds.map .d) []).bind ads
@[simp] theorem Nx (m:Mode) (f:Nat) (rs:List Nat) (ds:List D):Wq O m h f rs ds=(ask O f ds).bind (a2z m h rs):=by
 unfold Wq ask;cases O f (ds.map .d) [] with
 | none=>rfl
 | some r=>obtain ⟨v,bs,nb⟩:=r; rfl
theorem Ag (m:Mode) (f:Nat) (vs:List V):ka O m h f vs=(qq h vs).bind (Wq O m h f (V.refss vs)):=by
 unfold ka;cases qq h vs with
 | none=>rfl
 | some ds=>
  simp only [ae,Wq];cases O f (ds.map .d) [] with
  | none=>rfl
  | some r=>
   obtain ⟨v,bs,nb⟩:=r;simp only [ae,agk];cases toD nb v with
   | none=>rfl
   | some x=>cases m <;> rfl
@[simp] theorem Dp (news:List Nat) (f:Nat) (a c vs:List V):Et O np h .flat news (f,a,c) vs=(qq h (a++vs++c)).bind (Wq O .flat h f (V.refss (a++vs++c))):=by
 show ka O .flat h f (a++vs++c)=_;exact Ag _ _ _
@[simp] theorem ad5 (news:List Nat) (f:Nat) (a c vs:List V):Et O np h .plain news (f,a,c) vs=(qq h (a++vs++c)).bind (Wq O .plain h f (V.refss (a++vs++c))):=by
 show ka O .plain h f (a++vs++c)=_;exact Ag _ _ _
@[simp] theorem af2 (news:List Nat) (f:Nat) (a c vs:List V):Et O np h .data news (f,a,c) vs=(qq h (a++vs++c)).bind (Wq O .data h f (V.refss (a++vs++c))):=by
 show ka O .data h f (a++vs++c)=_;exact Ag _ _ _
@[simp] theorem agb (news:List Nat) (f:Nat) (a c vs:List V):Et O np h .heap news (f,a,c) vs=ov O np news h f (a++vs++c):=rfl
def aec (h:Heap) (i:Nat) (b:Blk):V×Heap:=(.tup [],h.set i b)
@[simp] theorem an0 (i:Nat) (b:Blk):aec h i b=(.tup [],h.set i b):=rfl
def agi (h:Heap) (i:Nat) (p:List Nat) (d:D) (b:Blk):Option (V×Heap):=(b.set p d).map (aec h i)
@[simp] theorem am9 (i:Nat) (p:List Nat) (d:D) (b:Blk):agi h i p d b=(b.set p d).map (aec h i):=rfl
def Rd (s:Sh) (d:D) (h:Heap):V→Option (V×Heap)
 | .ptr i p=>if Sh.beq d.sh s then (h[i]?).bind (agi h i p d) else none
 | _=>none
@[simp] theorem aho (s:Sh) (d:D) (i:Nat) (p:List Nat):Rd s d h (.ptr i p)=if Sh.beq d.sh s then (h[i]?).bind (agi h i p d) else none:=rfl
def Ji (e:Env) (s:Sh) (p:Arg) (d:D) (h:Heap):Option (V×Heap):=(e.arg p).bind (Rd s d h)
@[simp] theorem af5 (s:Sh) (p:Arg) (d:D):Ji e s p d h=(e.arg p).bind (Rd s d h):=rfl
def Jp (e:Env) (h:Heap) (fz:Bool) (s:Sh) (p:Arg) (rs:List Nat) (d:D):Option (V×Heap):=(freezeIf fz h rs).bind (Ji e s p d)
@[simp] theorem afi (fz:Bool) (s:Sh) (p:Arg) (rs:List Nat) (d:D):Jp e h fz s p rs d=(freezeIf fz h rs).bind (Ji e s p d):=rfl
def Xj (e:Env) (h:Heap) (fz:Bool) (s:Sh) (p:Arg) (v:V):Option (V×Heap):=(Ba h v).bind (Jp e h fz s p v.refs)
@[simp] theorem ahn (fz:Bool) (s:Sh) (p:Arg) (v:V):Xj e h fz s p v=(Ba h v).bind (Jp e h fz s p v.refs):=rfl
@[simp] theorem aiu (fz:Bool) (s:Sh) (p x:Arg):bc O np e h (.store fz s p x)=(e.arg x).bind (Xj e h fz s p):=by
 simp only [bc];cases e.arg x with
 | none=>rfl
 | some v=>
  simp only [ae,Xj];cases Ba h v with
  | none=>rfl
  | some d=>
   simp only [ae,Jp];cases freezeIf fz h v.refs with
   | none=>rfl
   | some h'=>
    simp only [ae,Ji];cases e.arg p with
    | none=>rfl
    | some w=>cases w <;> rfl
def Wm (h:Heap) (s:Sh) (n:Nat) (i:Nat) (_p:List Nat) (k:Nat) (pp:List Nat) (q:Sh×List D):Option (V×Heap):=if Sh.beq q.1 s∧k<n then some (.ptr i pp,h) else none
@[simp] theorem agw (s:Sh) (n i:Nat) (p:List Nat) (k:Nat) (pp:List Nat) (t:Sh) (cs:List D):Wm h s n i p k pp (t,cs)=if Sh.beq t s∧k<n then some (.ptr i pp,h) else none:=rfl
def a0k (h:Heap) (s:Sh):V→Nat→Option (V×Heap)
 | .sl i p off n _,k=>((h[i]?).bind (kEl p)).bind (Wm h s n i p k (p++[off+k]))
 | .d (.sl t cs),k=>if Sh.beq t s then (cs[k]?).map (kIp h) else none
 | _,_=>none
@[simp] theorem amd (s:Sh) (i:Nat) (p:List Nat) (off n:Nat) (cap:Option Nat) (k:Nat):a0k h s (.sl i p off n cap) k=((h[i]?).bind (kEl p)).bind (Wm h s n i p k (p++[off+k])):=rfl
@[simp] theorem amq (s t:Sh) (cs:List D) (k:Nat):a0k h s (.d (.sl t cs)) k=if Sh.beq t s then (cs[k]?).map (kIp h) else none:=rfl
def Wh (e:Env) (h:Heap) (s:Sh) (j:Arg) (v:V):Option (V×Heap):=((e.arg j).bind V.nat?).bind (a0k h s v)
@[simp] theorem ah0 (s:Sh) (j:Arg) (v:V):Wh e h s j v=((e.arg j).bind V.nat?).bind (a0k h s v):=rfl
@[simp] theorem al8 (s:Sh) (x j:Arg):bc O np e h (.idxA none s x j)=(e.arg x).bind (Wh e h s j):=by
 simp only [bc];cases e.arg x with
 | none=>rfl
 | some v=>
  simp only [ae,Wh];cases (e.arg j).bind V.nat? with
  | none=>cases v <;> try rfl
          rename_i d; cases d <;> rfl
  | some k=>cases v <;> try rfl
            rename_i d; cases d <;> rfl
@[simp] theorem abs (s:St):i6 O np [] s=some s:=rfl
@[simp] theorem aac (i:Ins) (is:List Ins) (s:St):i6 O np (i::is) s=(ni O np s i).bind (i6 O np is):=rfl
@[simp] theorem agy (i:Nat) (s:Sh):bc O np e h (.nilOwn i s)=(ig h (np+i) (.sl false s [])).map (Prod.mk (.sl (np+i) [] 0 0 (some 0))):=rfl
@[simp] theorem alr:bc O np e h .fail=none:=rfl
def W6 (h:Heap) (f:Nat) (us vs:List V):V×Heap:=(.fn f us vs,h)
@[simp] theorem agx (f:Nat) (us vs:List V):W6 h f us vs=(.fn f us vs,h):=rfl
def ad9 (e:Env) (h:Heap) (f:Nat) (cs:List Arg) (us:List V):Option (V×Heap):=(e.args cs).map (W6 h f us)
@[simp] theorem ahy (f:Nat) (cs:List Arg) (us:List V):ad9 e h f cs us=(e.args cs).map (W6 h f us):=rfl
@[simp] theorem amv (f:Nat) (as cs:List Arg):bc O np e h (.mkFn f as cs)=(e.args as).bind (ad9 e h f cs):=rfl
def a73 (h:Heap):V→V→Option (V×Heap)
 | .d (.int k a),.d (.int k' b)=>if k=k' then some (.d (.int k (if a<b then b else a)),h) else none
 | _,_=>none
@[simp] theorem al7 (k k':IntKind) (a b:Int):a73 h (.d (.int k a)) (.d (.int k' b))=if k=k' then some (.d (.int k (if a<b then b else a)),h) else none:=rfl
def agm (e:Env) (h:Heap) (y:Arg) (v:V):Option (V×Heap):=(e.arg y).bind (a73 h v)
@[simp] theorem amj (y:Arg) (v:V):agm e h y v=(e.arg y).bind (a73 h v):=rfl
@[simp] theorem ame (x y:Arg):bc O np e h (.maxI x y)=(e.arg x).bind (agm e h y):=by
 simp only [bc];cases e.arg x with
 | none=>rfl
 | some v=>
  simp only [ae,agm];cases e.arg y with
  | none=>cases v <;> try rfl
          rename_i d; cases d <;> rfl
  | some w=>cases v <;> try rfl
            rename_i d; cases d <;> try rfl
            cases w <;> try rfl
            rename_i d; cases d <;> rfl
def aa5 (h:Heap):V→V→Option (V×Heap)
 | .d (.int k a),.d (.int k' b)=>if k=k' then some (.d (.int k (if b<a then b else a)),h) else none
 | _,_=>none
@[simp] theorem am4 (k k':IntKind) (a b:Int):aa5 h (.d (.int k a)) (.d (.int k' b))=if k=k' then some (.d (.int k (if b<a then b else a)),h) else none:=rfl
def afr (e:Env) (h:Heap) (y:Arg) (v:V):Option (V×Heap):=(e.arg y).bind (aa5 h v)
@[simp] theorem alm (y:Arg) (v:V):afr e h y v=(e.arg y).bind (aa5 h v):=rfl
@[simp] theorem am6 (x y:Arg):bc O np e h (.minI x y)=(e.arg x).bind (afr e h y):=by
 simp only [bc];cases e.arg x with
 | none=>rfl
 | some v=>
  simp only [ae,afr];cases e.arg y with
  | none=>cases v <;> try rfl
          rename_i d; cases d <;> rfl
  | some w=>cases v <;> try rfl
            rename_i d; cases d <;> try rfl
            cases w <;> try rfl
            rename_i d; cases d <;> rfl
def a60 (h:Heap) (neg:Bool):V→Option (V×Heap)
 | .d (.sl _ (_::_))=>some (.d (.bool neg),h)
 | .sl _ _ _ (_+1) _=>some (.d (.bool neg),h)
 | _=>none
@[simp] theorem am5 (neg:Bool) (s:Sh) (c:D) (cs:List D):a60 h neg (.d (.sl s (c::cs)))=some (.d (.bool neg),h):=rfl
@[simp] theorem amo (neg:Bool) (i:Nat) (p:List Nat) (off n:Nat) (cap:Option Nat):a60 h neg (.sl i p off (n+1) cap)=some (.d (.bool neg),h):=rfl
def Wk (np:Nat) (h:Heap) (i:Nat) (s:Sh) (z:D) (bytes n m:Nat):Option (V×Heap):=
 if n≤m∧m*bytes≤1099511627776 then (ig h (np+i) (.sl false s (List.replicate n z))).map (Prod.mk (.sl (np+i) [] 0 n (if n=m then some n else none))) else none
@[simp] theorem ah1 (i:Nat) (s:Sh) (z:D) (bytes n m:Nat):Wk np h i s z bytes n m =
 if n≤m∧m*bytes≤1099511627776 then (ig h (np+i) (.sl false s (List.replicate n z))).map (Prod.mk (.sl (np+i) [] 0 n (if n=m then some n else none))) else none:=rfl
def a8p (np:Nat) (e:Env) (h:Heap) (i:Nat) (s:Sh) (z:D) (bytes:Nat) (c:Arg) (n:Nat):Option (V×Heap):=((e.arg c).bind V.nat?).bind (Wk np h i s z bytes n)
@[simp] theorem ain (i:Nat) (s:Sh) (z:D) (bytes:Nat) (c:Arg) (n:Nat):a8p np e h i s z bytes c n=((e.arg c).bind V.nat?).bind (Wk np h i s z bytes n):=rfl
@[simp] theorem alk (i:Nat) (s:Sh) (z:D) (bytes:Nat) (l c:Arg):bc O np e h (.mkSl i s z bytes l c)=((e.arg l).bind V.nat?).bind (a8p np e h i s z bytes c):=by
 simp only [bc];cases (e.arg l).bind V.nat? with
 | none=>rfl
 | some n=>
  simp only [ae,a8p];cases (e.arg c).bind V.nat? with
  | none=>rfl
  | some m=>rfl
@[simp] theorem aln (neg:Bool) (x:Arg):bc O np e h (.nilq neg x)=(e.arg x).bind (a60 h neg):=by
 simp only [bc];cases e.arg x with
 | none=>rfl
 | some v=>
  cases v with
  | d d=>cases d <;> try rfl
         rename_i s cs; cases cs <;> rfl
  | sl i p off n cap=>cases n <;> rfl
  | _=>rfl
def a7h (h:Heap):D→Option (V×Heap)
 | .sl .leaf cs=>(ze cs).map fun bs=>(.d (.str ⟨bs.toArray⟩),h)
 | _=>none
@[simp] theorem an1 (cs:List D):a7h h (.sl .leaf cs)=(ze cs).map fun bs=>(.d (.str ⟨bs.toArray⟩),h):=rfl
def ak0 (h:Heap) (v:V):Option (V×Heap):=(toE h v).bind (a7h h)
@[simp] theorem amz (v:V):ak0 h v=(toE h v).bind (a7h h):=rfl
@[simp] theorem al4 (x:Arg):bc O np e h (.toStr x)=(e.arg x).bind (ak0 h):=rfl
def Re (h:Heap) (s:Sh) (z:D) (j off n:Nat):Blk→Option (V×Heap)
 | .sl false t' cs=>if Sh.beq t' s∧off+n≤cs.length then some (.tup [],h.set j (.sl false t' (cs.take off++List.replicate n z++cs.drop (off+n)))) else none
 | _=>none
@[simp] theorem ah7 (s:Sh) (z:D) (j off n:Nat) (t':Sh) (cs:List D):Re h s z j off n (.sl false t' cs)=if Sh.beq t' s∧off+n≤cs.length then some (.tup [],h.set j (.sl false t' (cs.take off++List.replicate n z++cs.drop (off+n)))) else none:=rfl
def Ya (h:Heap) (s:Sh) (z:D):V→Option (V×Heap)
 | .sl j [] off n _=>(h[j]?).bind (Re h s z j off n)
 | _=>none
@[simp] theorem ai3 (s:Sh) (z:D) (j off n:Nat) (cap:Option Nat):Ya h s z (.sl j [] off n cap)=(h[j]?).bind (Re h s z j off n):=rfl
@[simp] theorem aj1 (s:Sh) (z:D) (x:Arg):bc O np e h (.clear s z x)=(e.arg x).bind (Ya h s z):=by
 simp only [bc];cases e.arg x with
 | none=>rfl
 | some v=>
  cases v <;> try rfl
  rename_i j p off n cap
  cases p <;> try rfl
  simp only [ae,Ya];cases h[j]? with
  | none=>rfl
  | some b=>
   cases b <;> try rfl
   rename_i fr t cs
   cases fr <;> rfl
def a5s (np:Nat) (h:Heap) (i j n:Nat):Blk→Option (V×Heap)
 | .sl false s cs=>if n=cs.length∧0<n∧np≤j then (ig (h.set j (Blk.toGone (.sl false s cs))) (np+i) (.tb false s [0] [cs])).map (Prod.mk (.sl (np+i) [0] 0 1 (some 1))) else none
 | _=>none
@[simp] theorem alb (i j n:Nat) (s:Sh) (cs:List D):a5s np h i j n (.sl false s cs)=if n=cs.length∧0<n∧np≤j then (ig (h.set j (Blk.toGone (.sl false s cs))) (np+i) (.tb false s [0] [cs])).map (Prod.mk (.sl (np+i) [0] 0 1 (some 1))) else none:=rfl
def aev (np:Nat) (h:Heap) (i:Nat):V→Option (V×Heap)
 | .sl j [] 0 n _=>(h[j]?).bind (a5s np h i j n)
 | _=>none
@[simp] theorem apr (i j n:Nat) (cap:Option Nat):aev np h i (.sl j [] 0 n cap)=(h[j]?).bind (a5s np h i j n):=rfl
@[simp] theorem aj4 (i:Nat) (x:Arg):bc O np e h (.tbOne i x)=(e.arg x).bind (aev np h i):=by
 simp only [bc];cases e.arg x with
 | none=>rfl
 | some v=>
  cases v <;> try rfl
  rename_i j p off n cap
  cases p <;> try rfl
  cases off <;> try rfl
  simp only [ae,aev];cases h[j]? with
  | none=>rfl
  | some b=>
   cases b <;> try rfl
   rename_i fr t cs
   cases fr <;> rfl
def Xe (np:Nat) (h:Heap) (bytes j n k:Nat) (s:Sh) (cs:List D) (q:List Nat×List (List D)):Option (V×Heap):=
 if n=q.1.length∧j≠k∧np≤j∧np≤k∧(n+1)*bytes≤1099511627776 then
  some (.sl j [0] 0 (n+1) none,(h.set k (Blk.toGone (.tb false s [0] [cs]))).set j (.tb false s (q.1++[q.2.length]) (q.2++[cs]))) else none
@[simp] theorem ah9 (bytes j n k:Nat) (s:Sh) (cs:List D) (idx:List Nat) (rows:List (List D)):Xe np h bytes j n k s cs (idx,rows) =
 if n=idx.length∧j≠k∧np≤j∧np≤k∧(n+1)*bytes≤1099511627776 then
  some (.sl j [0] 0 (n+1) none,(h.set k (Blk.toGone (.tb false s [0] [cs]))).set j (.tb false s (idx++[rows.length]) (rows++[cs]))) else none:=rfl
def Rt (np:Nat) (h:Heap) (bytes j:Nat) (p:List Nat) (n:Nat) (cap:Option Nat) (k:Nat) (B:Blk):Blk→Option (V×Heap)
 | .tb false s [0] [cs]=>(Blk.asTb s p cap B).bind (Xe np h bytes j n k s cs)
 | _=>none
@[simp] theorem akk (bytes j:Nat) (p:List Nat) (n:Nat) (cap:Option Nat) (k:Nat) (B:Blk) (s:Sh) (cs:List D):Rt np h bytes j p n cap k B (.tb false s [0] [cs])=(Blk.asTb s p cap B).bind (Xe np h bytes j n k s cs):=rfl
@[simp] theorem aiv (s:Sh):Blk.asTb s [] (some 0) (.sl false .leaf [])=some ([],[]):=rfl
@[simp] theorem alu (s s':Sh) (cap:Option Nat) (idx:List Nat) (rows:List (List D)):Blk.asTb s [0] cap (.tb false s' idx rows)=if Sh.beq s' s then some (idx,rows) else none:=rfl
def Rq (np:Nat) (h:Heap) (bytes j:Nat) (p:List Nat) (n:Nat) (cap:Option Nat) (k:Nat) (B:Blk):Option (V×Heap):=(h[k]?).bind (Rt np h bytes j p n cap k B)
@[simp] theorem aha (bytes j:Nat) (p:List Nat) (n:Nat) (cap:Option Nat) (k:Nat) (B:Blk):Rq np h bytes j p n cap k B=(h[k]?).bind (Rt np h bytes j p n cap k B):=rfl
def a0o (np:Nat) (h:Heap) (bytes:Nat):V→V→Option (V×Heap)
 | .sl j p 0 n cap,.sl k [0] 0 1 _=>(h[j]?).bind (Rq np h bytes j p n cap k)
 | _,_=>none
@[simp] theorem amw (bytes j:Nat) (p:List Nat) (n:Nat) (cap:Option Nat) (k:Nat) (cap':Option Nat):a0o np h bytes (.sl j p 0 n cap) (.sl k [0] 0 1 cap')=(h[j]?).bind (Rq np h bytes j p n cap k):=rfl
def Yp (np:Nat) (e:Env) (h:Heap) (bytes:Nat) (y:Arg) (v:V):Option (V×Heap):=(e.arg y).bind (a0o np h bytes v)
@[simp] theorem ahm (bytes:Nat) (y:Arg) (v:V):Yp np e h bytes y v=(e.arg y).bind (a0o np h bytes v):=rfl
@[simp] theorem aip (bytes:Nat) (x y:Arg):bc O np e h (.tbApp bytes x y)=(e.arg x).bind (Yp np e h bytes y):=by
 simp only [bc];cases e.arg x with
 | none=>rfl
 | some v=>
  simp only [ae,Yp];cases e.arg y with
  | none=>split <;> simp_all
  | some w=>
   simp only [ae];unfold a0o
   split
   ·rename_i j p n cap k cap' h1 h2
    simp only [a9] at h1 h2;subst h1; subst h2;simp only;cases hj:h[j]? with
    | none=>rfl
    | some B=>
     simp only [ae,Rq];cases hk:h[k]? with
     | none=>rfl
     | some B2=>
      simp only [ae];unfold Rt
      split
      ·rename_i s cs h1 h2
       simp only [a9] at h1 h2;subst h1; subst h2;rfl
      ·rename_i hne
       split
       ·exact absurd rfl (hne _ _ _ rfl)
       ·rfl
   ·rename_i hne
    split
    ·rename_i h1 h2
     exact absurd rfl (hne _ _ _ _ _ _ rfl)
    ·rfl
def a5m (h:Heap) (i off n k:Nat):Blk→Option (V×Heap)
 | .tb _ _ idx _=>if k<n∧off+n≤idx.length then some (.ptr i [0,off+k],h) else none
 | _=>none
@[simp] theorem amc (i off n k:Nat) (fr:Bool) (s:Sh) (idx:List Nat) (rows:List (List D)):a5m h i off n k (.tb fr s idx rows)=if k<n∧off+n≤idx.length then some (.ptr i [0,off+k],h) else none:=rfl
def a0s (h:Heap):V→Nat→Option (V×Heap)
 | .sl i [0] off n _,k=>(h[i]?).bind (a5m h i off n k)
 | _,_=>none
@[simp] theorem al9 (i off n:Nat) (cap:Option Nat) (k:Nat):a0s h (.sl i [0] off n cap) k=(h[i]?).bind (a5m h i off n k):=rfl
def af1 (e:Env) (h:Heap) (j:Arg) (v:V):Option (V×Heap):=((e.arg j).bind V.nat?).bind (a0s h v)
@[simp] theorem an2 (j:Arg) (v:V):af1 e h j v=((e.arg j).bind V.nat?).bind (a0s h v):=rfl
@[simp] theorem aoc (x j:Arg):bc O np e h (.tbA x j)=(e.arg x).bind (af1 e h j):=by
 simp only [bc];cases e.arg x with
 | none=>rfl
 | some v=>
  simp only [ae,af1];cases (e.arg j).bind V.nat? with
  | none=>split <;> simp_all
  | some k=>
   simp only [ae];unfold a0s
   split
   ·rename_i i off n cap k' h1 h2
    simp only [a9] at h1 h2;subst h1; subst h2;simp only;cases h[i]? with
    | none=>rfl
    | some b=>cases b <;> rfl
   ·rename_i hne
    split
    ·exact absurd rfl (hne _ _ _ _ _ rfl)
    ·rfl
def aa8 (h:Heap) (i r:Nat) (cs:List D):V×Heap:=(.sl i [r+1] 0 cs.length none,h)
@[simp] theorem ak6 (i r:Nat) (cs:List D):aa8 h i r cs=(.sl i [r+1] 0 cs.length none,h):=rfl
def a7y (h:Heap) (i:Nat) (rows:List (List D)) (r:Nat):Option (V×Heap):=(rows[r]?).map (aa8 h i r)
@[simp] theorem ak5 (i:Nat) (rows:List (List D)) (r:Nat):a7y h i rows r=(rows[r]?).map (aa8 h i r):=rfl
def aa3 (h:Heap) (i k:Nat):Blk→Option (V×Heap)
 | .tb _ _ idx rows=>(idx[k]?).bind (a7y h i rows)
 | _=>none
@[simp] theorem ama (i k:Nat) (fr:Bool) (s:Sh) (idx:List Nat) (rows:List (List D)):aa3 h i k (.tb fr s idx rows)=(idx[k]?).bind (a7y h i rows):=rfl
def afp (h:Heap):V→Option (V×Heap)
 | .ptr i [0,k]=>(h[i]?).bind (aa3 h i k)
 | _=>none
@[simp] theorem anr (i k:Nat):afp h (.ptr i [0,k])=(h[i]?).bind (aa3 h i k):=rfl
@[simp] theorem agz (x:Arg):bc O np e h (.tbLoad x)=(e.arg x).bind (afp h):=by
 simp only [bc];cases e.arg x with
 | none=>rfl
 | some v=>
  simp only [ae];unfold afp
  split
  ·rename_i i k h1
   simp only [a9] at h1;subst h1;simp only;cases h[i]? with
   | none=>rfl
   | some b=>cases b <;> rfl
  ·rename_i hne
   split
   ·exact absurd rfl (hne _ _)
   ·rfl
def a5y (h:Heap) (i k i' r n:Nat):Blk→Option (V×Heap)
 | .tb false s idx rows=>if i=i'∧k<idx.length∧0<n∧(rows[r]?).map List.length=some n then some (.tup [],h.set i (.tb false s (idx.set k r) rows)) else none
 | _=>none
@[simp] theorem am2 (i k i' r n:Nat) (s:Sh) (idx:List Nat) (rows:List (List D)):a5y h i k i' r n (.tb false s idx rows) =
 if i=i'∧k<idx.length∧0<n∧(rows[r]?).map List.length=some n then some (.tup [],h.set i (.tb false s (idx.set k r) rows)) else none:=rfl
def aav (h:Heap):V→V→Option (V×Heap)
 | .ptr i [0,k],.sl i' [r+1] 0 n _=>(h[i]?).bind (a5y h i k i' r n)
 | _,_=>none
@[simp] theorem an7 (i k i' r n:Nat) (cap:Option Nat):aav h (.ptr i [0,k]) (.sl i' [r+1] 0 n cap)=(h[i]?).bind (a5y h i k i' r n):=rfl
def a83 (e:Env) (h:Heap) (y:Arg) (v:V):Option (V×Heap):=(e.arg y).bind (aav h v)
@[simp] theorem aiq (y:Arg) (v:V):a83 e h y v=(e.arg y).bind (aav h v):=rfl
@[simp] theorem ag1 (x y:Arg):bc O np e h (.tbStore x y)=(e.arg x).bind (a83 e h y):=by
 simp only [bc];cases e.arg x with
 | none=>rfl
 | some v=>
  simp only [ae,a83];cases e.arg y with
  | none=>split <;> simp_all
  | some w=>
   simp only [ae];unfold aav
   split
   ·rename_i i k i' r n cap h1 h2
    simp only [a9] at h1 h2;subst h1; subst h2;simp only;cases h[i]? with
    | none=>rfl
    | some b=>
     cases b <;> try rfl
     rename_i fr s idx rows
     cases fr <;> rfl
   ·rename_i hne
    split
    ·exact absurd rfl (hne _ _ _ _ _ _ rfl)
    ·rfl
@[simp] theorem aie (i:Nat):bc O np e h (.mkMap i)=(ig h (np+i) (.mp false [])).map (Prod.mk (.mp (np+i))):=rfl
def Yr (h:Heap) (k:ByteArray):Blk→Option (V×Heap)
 | .mp _ es=>some (.d (.int .i64 ((Af k es).getD 0)),h)
 | _=>none
@[simp] theorem ajq (k:ByteArray) (fr:Bool) (es:List (ByteArray×Int)):Yr h k (.mp fr es)=some (.d (.int .i64 ((Af k es).getD 0)),h):=rfl
def a0c (h:Heap):V→V→Option (V×Heap)
 | .mp j,.d (.str k)=>(h[j]?).bind (Yr h k)
 | _,_=>none
@[simp] theorem ali (j:Nat) (k:ByteArray):a0c h (.mp j) (.d (.str k))=(h[j]?).bind (Yr h k):=rfl
def Xi (e:Env) (h:Heap) (k:Arg) (v:V):Option (V×Heap):=(e.arg k).bind (a0c h v)
@[simp] theorem ahv (k:Arg) (v:V):Xi e h k v=(e.arg k).bind (a0c h v):=rfl
@[simp] theorem aht (x k:Arg):bc O np e h (.mapGet x k)=(e.arg x).bind (Xi e h k):=by
 simp only [bc];cases e.arg x with
 | none=>rfl
 | some v=>
  simp only [ae,Xi];cases e.arg k with
  | none=>cases v <;> rfl
  | some w=>
   cases v <;> try rfl
   cases w <;> try rfl
   rename_i j d
   cases d <;> try rfl
   simp only [ae,a0c];cases h[j]? with
   | none=>rfl
   | some b=>cases b <;> rfl
def Xn (h:Heap) (j:Nat) (k:ByteArray) (n:Int):Blk→Option (V×Heap)
 | .mp false es=>some (.tup [],h.set j (.mp false (tj k n es)))
 | _=>none
@[simp] theorem ai2 (j:Nat) (k:ByteArray) (n:Int) (es:List (ByteArray×Int)):Xn h j k n (.mp false es)=some (.tup [],h.set j (.mp false (tj k n es))):=rfl
def a0g (h:Heap):V→V→V→Option (V×Heap)
 | .mp j,.d (.str k),.d (.int .i64 n)=>(h[j]?).bind (Xn h j k n)
 | _,_,_=>none
@[simp] theorem alt (j:Nat) (k:ByteArray) (n:Int):a0g h (.mp j) (.d (.str k)) (.d (.int .i64 n))=(h[j]?).bind (Xn h j k n):=rfl
def Rh (e:Env) (h:Heap) (y:Arg) (v w:V):Option (V×Heap):=(e.arg y).bind (a0g h v w)
@[simp] theorem ahu (y:Arg) (v w:V):Rh e h y v w=(e.arg y).bind (a0g h v w):=rfl
def Xk (e:Env) (h:Heap) (k y:Arg) (v:V):Option (V×Heap):=(e.arg k).bind (Rh e h y v)
@[simp] theorem ahi (k y:Arg) (v:V):Xk e h k y v=(e.arg k).bind (Rh e h y v):=rfl
@[simp] theorem ahe (x k y:Arg):bc O np e h (.mapSet x k y)=(e.arg x).bind (Xk e h k y):=by
 simp only [bc];cases e.arg x with
 | none=>rfl
 | some v=>
  simp only [ae,Xk];cases e.arg k with
  | none=>cases v <;> rfl
  | some w=>
   simp only [ae,Rh];cases e.arg y with
   | none=>
    cases v <;> try rfl
    cases w <;> try rfl
    rename_i j d; cases d <;> rfl
   | some u=>
    cases v <;> try rfl
    cases w <;> try rfl
    rename_i j d
    cases d <;> try rfl
    cases u <;> try rfl
    rename_i d
    cases d <;> try rfl
    rename_i kk n
    cases kk <;> try rfl
    simp only [ae,a0g];cases h[j]? with
    | none=>rfl
    | some b=>
     cases b <;> try rfl
     rename_i fr es
     cases fr <;> rfl
def a77 (np:Nat) (h:Heap) (s:Sh) (i bytes:Nat) (t:Sh) (ys:List D) (j off n:Nat) (cap:Option Nat):Blk→Option (V×Heap)
 | .sl fr t' cs=>if Sh.beq t s∧Sh.beq t' s∧off+n≤cs.length∧(n+ys.length)*bytes≤1099511627776 then
  (if fr=false∧np≤j then some (.sl j [] 0 (n+ys.length) none,h.set j (.sl false s ((cs.drop off).take n++ys)))
  else if cap=some n∧ys≠[] then (ig h (np+i) (.sl false s ((cs.drop off).take n++ys))).map (Prod.mk (.sl (np+i) [] 0 (n+ys.length) none))
  else none) else none
 | _=>none
@[simp] theorem ak9 (s:Sh) (i bytes:Nat) (t:Sh) (ys:List D) (j off n:Nat) (cap:Option Nat) (fr:Bool) (t':Sh) (cs:List D):a77 np h s i bytes t ys j off n cap (.sl fr t' cs) =
 if Sh.beq t s∧Sh.beq t' s∧off+n≤cs.length∧(n+ys.length)*bytes≤1099511627776 then
  (if fr=false∧np≤j then some (.sl j [] 0 (n+ys.length) none,h.set j (.sl false s ((cs.drop off).take n++ys)))
  else if cap=some n∧ys≠[] then (ig h (np+i) (.sl false s ((cs.drop off).take n++ys))).map (Prod.mk (.sl (np+i) [] 0 (n+ys.length) none))
  else none) else none:=rfl
def a0b (np:Nat) (h:Heap) (s:Sh) (i bytes:Nat):D→V→Option (V×Heap)
 | .sl t ys,.sl j [] off n cap=>(h[j]?).bind (a77 np h s i bytes t ys j off n cap)
 | .sl t (y::ys),.d (.nils t')=>if Sh.beq t s∧Sh.beq t' s∧(ys.length+1)*bytes≤1099511627776 then
  (ig h (np+i) (.sl false s (y::ys))).map (Prod.mk (.sl (np+i) [] 0 (ys.length+1) none)) else none
 | _,_=>none
@[simp] theorem abg (s:Sh) (i bytes:Nat) (t:Sh) (ys:List D) (j off n:Nat) (cap:Option Nat):a0b np h s i bytes (.sl t ys) (.sl j [] off n cap)=(h[j]?).bind (a77 np h s i bytes t ys j off n cap):=by
 cases ys <;> rfl
@[simp] theorem alj (s:Sh) (i bytes:Nat) (t t':Sh) (y:D) (ys:List D):a0b np h s i bytes (.sl t (y::ys)) (.d (.nils t'))=if Sh.beq t s∧Sh.beq t' s∧(ys.length+1)*bytes≤1099511627776 then
 (ig h (np+i) (.sl false s (y::ys))).map (Prod.mk (.sl (np+i) [] 0 (ys.length+1) none)) else none:=rfl
def a1v (np:Nat) (e:Env) (h:Heap) (s:Sh) (i bytes:Nat) (x:Arg) (d:D):Option (V×Heap):=(e.arg x).bind (a0b np h s i bytes d)
@[simp] theorem aif (s:Sh) (i bytes:Nat) (x:Arg) (d:D):a1v np e h s i bytes x d=(e.arg x).bind (a0b np h s i bytes d):=rfl
def afm (np:Nat) (e:Env) (h:Heap) (s:Sh) (i bytes:Nat) (x:Arg) (w:V):Option (V×Heap):=(toE h w).bind (a1v np e h s i bytes x)
@[simp] theorem amm (s:Sh) (i bytes:Nat) (x:Arg) (w:V):afm np e h s i bytes x w=(toE h w).bind (a1v np e h s i bytes x):=rfl
@[simp] theorem ahk (s:Sh) (i bytes:Nat) (x y:Arg):bc O np e h (.append s i bytes x y)=(e.arg y).bind (afm np e h s i bytes x):=by
 simp only [bc];cases e.arg y with
 | none=>rfl
 | some w=>
  simp only [ae,afm];cases toE h w with
  | none=>rfl
  | some d=>
   simp only [ae,a1v];cases e.arg x with
   | none=>cases d <;> try rfl
   | some v=>
    cases d <;> try (cases v <;> rfl)
    rename_i t ys
    cases v with
    | sl j p off n cap=>
     cases p with
     | nil=>
      simp only [ae,abg];cases h[j]? with
      | none=>rfl
      | some b=>cases b <;> rfl
     | cons _ _=>cases ys <;> rfl
    | d d=>cases ys <;> cases d <;> rfl
    | _=>cases ys <;> rfl
def a0l (h:Heap):Option Nat→Sh→V→Nat→Option (V×Heap)
 | some n,s,.d (.arr n' t cs),k=>if n'=n∧Sh.beq t s then (cs[k]?).map (kD h) else none
 | none,_,.d (.str b),k=>(b[k]?).map fun c=>(.d (.int .u8 c.toNat),h)
 | _,_,_,_=>none
@[simp] theorem amx (n n':Nat) (s t:Sh) (cs:List D) (k:Nat):a0l h (some n) s (.d (.arr n' t cs)) k=if n'=n∧Sh.beq t s then (cs[k]?).map (kD h) else none:=rfl
@[simp] theorem amy (s:Sh) (b:ByteArray) (k:Nat):a0l h none s (.d (.str b)) k=(b[k]?).map fun c=>(.d (.int .u8 c.toNat),h):=rfl
def ach (e:Env) (h:Heap) (ar:Option Nat) (s:Sh) (j:Arg) (v:V):Option (V×Heap):=((e.arg j).bind V.nat?).bind (a0l h ar s v)
@[simp] theorem ald (ar:Option Nat) (s:Sh) (j:Arg) (v:V):ach e h ar s j v=((e.arg j).bind V.nat?).bind (a0l h ar s v):=rfl
@[simp] theorem ann (ar:Option Nat) (s:Sh) (x j:Arg):bc O np e h (.idx ar s x j)=(e.arg x).bind (ach e h ar s j):=by
 cases ar <;> simp only [bc]
 ·cases e.arg x with
  | none=>rfl
  | some v=>
   simp only [ae,ach];cases (e.arg j).bind V.nat? with
   | none=>cases v <;> try rfl
           rename_i d; cases d <;> rfl
   | some k=>cases v <;> try rfl
             rename_i d; cases d <;> rfl
 ·cases e.arg x with
  | none=>rfl
  | some v=>
   simp only [ae,ach];cases (e.arg j).bind V.nat? with
   | none=>cases v <;> try rfl
           rename_i d; cases d <;> rfl
   | some k=>cases v <;> try rfl
             rename_i d; cases d <;> rfl
def Xq (h:Heap) (n:Nat) (s:Sh) (i:Nat) (p:List Nat) (k:Nat):D→Option (V×Heap)
 | .arr n' t _=>if n'=n∧Sh.beq t s∧k<n then some (.ptr i (p++[k]),h) else none
 | _=>none
@[simp] theorem aji (n n':Nat) (s t:Sh) (i:Nat) (p:List Nat) (k:Nat) (cs:List D):Xq h n s i p k (.arr n' t cs)=if n'=n∧Sh.beq t s∧k<n then some (.ptr i (p++[k]),h) else none:=rfl
def a1e (h:Heap) (n:Nat) (s:Sh):V→Nat→Option (V×Heap)
 | .ptr i p,k=>((h[i]?).bind (Iy p)).bind (Xq h n s i p k)
 | .d (.ip (.arr n' t cs)),k=>if n'=n∧Sh.beq t s then (cs[k]?).map (kIp h) else none
 | _,_=>none
@[simp] theorem acp (n:Nat) (s:Sh) (i:Nat) (p:List Nat) (k:Nat):a1e h n s (.ptr i p) k=((h[i]?).bind (Iy p)).bind (Xq h n s i p k):=rfl
@[simp] theorem amg (n n':Nat) (s t:Sh) (cs:List D) (k:Nat):a1e h n s (.d (.ip (.arr n' t cs))) k=if n'=n∧Sh.beq t s then (cs[k]?).map (kIp h) else none:=rfl
def Yd (e:Env) (h:Heap) (n:Nat) (s:Sh) (j:Arg) (v:V):Option (V×Heap):=((e.arg j).bind V.nat?).bind (a1e h n s v)
@[simp] theorem ahg (n:Nat) (s:Sh) (j:Arg) (v:V):Yd e h n s j v=((e.arg j).bind V.nat?).bind (a1e h n s v):=rfl
@[simp] theorem am3 (n:Nat) (s:Sh) (x j:Arg):bc O np e h (.idxA (some n) s x j)=(e.arg x).bind (Yd e h n s j):=by
 simp only [bc];cases e.arg x with
 | none=>rfl
 | some v=>
  simp only [ae,Yd];cases (e.arg j).bind V.nat? with
  | none=>cases v <;> try rfl
          rename_i d; cases d <;> try rfl
          rename_i d; cases d <;> rfl
  | some k=>
   cases v with
   | ptr i p=>
    simp only [acp,ae];show ((h[i]?).bind (Iy p)).bind _=_
    congr 1
   | d d=>cases d <;> try rfl
          rename_i d; cases d <;> rfl
   | _=>rfl
def aez (h:Heap) (neg:Bool) (q:Q):V→V→Option (V×Heap)
 | .d a,.d b=>(D.beq q a b).map fun r=>(.d (.bool (if neg then !r else r)),h)
 | _,_=>none
@[simp] theorem aow (neg:Bool) (q:Q) (a b:D):aez h neg q (.d a) (.d b)=(D.beq q a b).map fun r=>(.d (.bool (if neg then !r else r)),h):=rfl
def a8v (e:Env) (h:Heap) (neg:Bool) (q:Q) (y:Arg) (v:V):Option (V×Heap):=(e.arg y).bind (aez h neg q v)
@[simp] theorem ajl (neg:Bool) (q:Q) (y:Arg) (v:V):a8v e h neg q y v=(e.arg y).bind (aez h neg q v):=rfl
@[simp] theorem apk (neg:Bool) (q:Q) (x y:Arg):bc O np e h (.eqv neg q x y)=(e.arg x).bind (a8v e h neg q y):=by
 simp only [bc];cases e.arg x with
 | none=>rfl
 | some v=>
  simp only [ae,a8v];cases e.arg y with
  | none=>cases v <;> rfl
  | some w=>cases v <;> cases w <;> rfl
def W8 (h:Heap) (s t:Sh) (cs:List D) (m b a:Nat):Option (V×Heap):=if Sh.beq t s∧a≤b∧b≤m∧m≤cs.length then some (.d (.sl t ((cs.drop a).take (b-a))),h) else none
@[simp] theorem ahq (s t:Sh) (cs:List D) (m b a:Nat):W8 h s t cs m b a=if Sh.beq t s∧a≤b∧b≤m∧m≤cs.length then some (.d (.sl t ((cs.drop a).take (b-a))),h) else none:=rfl
def Y8 (e:Env) (h:Heap) (s t:Sh) (cs:List D) (lo:Option Arg) (m b:Nat):Option (V×Heap):=(fh e lo 0).bind (W8 h s t cs m b)
@[simp] theorem ago (s t:Sh) (cs:List D) (lo:Option Arg) (m b:Nat):Y8 e h s t cs lo m b=(fh e lo 0).bind (W8 h s t cs m b):=rfl
def Yj (e:Env) (h:Heap) (s t:Sh) (cs:List D) (lo hi:Option Arg) (m:Nat):Option (V×Heap):=(fh e hi cs.length).bind (Y8 e h s t cs lo m)
@[simp] theorem ah5 (s t:Sh) (cs:List D) (lo hi:Option Arg) (m:Nat):Yj e h s t cs lo hi m=(fh e hi cs.length).bind (Y8 e h s t cs lo m):=rfl
def Xb (h:Heap) (s t:Sh) (i:Nat) (p:List Nat) (off n:Nat) (cap:Option Nat) (ismx:Bool) (m b a:Nat):Option (V×Heap):=if Sh.beq t s∧a≤b∧b≤m∧m≤n then some (.sl i p (off+a) (b-a) (if ismx then some (m-a) else cap.map (· - a)),h) else none
@[simp] theorem ah6 (s t:Sh) (i:Nat) (p:List Nat) (off n:Nat) (cap:Option Nat) (ismx:Bool) (m b a:Nat):Xb h s t i p off n cap ismx m b a=if Sh.beq t s∧a≤b∧b≤m∧m≤n then some (.sl i p (off+a) (b-a) (if ismx then some (m-a) else cap.map (· - a)),h) else none:=rfl
def W4 (e:Env) (h:Heap) (s t:Sh) (i:Nat) (p:List Nat) (off n:Nat) (cap:Option Nat) (ismx:Bool) (lo:Option Arg) (m b:Nat):Option (V×Heap):=(fh e lo 0).bind (Xb h s t i p off n cap ismx m b)
@[simp] theorem ahd (s t:Sh) (i:Nat) (p:List Nat) (off n:Nat) (cap:Option Nat) (ismx:Bool) (lo:Option Arg) (m b:Nat):W4 e h s t i p off n cap ismx lo m b=(fh e lo 0).bind (Xb h s t i p off n cap ismx m b):=rfl
def Y0 (e:Env) (h:Heap) (s t:Sh) (i:Nat) (p:List Nat) (off n:Nat) (cap:Option Nat) (ismx:Bool) (lo hi:Option Arg) (m:Nat):Option (V×Heap):=(fh e hi n).bind (W4 e h s t i p off n cap ismx lo m)
@[simp] theorem agv (s t:Sh) (i:Nat) (p:List Nat) (off n:Nat) (cap:Option Nat) (ismx:Bool) (lo hi:Option Arg) (m:Nat):Y0 e h s t i p off n cap ismx lo hi m=(fh e hi n).bind (W4 e h s t i p off n cap ismx lo m):=rfl
def Yy (e:Env) (h:Heap) (s:Sh) (i:Nat) (p:List Nat) (off n:Nat) (cap:Option Nat) (mx lo hi:Option Arg):Sh×List D→Option (V×Heap)
 | (t,_)=>(fh e mx n).bind (Y0 e h s t i p off n cap mx.isSome lo hi)
@[simp] theorem ahf (s:Sh) (i:Nat) (p:List Nat) (off n:Nat) (cap:Option Nat) (mx lo hi:Option Arg) (t:Sh) (cs:List D):Yy e h s i p off n cap mx lo hi (t,cs)=(fh e mx n).bind (Y0 e h s t i p off n cap mx.isSome lo hi):=rfl
def aea (e:Env) (h:Heap) (s:Sh) (lo hi mx:Option Arg):V→Option (V×Heap)
 | .d (.sl t cs)=>(fh e mx cs.length).bind (Yj e h s t cs lo hi)
 | .sl i p off n cap=>((h[i]?).bind (kEl p)).bind (Yy e h s i p off n cap mx lo hi)
 | _=>none
@[simp] theorem ap3 (s t:Sh) (cs:List D) (lo hi mx:Option Arg):aea e h s lo hi mx (.d (.sl t cs))=(fh e mx cs.length).bind (Yj e h s t cs lo hi):=rfl
@[simp] theorem adz (s:Sh) (i:Nat) (p:List Nat) (off n:Nat) (cap:Option Nat) (lo hi mx:Option Arg):aea e h s lo hi mx (.sl i p off n cap)=((h[i]?).bind (kEl p)).bind (Yy e h s i p off n cap mx lo hi):=rfl
@[simp] theorem aoa (s:Sh) (x:Arg) (lo hi mx:Option Arg):bc O np e h (.cut none s x lo hi mx)=(e.arg x).bind (aea e h s lo hi mx):=by
 simp only [bc];cases e.arg x with
 | none=>rfl
 | some v=>
  cases v with
  | d d=>cases d <;> rfl
  | sl i p off n cap=>
   simp only [ae,adz];show ((h[i]?).bind (kEl p)).bind _=_
   congr 1
   funext q
   obtain ⟨t,cs⟩:=q;cases mx <;> rfl
  | _=>rfl
def S6 (h:Heap) (n:Nat) (i:Nat) (p:List Nat) (m b a:Nat):Option (V×Heap):=if a≤b∧b≤m∧m≤n then some (.sl i p a (b-a) (some (m-a)),h) else none
@[simp] theorem ah3 (n i:Nat) (p:List Nat) (m b a:Nat):S6 h n i p m b a=if a≤b∧b≤m∧m≤n then some (.sl i p a (b-a) (some (m-a)),h) else none:=rfl
def Rx (e:Env) (h:Heap) (n:Nat) (i:Nat) (p:List Nat) (lo:Option Arg) (m b:Nat):Option (V×Heap):=(fh e lo 0).bind (S6 h n i p m b)
@[simp] theorem agp (n i:Nat) (p:List Nat) (lo:Option Arg) (m b:Nat):Rx e h n i p lo m b=(fh e lo 0).bind (S6 h n i p m b):=rfl
def Rl (e:Env) (h:Heap) (n:Nat) (i:Nat) (p:List Nat) (lo hi:Option Arg) (m:Nat):Option (V×Heap):=(fh e hi n).bind (Rx e h n i p lo m)
@[simp] theorem ahs (n i:Nat) (p:List Nat) (lo hi:Option Arg) (m:Nat):Rl e h n i p lo hi m=(fh e hi n).bind (Rx e h n i p lo m):=rfl
def T3 (e:Env) (h:Heap) (n:Nat) (s:Sh) (i:Nat) (p:List Nat) (lo hi mx:Option Arg):D→Option (V×Heap)
 | .arr n' t _=>if n'=n∧Sh.beq t s then (fh e mx n).bind (Rl e h n i p lo hi) else none
 | _=>none
@[simp] theorem ajy (n n':Nat) (s t:Sh) (cs:List D) (i:Nat) (p:List Nat) (lo hi mx:Option Arg):T3 e h n s i p lo hi mx (.arr n' t cs)=if n'=n∧Sh.beq t s then (fh e mx n).bind (Rl e h n i p lo hi) else none:=rfl
def ad3 (e:Env) (h:Heap) (n:Nat) (s:Sh) (lo hi mx:Option Arg):V→Option (V×Heap)
 | .ptr i p=>((h[i]?).bind (Iy p)).bind (T3 e h n s i p lo hi mx)
 | .d (.ip (.arr n' t cs))=>(fh e mx n).bind fun m=>(fh e hi n).bind fun b=>(fh e lo 0).bind fun a=>
  if n'=n∧Sh.beq t s∧a≤b∧b≤m∧m≤n then some (.d (.sl t ((cs.drop a).take (b-a))),h) else none
 | _=>none
@[simp] theorem abw (n:Nat) (s:Sh) (lo hi mx:Option Arg) (i:Nat) (p:List Nat):ad3 e h n s lo hi mx (.ptr i p)=((h[i]?).bind (Iy p)).bind (T3 e h n s i p lo hi mx):=rfl
@[simp] theorem amh (n:Nat) (s:Sh) (x:Arg) (lo hi mx:Option Arg):bc O np e h (.cut (some n) s x lo hi mx)=(e.arg x).bind (ad3 e h n s lo hi mx):=by
 simp only [bc];cases e.arg x with
 | none=>rfl
 | some v=>
 cases v with
 | d d=>cases d <;> try rfl
        rename_i d; cases d <;> rfl
 | ptr i p=>
 simp only [ae,abw];show ((h[i]?).bind (Iy p)).bind _=_
 congr 1
 funext y
 cases y <;> try rfl
 rename_i n' t cs
 simp only [T3]
 by_cases hc:n'=n∧Sh.beq t s=true
 ·rw [if_pos hc]
  cases fh e mx n with
  | none=>rfl
  | some m=>
   simp only [ae,Rl];cases fh e hi n with
   | none=>rfl
   | some b=>
    simp only [ae,Rx];cases fh e lo 0 with
    | none=>rfl
    | some a=>simp only [ae,S6,hc,true_and]
 ·rw [if_neg hc]
  cases fh e mx n with
  | none=>rfl
  | some m=>
   simp only [ae];cases fh e hi n with
   | none=>rfl
   | some b=>
    simp only [ae];cases fh e lo 0 with
    | none=>rfl
    | some a=>
     simp only [ae];rw [if_neg]
     rintro ⟨h1,h2,_⟩
     exact hc ⟨h1,h2⟩
 | _=>rfl
def afa (h:Heap) (n:Nat) (s:Sh) (cs:List D):V×Heap:=(.d (.arr n s cs),h)
@[simp] theorem alv (n:Nat) (s:Sh) (cs:List D):afa h n s cs=(.d (.arr n s cs),h):=rfl
def kSt (h:Heap) (ss:List Sh) (cs:List D):V×Heap:=(.d (.st ss cs),h)
@[simp] theorem aoj (ss:List Sh) (cs:List D):kSt h ss cs=(.d (.st ss cs),h):=rfl
def Jq (xs:List (Nat×D)):D→Heap→Option (V×Heap)
 | .arr n s cs,h=>(t9 cs xs).map (afa h n s)
 | .st ss cs,h=>(t9 cs xs).map (kSt h ss)
 | _,_=>none
@[simp] theorem ah4 (xs:List (Nat×D)) (n:Nat) (s:Sh) (cs:List D):Jq xs (.arr n s cs) h=(t9 cs xs).map (afa h n s):=rfl
@[simp] theorem agt (xs:List (Nat×D)) (ss:List Sh) (cs:List D):Jq xs (.st ss cs) h=(t9 cs xs).map (kSt h ss):=rfl
def Ys (h:Heap) (fz:Bool) (z:D) (rs:List Nat) (xs:List (Nat×D)):Option (V×Heap):=(freezeIf fz h rs).bind (Jq xs z)
@[simp] theorem ahb (fz:Bool) (z:D) (rs:List Nat) (xs:List (Nat×D)):Ys h fz z rs xs=(freezeIf fz h rs).bind (Jq xs z):=rfl
@[simp] theorem akx (fz:Bool) (z:D) (ps:List (Nat×Arg)):bc O np e h (.build fz z ps)=(kf e h ps).bind (Ys h fz z (fy e ps)):=by
 simp only [bc];cases kf e h ps with
 | none=>rfl
 | some xs=>
  simp only [ae,Ys];cases freezeIf fz h (fy e ps) with
  | none=>rfl
  | some h'=>cases z <;> rfl
def a6y (id n:Nat) (s:Sh) (cs:List D) (h:Heap):Option (V×Heap):=(ig h id (.sl false s cs)).map (Prod.mk (.sl id [] 0 n (some n)))
@[simp] theorem aj2 (id n:Nat) (s:Sh) (cs:List D):a6y id n s cs h=(ig h id (.sl false s cs)).map (Prod.mk (.sl id [] 0 n (some n))):=rfl
def a9o (h:Heap) (fz:Bool) (id n:Nat) (s:Sh) (rs:List Nat) (cs:List D):Option (V×Heap):=(freezeIf fz h rs).bind (a6y id n s cs)
@[simp] theorem aky (fz:Bool) (id n:Nat) (s:Sh) (rs:List Nat) (cs:List D):a9o h fz id n s rs cs=(freezeIf fz h rs).bind (a6y id n s cs):=rfl
def ad6 (h:Heap) (fz:Bool) (id n:Nat) (s:Sh) (z:D) (rs:List Nat) (xs:List (Nat×D)):Option (V×Heap):=(t9 (List.replicate n z) xs).bind (a9o h fz id n s rs)
@[simp] theorem ak4 (fz:Bool) (id n:Nat) (s:Sh) (z:D) (rs:List Nat) (xs:List (Nat×D)):ad6 h fz id n s z rs xs=(t9 (List.replicate n z) xs).bind (a9o h fz id n s rs):=rfl
@[simp] theorem ag5 (fz:Bool) (i:Nat) (s:Sh) (z:D) (n:Nat) (ps:List (Nat×Arg)):bc O np e h (.buildSl fz i s z n ps)=(kf e h ps).bind (ad6 h fz (np+i) n s z (fy e ps)):=rfl
end
@[simp] theorem ahj (k:IntKind) (n:Int):(D.int k n).isTup=false:=rfl
@[simp] theorem apl (k:IntKind) (n:Int):(D.int k n).sh=.leaf:=rfl
@[simp] theorem afw (b:Bool):(D.bool b).isTup=false:=rfl
@[simp] theorem alc (b:Bool):(D.bool b).sh=.leaf:=rfl
@[simp] theorem agq (s:ByteArray):(D.str s).isTup=false:=rfl
@[simp] theorem aps (s:ByteArray):(D.str s).sh=.leaf:=rfl
@[simp] theorem ahp (n:Nat) (s:Sh) (cs:List D):(D.arr n s cs).isTup=false:=rfl
@[simp] theorem apb (n:Nat) (s:Sh) (cs:List D):(D.arr n s cs).sh=.arr n s:=rfl
@[simp] theorem ajz (ss:List Sh) (cs:List D):(D.st ss cs).isTup=false:=rfl
@[simp] theorem aq7 (ss:List Sh) (cs:List D):(D.st ss cs).sh=.st ss:=rfl
@[simp] theorem akv (s:Sh) (cs:List D):(D.sl s cs).isTup=false:=rfl
@[simp] theorem aq5 (s:Sh) (cs:List D):(D.sl s cs).sh=.leaf:=rfl
@[simp] theorem ahr (cs:List D):(D.tup cs).isTup=true:=rfl
@[simp] theorem ape (cs:List D):(D.tup cs).sh=.leaf:=rfl
@[simp] theorem akr (d:D):(D.ip d).isTup=false:=rfl
@[simp] theorem aq4 (d:D):(D.ip d).sh=.leaf:=rfl
@[simp] theorem aeg  : D.nilp.isTup=false:=rfl
@[simp] theorem alz  : D.nilp.sh=.leaf:=rfl
@[simp] theorem ag7 (s:Sh):(D.nils s).isTup=false:=rfl
@[simp] theorem alo (s:Sh):(D.nils s).sh=.leaf:=rfl
@[simp] theorem ajb (f:Nat) (a b:List D):(D.fn f a b).isTup=false:=rfl
@[simp] theorem aq3 (f:Nat) (a b:List D):(D.fn f a b).sh=.leaf:=rfl
@[simp] theorem aft  : D.nilf.isTup=false:=rfl
@[simp] theorem alp  : D.nilf.sh=.leaf:=rfl
@[simp] theorem adg (n:Nat) (d:D):(D.iface n d).isTup=false:=rfl
@[simp] theorem ajj (n:Nat) (d:D):(D.iface n d).sh=.leaf:=rfl
@[simp] theorem afz  : D.nili.isTup=false:=rfl
@[simp] theorem alw  : D.nili.sh=.leaf:=rfl
def a3l (k:IntKind) (x y:Int):Int:=k.wrap (BitVec.ofInt k.bits x &&& BitVec.ofInt k.bits y).toNat
def orI (k:IntKind) (x y:Int):Int:=k.wrap (BitVec.ofInt k.bits x ||| BitVec.ofInt k.bits y).toNat
def aop (k:IntKind) (x y:Int):Int:=k.wrap (BitVec.ofInt k.bits x ^^^ BitVec.ofInt k.bits y).toNat
section
variable (k:IntKind) (x y:Int)
@[simp] theorem aik:xi .add k x y=some (.int k (k.wrap (x+y))):=rfl
@[simp] theorem aid:xi .sub k x y=some (.int k (k.wrap (x-y))):=rfl
@[simp] theorem akp:xi .mul k x y=some (.int k (k.wrap (x*y))):=rfl
@[simp] theorem aig:xi .quo k x y=if y=0 then none else some (.int k (k.wrap (x.tdiv y))):=rfl
@[simp] theorem aii:xi .rem k x y=if y=0 then none else some (.int k (x.tmod y)):=rfl
@[simp] theorem ai4:xi .and k x y=some (.int k (a3l k x y)):=rfl
@[simp] theorem alg:xi .or k x y=some (.int k (orI k x y)):=rfl
@[simp] theorem ai1:xi .xor k x y=some (.int k (aop k x y)):=rfl
@[simp] theorem aja:xi .eql k x y=some (.bool (decide (x=y))):=rfl
@[simp] theorem aj7:xi .neq k x y=some (.bool (!decide (x=y))):=rfl
@[simp] theorem ajt:xi .lss k x y=some (.bool (decide (x<y))):=rfl
@[simp] theorem ajc:xi .leq k x y=some (.bool (decide (x≤y))):=rfl
@[simp] theorem akn:xi .gtr k x y=some (.bool (decide (y<x))):=rfl
@[simp] theorem akz:xi .geq k x y=some (.bool (decide (y≤x))):=rfl
end
def wy (o:BinOp) (k k':IntKind) (a b:Int):Option D:=if k=k' then xi o k a b else none
@[simp] theorem akh (o:BinOp) (k:IntKind) (a b:Int):wy o k k a b=xi o k a b:=if_pos rfl
section
variable (k k':IntKind) (a b:Int)
@[simp] theorem ait:vh .shl (.int k a) (.int k' b)=A0 .shl k a b:=rfl
@[simp] theorem aib:vh .shr (.int k a) (.int k' b)=A0 .shr k a b:=rfl
@[simp] theorem ajw:vh .add (.int k a) (.int k' b)=wy .add k k' a b:=rfl
@[simp] theorem akc:vh .sub (.int k a) (.int k' b)=wy .sub k k' a b:=rfl
@[simp] theorem aij:vh .mul (.int k a) (.int k' b)=wy .mul k k' a b:=rfl
@[simp] theorem akt:vh .quo (.int k a) (.int k' b)=wy .quo k k' a b:=rfl
@[simp] theorem ai5:vh .rem (.int k a) (.int k' b)=wy .rem k k' a b:=rfl
@[simp] theorem aio:vh .and (.int k a) (.int k' b)=wy .and k k' a b:=rfl
@[simp] theorem an3:vh .or (.int k a) (.int k' b)=wy .or k k' a b:=rfl
@[simp] theorem ak1:vh .xor (.int k a) (.int k' b)=wy .xor k k' a b:=rfl
@[simp] theorem aks:vh .eql (.int k a) (.int k' b)=wy .eql k k' a b:=rfl
@[simp] theorem aic:vh .neq (.int k a) (.int k' b)=wy .neq k k' a b:=rfl
@[simp] theorem ajp:vh .lss (.int k a) (.int k' b)=wy .lss k k' a b:=rfl
@[simp] theorem akg:vh .leq (.int k a) (.int k' b)=wy .leq k k' a b:=rfl
@[simp] theorem akf:vh .gtr (.int k a) (.int k' b)=wy .gtr k k' a b:=rfl
@[simp] theorem ajv:vh .geq (.int k a) (.int k' b)=wy .geq k k' a b:=rfl
end
@[simp] theorem aj8 (o:BinOp) (a b:ByteArray):vh o (.str a) (.str b)=(match o with | .shl | .shr=>none | o=>abf o a b):=by cases o <;> rfl
attribute [simp] ov
attribute [simp] Env.clear abz afo abm aem a53 andThen a0t fin ni acv Ins.side Ins.on Env.arg Env.get Env.keep Env.kill Op.kill Env.putO Env.refsOf Op.temps Arg.temps At xv wz
 V.refs V.refss Sh.beq Sh.beqs Blk.get Blk.set Blk.elems D.get D.set D.arrOf freezeIf freeze Blk.freeze ig t9 kf fy fh V.nat? unD callee uz Heap.pick Heap.put putNews Blk.isHole V.ren V.rens yp Ul n6 params D.flat D.flats ta Env.refd Env.free
theorem ch {T:Nat→Option Fn} {A:ap} {f:Nat} {fn:Fn} (hT:T f=some fn) {ds:List D} {d:D} (hl:ds.length=fn.nparams)
 (h:((dn (den T A) 0 fn.body ⟨params 0 (ds.map .d),List.replicate fn.nblk .hole⟩).bind (fin fn 0)).bind ads=some d):ask (den T A) f ds=some d:=by
 obtain ⟨r,h1,h2⟩:=a8.1 h;unfold ask;rw [i4 hT (vs:=ds.map .d) (bs:=[]) (by rw [ab]; exact hl) h1]
 exact h2
theorem bq {O:ap} {np:Nat} {c:Cd} {s s1:St} {r:Option (Out×St)} (h:dn O np c s=some (.normal,s1)) (h2:dn O np (.loop c) s1=r):dn O np (.loop c) s=r:=by
 rw [Qo,h]; exact h2
theorem cg {O:ap} {np:Nat} {c:Cd} {s s1:St} {id:Nat} (h:dn O np c s=some (.exit id,s1)):dn O np (.loop c) s=some (.exit id,s1):=by
 rw [Qo,h]; rfl
theorem mj {O:ap} {np:Nat} {c:Cd} {s s1:St} (h:dn O np c s=some (.ret,s1)):dn O np (.loop c) s=some (.ret,s1):=by
 rw [Qo,h]; rfl
def aq (k:IntKind) (l:List Int):List D:=l.map (.int k)
@[simp] theorem Id (k:IntKind) (l:List Int):(aq k l).length=l.length:=by simp [aq]
@[simp] theorem ai8 (k:IntKind) (l:List Int) (i:Nat):(aq k l)[i]? = (l[i]?).map (.int k):=by simp [aq]
@[simp] theorem acs (k:IntKind) (l:List Int) (i:Nat) (h:i<(aq k l).length):(aq k l)[i]=.int k (l[i]'(by simpa using h)):=by simp [aq]
@[simp] theorem ahc (k:IntKind) (l:List Int) (n:Nat):(aq k l).take n=aq k (l.take n):=by simp [aq]
@[simp] theorem agu (k:IntKind) (l:List Int) (n:Nat):(aq k l).drop n=aq k (l.drop n):=by simp [aq]
@[simp] theorem ajh (k:IntKind) (l:List Int) (n:Nat) (x:Int):(aq k l).set n (.int k x)=aq k (l.set n x):=by simp [aq,mn]
@[simp] theorem Ie (k:IntKind) (l m:List Int):aq k l++aq k m=aq k (l++m):=by simp [aq]
@[simp] theorem a95 (k:IntKind) (n:Nat) (x:Int):List.replicate n (D.int k x)=aq k (List.replicate n x):=by simp [aq]
@[simp] theorem Mf (k:IntKind):∀l:List Int,D.flats (aq k l)=true
 | []=>rfl
 | x::l=>by show (D.flat (.int k x)&&D.flats (aq k l))=true; rw [Mf k l]; rfl
theorem iu (k:IntKind):aq k []=[]:=rfl
@[simp] theorem aku (n:Nat):List.replicate (n+1) Blk.hole=.hole::List.replicate n .hole:=rfl
@[simp] theorem ah2:List.replicate 0 Blk.hole=[]:=rfl
theorem w64 {x:Int} (h:-9223372036854775808≤x∧x≤9223372036854775807):IntKind.i64.wrap x=x:=IntWalk.i64_in x h
theorem w8 {x:Int} (h:0≤x∧x<256):IntKind.u8.wrap x=x:=by
 simp only [IntKind.wrap,IntKind.bits,IntKind.signed];simp;omega
end Pe
namespace Pe
open Go Go.ChangeShapes
inductive Ty where
 | int (k:IntKind)
 | bool
 | str
 | arr (n:Nat) (T:Ty)
 | st (Ts:List Ty)
 | sl (T:Ty)
mutual
def Ty.sh:Ty→Sh
 | .arr n T=>.arr n T.sh
 | .st Ts=>.st (Ty.shs Ts)
 | .int _ | .bool | .str | .sl _=>.leaf
def Ty.shs:List Ty→List Sh
 | []=>[]
 | T::Ts=>T.sh::Ty.shs Ts
end
mutual
def yq (P:Program):TypeId→Ty→Bool
 | t,.int k=>(match P.underlying t with | some (.int k')=>k' == k | _=>false)&&P.cellsOf t == 1
 | t,.bool=>(match P.underlying t with | some .bool=>true | _=>false)&&P.cellsOf t == 1
 | t,.str=>(match P.underlying t with | some .string=>true | _=>false)&&P.cellsOf t == 1
 | t,.arr n T=>(match P.underlying t with | some (.array m e)=>m == n&&yq P e T | _=>false)&&P.cellsOf t == n*T.sh.size
 | t,.st Ts=>(match P.underlying t with | some (.struct fs)=>Ch P fs.toList 0 Ts | _=>false)&&P.cellsOf t == Sh.sizes (Ty.shs Ts)
 | t,.sl T=>(match P.underlying t with | some (.slice e)=>yq P e T&&decide (0<T.sh.size) | _=>false)&&P.cellsOf t == 1
def Ch (P:Program):List Field→Nat→List Ty→Bool
 | [],_,[]=>true
 | f::fs,o,T::Ts=>f.offset == o&&yq P f.type T&&Ch P fs (o+T.sh.size) Ts
 | _,_,_=>false
end
mutual
def Ty.has:Ty→D→Prop
 | .int k,.int k' n=>k'=k∧(Lit.int k n).wf=true
 | .bool,.bool _=>True
 | .str,.str s=>s.size≤maxLen
 | .arr n T,.arr m s xs=>m=n∧s=T.sh∧xs.length=n∧∀x∈xs,T.has x
 | .st Ts,.st ss xs=>ss=Ty.shs Ts∧Ty.hasAll Ts xs
 | .sl T,.sl s xs=>s=T.sh∧xs.length≤9223372036854775807∧∀x∈xs,T.has x
 | _,_=>False
def Ty.hasAll:List Ty→List D→Prop
 | [],[]=>True
 | T::Ts,x::xs=>T.has x∧Ty.hasAll Ts xs
 | _,_=>False
end
theorem yo {P:Program} {t:TypeId} {T:Ty} (h:yq P t T=true):P.cellsOf t=T.sh.size:=by
 cases T <;> simp only [yq,az,beq_iff_eq] at h <;> simp only [Ty.sh,Sh.size] <;> exact h.2
mutual
theorem Yw:∀(T:Ty) (d:D),T.has d→d.sh=T.sh
 | .int _,d,h | .bool,d,h | .str,d,h=>by cases d <;> simp [Ty.has] at h <;> rfl
 | .arr n T,d,h=>by
  cases d <;> simp only [Ty.has] at h
  obtain ⟨rfl,rfl,-⟩:=h;rfl
 | .st Ts,d,h=>by
  cases d <;> simp only [Ty.has] at h
  obtain ⟨rfl,-⟩:=h;rfl
 | .sl T,d,h=>by cases d <;> simp only [Ty.has] at h; rfl
end
section
variable {H:Type} {enc:TypeId×Value→H} {P:Program} {C:Cx} {base:Nat} {sp:Nat→Bool} {held:Bool}
theorem Cw {s:Sh} {Q:D→Prop} (hs:∀d,Q d→d.sh=s):∀(n:Nat) (cs:List Value),cs.length=n*s.size→(∀i,i<n→∃d,Q d∧RD C d ((cs.drop (i*s.size)).take s.size)) →
 ∃ds:List D,ds.length=n∧(∀d∈ds,Q d)∧RDs C s ds cs
 | 0,cs,hl,_=>⟨[],rfl,by simp,by simp only [RDs]; exact fb.1 (by simpa using hl)⟩
 | n+1,cs,hl,h=>by
  obtain ⟨d,hq,hd⟩:=h 0 (by omega)
  obtain ⟨ds,h1,h2,h3⟩:=Cw hs n (cs.drop s.size) (by rw [fo,hl,gn]; omega) (fun i hi=>by
   obtain ⟨d,hq,hd⟩:=h (i+1) (by omega)
   refine ⟨d,hq,?_⟩;rw [ik,show s.size+i*s.size=(i+1)*s.size by rw [gn]; omega]
   exact hd)
  refine ⟨d::ds,by simp [h1],by simpa using ⟨hq,h2⟩,?_⟩
  simp only [RDs];rw [kr,dm] at hd;exact ⟨cs.take s.size,cs.drop s.size,(i9 _ _).symm,hs d hq,hd,h3⟩
theorem a39 {w:World} {a:Addr} {v:Value} (h:w.cell? a=some v):a.spot=none∧∃c el fz,w.heap[a.block]? = some (.cells c el fz)∧c[a.off]? = some v:=by
 unfold World.cell? at h
 split at h
 ·rename_i c el fz hc
  split at h
  ·cases h
  ·rename_i hs
   exact ⟨by simpa using hs,c,el,fz,hc,h⟩
 ·cases h
theorem a99 {w:World} {a:Addr} {n:Nat} {cs:List Value} (hn:0<n) (h:w.cells? base a n=some cs):a.spot=none∧cs.length=n∧CellsAt w a.block a.off cs:=by
 obtain ⟨h1,h2,h3⟩:=World.cells?_some h;have h0:=h3 0 hn;rw [af (by omega),Addr.add,if_pos rfl] at h0
 obtain ⟨hsp,c,el,fz,hc,_⟩:=a39 h0;refine ⟨hsp,h2,c,el,fz,hc,fun j u hu=>?_⟩
 have hj:j<n:=by
  have:=(av.1 hu).1;omega
 have h4:=h3 j hj;rw [hu] at h4;unfold World.cell? at h4
 have hb:(a.add j).block=a.block∧(a.add j).off=a.off+j∧(a.add j).spot=none:=by
  unfold Addr.add
  split
  ·rename_i h; subst h; exact ⟨rfl,rfl,hsp⟩
  ·exact ⟨rfl,rfl,rfl⟩
 rw [hb.1,hc,hb.2.1,hb.2.2] at h4
 simpa using h4
theorem G9 {s:Sh} {Q:D→Prop} (hs:∀d,Q d→d.sh=s) (hk:0<s.size) {b:Nat}:∀(n o:Nat),0<n→(∀i,i<n→∃d cs,Q d∧RD C d cs∧cs.length=s.size∧CellsAt C.w b (o+i*s.size) cs) →
 ∃(ds:List D) (us:List Value),ds.length=n∧(∀d∈ds,Q d)∧RDs C s ds us∧us.length=n*s.size∧CellsAt C.w b o us
 | 0,o,h0,h=>absurd h0 (by omega)
 | n+1,o,_,h=>by
  obtain ⟨d,cs,hq,hd,hl,hc⟩:=h 0 (by omega)
  rw [kr,fj] at hc;rcases ou n with hn | hn
  ·subst hn
   exact ⟨[d],cs,rfl,by simpa using hq,by simp only [RDs]; exact ⟨cs,[],by simp,hs d hq,hd,rfl⟩,by omega,hc⟩
  ·obtain ⟨ds,us,h1,h2,h3,h4,h5⟩:=G9 hs hk n (o+s.size) hn (fun i hi=>by
    obtain ⟨d,cs,hq,hd,hl,hc⟩:=h (i+1) (by omega)
    refine ⟨d,cs,hq,hd,hl,?_⟩;rw [show o+s.size+i*s.size=o+(i+1)*s.size by rw [gn]; omega]
    exact hc)
   refine ⟨d::ds,cs++us,by simp [h1],by simpa using ⟨hq,h2⟩,by simp only [RDs]; exact ⟨cs,us,rfl,hs d hq,hd,h3⟩,by rw [b8,hl,h4,gn]; omega,?_⟩
   obtain ⟨a,el,fz,ha,hc⟩:=hc;obtain ⟨a',el',fz',ha',hc'⟩:=h5;obtain ⟨rfl,rfl,rfl⟩:a=a'∧el=el'∧fz=fz':=by rw [ha] at ha'; simpa using ha'
   refine ⟨a,el,fz,ha,fun j u hu=>?_⟩
   by_cases hj:j<cs.length
   ·rw [bu hj] at hu; exact hc j u hu
   ·rw [bx (by omega)] at hu
    have:=hc' _ u hu
    rwa [show o+s.size+(j-cs.length)=o+j by omega] at this
mutual
theorem zb (hI:∀b,b<C.w.heap.size→C.I b):∀(T:Ty) (t:TypeId) (fuel:Nat) (cs:List Value) (x:DataW H×List MemPlace),yq P t T=true→DataW.trod enc P C.w base sp held fuel t cs=some x→∃d,T.has d∧RD C d cs
 | .int k,t,fuel,cs,x,hf,h=>by
  simp only [yq,az] at hf
  replace hf:=hf.1
  split at hf <;> simp at hf
  rename_i k' hu
  subst hf;obtain ⟨n,rfl,-,hw⟩:=DataW.trod_int hu h;exact ⟨.int k' n,⟨rfl,hw⟩,rfl⟩
 | .bool,t,fuel,cs,x,hf,h=>by
  simp only [yq,az] at hf
  replace hf:=hf.1
  split at hf <;> simp at hf
  rename_i hu
  obtain ⟨b,rfl,-⟩:=DataW.trod_bool hu h;exact ⟨.bool b,trivial,rfl⟩
 | .str,t,fuel,cs,x,hf,h=>by
  simp only [yq,az] at hf
  replace hf:=hf.1
  split at hf <;> simp at hf
  rename_i hu
  obtain ⟨s,rfl,-,hw⟩:=DataW.trod_string hu h;exact ⟨.str s,hw,rfl⟩
 | .arr n T,t,fuel,cs,x,hf,h=>by
  have hsz:=yo hf;simp only [yq,az] at hf
  replace hf:=hf.1
  split at hf <;> simp at hf
  rename_i m e hu
  obtain ⟨rfl,hfe⟩:=hf;have hse:=yo hfe;obtain ⟨xs,k,-,-,hl,hxl,hx⟩:=DataW.trod_array hu h
  obtain ⟨ds,h1,h2,h3⟩:=Cw (C:=C) (s:=T.sh) (Q:=T.has) (Yw T) m cs (by rw [hl,hsz]; rfl) (fun i hi=>by
   have h4:=hx i hi;rw [af (by omega),hse] at h4
   exact zb hI T e k _ _ hfe h4)
  exact ⟨.arr m T.sh ds,⟨rfl,rfl,h1,h2⟩,by simp only [RD]; exact ⟨h1,h3⟩⟩
 | .st Ts,t,fuel,cs,x,hf,h=>by
  have hsz:=yo hf;simp only [yq,az] at hf
  replace hf:=hf.1
  split at hf
  case h_2=>cases hf
  rename_i fs hu
  obtain ⟨xs,k,-,-,hl,hxl,hx⟩:=DataW.trod_struct hu h
  obtain ⟨ds,h1,h2⟩:=Cz hI Ts fs.toList 0 k cs hf (by rw [hl,hsz]; simp [Ty.sh,Sh.size]) (fun f hfm=>by
   obtain ⟨i,hi,rfl⟩:=jk hfm;have h4:=hx i fs.toList[i] (by rw [←jq]; exact af hi)
   rw [af (by rw [hxl,←rq]; exact hi)] at h4
   exact ⟨_,h4⟩)
  exact ⟨.st (Ty.shs Ts) ds,⟨rfl,h1⟩,by simp only [RD]; exact h2⟩
 | .sl T,t,fuel,cs,x,hf,h=>by
  simp only [yq,az] at hf
  replace hf:=hf.1
  split at hf <;> simp at hf
  rename_i e hu
  obtain ⟨hfe,hk⟩:=hf;have hse:=yo hfe;rcases DataW.trod_slice hu h with ⟨rfl,-⟩ | ⟨a,len,cap,elems,rest,n,-,rfl,-,hb,hle,hcap,hel,hx,-⟩
  ·exact ⟨.sl T.sh [],⟨rfl,by simp,by simp⟩,by simp only [RD]; exact ⟨none,0,rfl,bp _,.inl trivial⟩⟩
  ·rcases ou len with h0 | h0
   ·subst h0
    exact ⟨.sl T.sh [],⟨rfl,by simp,by simp⟩,by simp only [RD]; exact ⟨_,cap,rfl,hle,.inl trivial⟩⟩
   ·have hcell:∀i,i<len→∃d cs,T.has d∧RD C d cs∧cs.length=T.sh.size∧(a.add (i*T.sh.size)).spot=none∧CellsAt C.w a.block (a.off+i*T.sh.size) cs:=fun i hi=>by
     have h4:=hx i hi;rw [af (by omega),hse] at h4
     obtain ⟨cs,hc,hy⟩:=a8.1 h4;obtain ⟨h5,h6,h7⟩:=a99 hk hc;obtain ⟨d,hd1,hd2⟩:=zb hI T e n _ _ hfe hy
     have hbl:(a.add (i*T.sh.size)).block=a.block∧(a.add (i*T.sh.size)).off=a.off+i*T.sh.size:=by
      unfold Addr.add
      split
      ·rename_i h; rw [h]; exact ⟨rfl,rfl⟩
      ·exact ⟨rfl,rfl⟩
     rw [hbl.1,hbl.2] at h7;exact ⟨d,cs,hd1,hd2,h6,h5,h7⟩
    obtain ⟨ds,us,h1,h2,h3,h4,h5⟩:=G9 (C:=C) (s:=T.sh) (Q:=T.has) (Yw T) hk len a.off h0 (fun i hi=>by
     obtain ⟨d,cs,g1,g2,g3,-,g4⟩:=hcell i hi;exact ⟨d,cs,g1,g2,g3,g4⟩)
    have hsp:a.spot=none:=by
     obtain ⟨_,_,_,_,_,g,_⟩:=hcell 0 h0;rw [kr,Addr.add,if_pos rfl] at g;exact g
    have hlt:a.block<C.w.heap.size:=by
     obtain ⟨c,el,fz,hc,-⟩:=h5;exact (f6.1 hc).1
    refine ⟨.sl T.sh ds,⟨rfl,by rw [h1]; unfold maxLen at hcap; omega,h2⟩,?_⟩
    simp only [RD];refine ⟨some a,cap,by rw [h1],by omega,.inr ⟨a.block,a.off,us,?_,hI _ hlt,h3,h5⟩⟩
    cases a;simp only at hsp;rw [hsp]
theorem Cz (hI:∀b,b<C.w.heap.size→C.I b):∀(Ts:List Ty) (fs:List Field) (o fuel:Nat) (cs:List Value),Ch P fs o Ts=true→cs.length=o+Sh.sizes (Ty.shs Ts) →
 (∀f∈fs,∃x,DataW.trod enc P C.w base sp held fuel f.type ((cs.drop f.offset).take (P.cellsOf f.type))=some x)→∃ds,Ty.hasAll Ts ds∧RDst C (Ty.shs Ts) ds (cs.drop o)
 | [],[],o,fuel,cs,_,hl,_=>⟨[],trivial,by simp only [Ty.shs,RDst]; rw [List.drop_eq_nil_iff]; simp [Ty.shs,Sh.sizes] at hl; omega⟩
 | [],_::_,o,fuel,cs,hf,_,_=>by simp [Ch] at hf
 | _::_,[],o,fuel,cs,hf,_,_=>by simp [Ch] at hf
 | T::Ts,f::fs,o,fuel,cs,hf,hl,h=>by
  simp only [Ch,az,beq_iff_eq] at hf;obtain ⟨⟨ho,hft⟩,hfs⟩:=hf;have hse:=yo hft;simp only [Ty.shs,Sh.sizes] at hl;obtain ⟨x,hx⟩:=h f (by simp)
  obtain ⟨d,hd1,hd2⟩:=zb hI T f.type fuel _ x hft hx;obtain ⟨ds,h1,h2⟩:=Cz hI Ts fs (o+T.sh.size) fuel cs hfs (by omega) (fun g hg=>h g (List.mem_cons_of_mem _ hg))
  refine ⟨d::ds,⟨hd1,h1⟩,?_⟩;simp only [Ty.shs,RDst];rw [hse,ho] at hd2;refine ⟨_,_,?_,Yw T d hd1,hd2,h2⟩;rw [←ik,i9]
end
theorem acg {W:World} {r:Reach} {T:Ty} {t:TypeId} {v:Value} {d:D} (hf:yq P t T=true) (hd:T.has d) (h:Value.okWide P W r base t v):isAgg v=d.isAgg:=by
 unfold Value.okWide at h;cases T with
 | int k=>
  simp only [yq,az] at hf
  replace hf:=hf.1
  split at hf <;> simp at hf
  rename_i k' hu
  rw [hu] at h;cases d <;> simp only [Ty.has] at hd
  cases v <;> first | rfl | (simp [Cell.okWide,Cell.ok,hu] at h; done)
 | bool=>
  simp only [yq,az] at hf
  replace hf:=hf.1
  split at hf <;> simp at hf
  rename_i hu
  rw [hu] at h;cases d <;> simp only [Ty.has] at hd
  cases v <;> first | rfl | (simp [Cell.okWide,Cell.ok,hu] at h; done)
 | str=>
  simp only [yq,az] at hf
  replace hf:=hf.1
  split at hf <;> simp at hf
  rename_i hu
  rw [hu] at h;cases d <;> simp only [Ty.has] at hd
  cases v <;> first | rfl | (simp [Cell.okWide,Cell.ok,hu] at h; done)
 | sl T=>
  simp only [yq,az] at hf
  replace hf:=hf.1
  split at hf <;> simp at hf
  rename_i e hu
  rw [hu] at h;cases d <;> simp only [Ty.has] at hd
  cases v <;> first | rfl | (simp [Cell.okWide,Cell.ok,hu] at h; done)
 | arr n T=>
  simp only [yq,az] at hf
  replace hf:=hf.1
  split at hf
  case h_2=>cases hf
  rename_i hu
  rw [hu] at h;obtain ⟨cs,rfl,-⟩:=h;cases d <;> simp only [Ty.has] at hd
  rfl
 | st Ts=>
  simp only [yq,az] at hf
  replace hf:=hf.1
  split at hf
  case h_2=>cases hf
  rename_i hu
  rw [hu] at h;obtain ⟨cs,rfl,-⟩:=h;cases d <;> simp only [Ty.has] at hd
  rfl
def Aq (P:Program):List TypeId→List Ty→Bool
 | [],[]=>true
 | t::ts,T::Ts=>yq P t T&&P.readableRec t&&decide (t<P.types.size)&&Aq P ts Ts
 | _,_=>false
theorem Od (hI:∀b,b<C.w.heap.size→C.I b) {r:Reach} {b0:Nat}:∀(ts:List TypeId) (Ts:List Ty) (vs:List Value) (ds:List (DataW H)) (ps:List MemPlace),Aq P ts Ts=true→DataW.TrodAll enc P C.w base sp held ts vs ds ps →
 (∀(j:Nat) t v,ts[j]? = some t→vs[j]? = some v→Value.okWide P C.w r b0 t v)→∃xs,Ty.hasAll Ts xs∧RVs C xs vs
 | [],[],vs,ds,ps,_,h,_=>by
  obtain ⟨rfl,-,-⟩:=trodAll_nil h;exact ⟨[],trivial,by simp only [RVs]⟩
 | [],_::_,vs,ds,ps,hf,_,_=>by simp [Aq] at hf
 | _::_,[],vs,ds,ps,hf,_,_=>by simp [Aq] at hf
 | t::ts,T::Ts,vs,ds,ps,hf,h,hv=>by
  simp only [Aq,az] at hf;obtain ⟨⟨⟨hf1,-⟩,-⟩,hf2⟩:=hf;obtain ⟨v,vs',d,ds',p,q,rfl,rfl,rfl,⟨fuel,hd⟩,hr⟩:=trodAll_cons h;obtain ⟨x,hx1,hx2⟩:=zb hI T t fuel _ _ hf1 hd;obtain ⟨xs,h1,h2⟩:=Od hI ts Ts vs' ds' q hf2 hr (fun j t' v' hj hv'=>hv (j+1) t' v' (by simpa using hj) (by simpa using hv'))
  refine ⟨x::xs,⟨hx1,h1⟩,?_⟩;simp only [RVs];exact ⟨v,vs',rfl,acg hf1 hx1 (hv 0 t v rfl rfl),hx2,h2⟩
theorem Q6 {W W':World} (hl:laidOutB P=true) (hb:RowKit.Below W.heap.size W W'):∀(ts:List TypeId) (Ts:List Ty) (vs:List Value) (ds:List (DataW H)) (ps:List MemPlace),Aq P ts Ts=true→DataW.TrodAll enc P W 0 (fun _=>true) true ts vs ds ps →
 (∀x∈ps,x.block<W.heap.size)→DataW.TrodAll enc P W' 0 (fun b=>decide (b<W.heap.size)) true ts vs ds ps
 | [],[],vs,ds,ps,_,h,_=>by
  obtain ⟨rfl,rfl,rfl⟩:=trodAll_nil h;rfl
 | [],_::_,vs,ds,ps,hf,_,_=>by simp [Aq] at hf
 | _::_,[],vs,ds,ps,hf,_,_=>by simp [Aq] at hf
 | t::ts,T::Ts,vs,ds,ps,hf,h,hp=>by
  simp only [Aq,az,decide_eq_true_eq] at hf;obtain ⟨⟨⟨-,hf1⟩,hf3⟩,hf2⟩:=hf;obtain ⟨v,vs',d,ds',p,q,rfl,rfl,rfl,hd,hr⟩:=trodAll_cons h;exact ⟨p,q,RowKit.Below.trod hl hf1 hf3 hd hb (fun x hx=>hp x (cm _ hx)),Q6 hl hb ts Ts vs' ds' q hf2 hr (fun x hx=>hp x (m7 _ hx)),rfl⟩
def Eg (P:Program) (f:Func):Bool:=match f.resultTypes.toList with
 | [t]=>match P.underlying t with
  | some .bool=>true
  | _=>false
 | _=>false
theorem O5 {f:Func} (h:Eg P f=true):∃tb,f.resultTypes = #[tb]∧P.underlying tb=some .bool:=by
 unfold Eg at h
 split at h
 ·rename_i t ht
  split at h
  ·rename_i hu
   exact ⟨t,by rw [←Array.toList_inj,ht],hu⟩
  ·cases h
 ·cases h
theorem a42 {f:Func} {s:ChangeSpec} {apart fresh:Bool} {W W':World} {args:Array Value} {ds gs:List (DataW H)} {before:List MemPlace} {Ts:List Ty}
 (hW:DataW.Whole enc P f.params.toList s.vars apart W args.toList ds gs before) (hvars:s.vars=[]) (hs:s.fn H (ds++gs) = { results:=[.lit (.bool true)],args:=ds })
 (hr:Eg P f=true) (hl:laidOutB P=true) (hf:Aq P f.params.toList Ts=true) (hb:RowKit.Below W.heap.size W W') :
 s.post enc P f apart fresh false false W args (.bool true) W':=by
 have hW0:=hW;obtain ⟨p,q,hA,hV,rfl,hz,hn⟩:=hW;have hlt:=DataW.TrodAll.lt hA;obtain ⟨tb,hr,htb⟩:=O5 hr;rw [hvars] at hV;obtain ⟨rfl,rfl⟩:=trodVars_none hV;refine ⟨ds,[],_,[],p,[],hW0,?_,?_,?_,hb.frame _,fun h=>by cases h⟩
 ·rw [hs,hr]
  exact ⟨[],[],⟨1,by simp [DataW.trod,Value.cells,htb]⟩,rfl,rfl⟩
 ·rw [hs]
  exact Q6 hl hb _ _ _ _ _ hf hA hlt
 ·rw [hs,hvars]
  rfl
end
theorem Xw {P:Program} {num:Nat→Nat} {O:ap} (hO:ko P num O) {F:Nat} {xs:List D} (h:ask O F xs=some (.bool true)) {W:World} {vs:List Value} (hv:RVs ⟨W,fun b=>b<W.heap.size,num⟩ xs vs) :
 Calls P (num F) vs.toArray W fun e W'=>e=.returned (.bool true)∧RowKit.Below W.heap.size W W':=by
 unfold ask at h;obtain ⟨⟨v,bs,nb⟩,h1,h2⟩:=a8.1 h;obtain ⟨hl,-,hcall⟩:=hO F (xs.map .d) [] _ h1 ⟨W,fun b=>b<W.heap.size,num⟩ (fun _ _=>none) vs rfl ⟨by simp,by simp⟩ (fun b hb=>hb) (wv hv)
 refine Calls.mono hcall ?_
 rintro e w' ⟨u,C2,φ2,rfl,rfl,st,-,hu⟩
 have hno:∀b,¬ OwnB (fun _ _=>none) [] b:=by rintro b ⟨i,k,B,o,hB,_⟩; simp at hB
 have hbs:bs=[]:=fb.1 hl;subst hbs;have hx:RV _ (.bool true) u:=vz st.hr v _ u h2 hu;refine ⟨?_,st.os,st.tape,st.out,st.size,fun k hk=>st.kept k hk (hno k)⟩
 simp only [RV,RD,D.isAgg] at hx;obtain ⟨h3,h4⟩:=hx;cases u <;> simp [Value.cells,isAgg] at h3 h4
 rw [h4]
end Pe

/-
 The numbers of the functions.
-/
namespace Pe
abbrev F22:Nat:=48
abbrev F23:Nat:=77
abbrev F3i:Nat:=94
abbrev Fb:Nat:=96
abbrev F3j:Nat:=101
abbrev Fc:Nat:=102
abbrev F3h:Nat:=111
abbrev Fa:Nat:=112
abbrev F3f:Nat:=119
abbrev F7:Nat:=120
abbrev F3g:Nat:=121
abbrev F8:Nat:=122
abbrev F6:Nat:=131
abbrev F39:Nat:=142
abbrev F4:Nat:=143
abbrev F3b:Nat:=256
abbrev F24:Nat:=257
abbrev F3c:Nat:=258
abbrev F3e:Nat:=259
abbrev F3a:Nat:=260
abbrev F3d:Nat:=261
abbrev Fq:Nat:=313
abbrev F1o:Nat:=315
abbrev F1i:Nat:=318
abbrev F13:Nat:=319
abbrev Fu:Nat:=320
abbrev F1z:Nat:=321
abbrev F4i:Nat:=323
abbrev F4l:Nat:=324
abbrev F1n:Nat:=326
abbrev Fj:Nat:=327
abbrev F3m:Nat:=331
abbrev F1q:Nat:=336
abbrev F1c:Nat:=341
abbrev F1b:Nat:=342
abbrev Fy:Nat:=344
abbrev F1a:Nat:=347
abbrev F11:Nat:=348
abbrev F44:Nat:=349
abbrev F3t:Nat:=350
abbrev F3v:Nat:=351
abbrev F18:Nat:=360
abbrev F16:Nat:=363
abbrev F1l:Nat:=364
abbrev F4p:Nat:=366
abbrev F4t:Nat:=367
abbrev F10:Nat:=368
abbrev F1e:Nat:=369
abbrev F1v:Nat:=370
abbrev F4k:Nat:=371
abbrev F20:Nat:=372
abbrev Fk:Nat:=373
abbrev F4j:Nat:=374
abbrev F1g:Nat:=375
abbrev Fv:Nat:=378
abbrev F4n:Nat:=381
abbrev F29:Nat:=382
abbrev F14:Nat:=383
abbrev F48:Nat:=384
abbrev F4g:Nat:=385
abbrev F43:Nat:=386
abbrev F21:Nat:=387
abbrev F1w:Nat:=388
abbrev F1x:Nat:=389
abbrev F3x:Nat:=395
abbrev F4m:Nat:=396
abbrev F4q:Nat:=397
abbrev Fl:Nat:=398
abbrev Fs:Nat:=399
abbrev F1t:Nat:=400
abbrev F4e:Nat:=406
abbrev Fr:Nat:=407
abbrev Fg:Nat:=413
abbrev F1y:Nat:=414
abbrev F3k:Nat:=416
abbrev F41:Nat:=417
abbrev F3u:Nat:=418
abbrev F1j:Nat:=419
abbrev F19:Nat:=420
abbrev F1s:Nat:=421
abbrev F40:Nat:=445
abbrev F3p:Nat:=446
abbrev F3y:Nat:=448
abbrev F3o:Nat:=451
abbrev F12:Nat:=453
abbrev F3s:Nat:=454
abbrev F3z:Nat:=455
abbrev F46:Nat:=457
abbrev F15:Nat:=458
abbrev F1d:Nat:=469
abbrev F42:Nat:=471
abbrev F3q:Nat:=476
abbrev F1r:Nat:=477
abbrev F4b:Nat:=493
abbrev F49:Nat:=496
abbrev F3n:Nat:=501
abbrev Ft:Nat:=508
abbrev Fo:Nat:=509
abbrev F4o:Nat:=512
abbrev F4s:Nat:=513
abbrev F4u:Nat:=514
abbrev F4f:Nat:=515
abbrev F4a:Nat:=516
abbrev F1u:Nat:=521
abbrev F5:Nat:=530
abbrev F1f:Nat:=531
abbrev F3w:Nat:=532
abbrev Fw:Nat:=534
abbrev F45:Nat:=556
abbrev Fz:Nat:=557
abbrev F1p:Nat:=558
abbrev Fm:Nat:=559
abbrev F4c:Nat:=560
abbrev F1m:Nat:=567
abbrev F1k:Nat:=568
abbrev F2f:Nat:=569
abbrev F17:Nat:=570
abbrev Fi:Nat:=571
abbrev F4h:Nat:=572
abbrev F2g:Nat:=573
abbrev F1h:Nat:=574
abbrev F4d:Nat:=577
abbrev F2b:Nat:=590
abbrev Fh:Nat:=591
abbrev F3l:Nat:=595
abbrev F47:Nat:=596
abbrev Fe:Nat:=619
abbrev Fx:Nat:=620
abbrev F32:Nat:=644
abbrev F25:Nat:=645
abbrev F0:Nat:=646
abbrev F1:Nat:=647
abbrev F33:Nat:=648
abbrev F2e:Nat:=653
abbrev F2a:Nat:=658
abbrev Ff:Nat:=659
abbrev F2n:Nat:=694
abbrev F2l:Nat:=695
abbrev F2h:Nat:=696
abbrev F2j:Nat:=697
abbrev F34:Nat:=698
abbrev F2w:Nat:=699
abbrev F30:Nat:=700
abbrev F2y:Nat:=701
abbrev F26:Nat:=702
abbrev F27:Nat:=703
abbrev F2:Nat:=704
abbrev F3:Nat:=705
abbrev F2o:Nat:=706
abbrev F2m:Nat:=707
abbrev F2i:Nat:=708
abbrev F2k:Nat:=709
abbrev F35:Nat:=710
abbrev F2x:Nat:=711
abbrev F31:Nat:=712
abbrev F2z:Nat:=713
abbrev F2d:Nat:=717
abbrev F36:Nat:=762
abbrev F2t:Nat:=763
abbrev F38:Nat:=764
abbrev F2p:Nat:=765
abbrev F2r:Nat:=766
abbrev F37:Nat:=767
abbrev F2q:Nat:=768
abbrev F2s:Nat:=769
abbrev F2u:Nat:=798
abbrev F2v:Nat:=799
abbrev F4r:Nat:=1397
abbrev F3r:Nat:=1443
abbrev F2c:Nat:=1575
abbrev F28:Nat:=1597
def z64:List D:=List.replicate 64 (.int .u8 0)
def z8:List D:=List.replicate 8 (.arr 64 .leaf z64)
abbrev Lw (d s:Nat):Ins:=⟨some d,.mv (.t s),none,[]⟩
abbrev Ll (d:Nat) (o:Op):Ins:=⟨some d,o,none,[]⟩
abbrev Ls (o:Op):Ins:=⟨none,o,none,[]⟩
abbrev Lx (d s g:Nat) (b:Bool):Ins:=⟨some d,.mv (.t s),some (g,b),[]⟩
abbrev Lg (d:Nat) (o:Op) (g:Nat) (b:Bool):Ins:=⟨some d,o,some (g,b),[]⟩
abbrev Sx6:Sh:=.arr 64 .leaf
abbrev Sx8:Sh:=.arr 8 Sx6
abbrev Sx4:List Sh:=[.leaf,Sx6,Sx6,Sx6]
abbrev Acx (n:Int):Arg:=.c (.int .i64 n)
abbrev Ofx (f:Nat) (l:List Arg):Op:=.call .flat [] (.f f) l
abbrev Opx (f:Nat) (l:List Arg):Op:=.call .plain [] (.f f) l
abbrev Ipx (d s:Nat):Ins:=Ll d (.load Sx6 (.t s))
abbrev Ilx (d s:Nat):Ins:=Ll d (.load .leaf (.t s))
abbrev Isx (d s:Nat):Ins:=Ll d (.load Sx8 (.t s))
abbrev Iex (d s k:Nat):Ins:=Ll d (.ext (.t s) k)
abbrev Ibn (d:Nat) (o:Go.BinOp) (a b:Nat):Ins:=Ll d (.bin o (.t a) (.t b))
abbrev Ibc (d:Nat) (o:Go.BinOp) (a:Nat) (b:Int):Ins:=Ll d (.bin o (.t a) (Acx b))
abbrev Imc (d:Nat) (b:Int):Ins:=Ll d (.mv (Acx b))
abbrev Ien (d a:Nat):Ins:=Ll d (.len false (.t a))
abbrev Ibx (d i a:Nat):Ins:=Ll d (.box false i (.t a))
abbrev Ibz (d i:Nat):Ins:=Ll d (.box false i (.c (.arr 64 .leaf z64)))
abbrev Iz6 (d:Nat):Ins:=Ll d (.build false (.arr 64 .leaf z64) [])
abbrev Iia (d:Nat) (s:Sh) (a b:Nat):Ins:=Ll d (.idxA none s (.t a) (.t b))
abbrev Iis (d n:Nat) (s:Sh) (a b:Nat):Ins:=Ll d (.idxA (some n) s (.t a) (.t b))
abbrev Ian (d a b:Nat):Ins:=Ll d (.pick (.t a) (.t b) (.c (.bool false)))
abbrev Ior (d a b:Nat):Ins:=Ll d (.pick (.t a) (.c (.bool true)) (.t b))
abbrev Icv (d:Nat) (k:Go.IntKind) (a:Nat):Ins:=Ll d (.conv k (.t a))
abbrev Irg (a:List Ins) (k:List Nat) (c:Cd):Cd:=.seq (.region a k) c
abbrev Icd (a:Nat) (c d:Cd):Cd:=.cond (.t a) c d
end Pe

/-
 Functions of the program in the small form,printed by a program.
-/
namespace Pe
open Go
def Z1u_L0:Cd:=
 .seq (Irg [Lw 6 3,
 Ibc 7 .gtr 6 0,
 Lw 8 7,
 Lx 9 0 8 true,
 Lx 10 3 8 true,
 Lg 11 (.bin .sub (.t 10) (Acx 1)) 8 true,
 Lg 12 (.idxA none .leaf (.t 9) (.t 11)) 8 true,
 Lg 13 (.load .leaf (.t 12)) 8 true,
 Lg 14 (.bin .eql (.t 13) (Acx 0)) 8 true,
 Ian 15 8 14] [0,3,15]
 (Icd 15
 (.skip)
 (.exit 0)))
 (.block 1 (.region [Lw 16 3,
 Ibc 17 .sub 16 1,
 Lw 3 17] [0,3]))
def Z1u_B:Cd:=
 Irg [Ll 2 (.mv (.c (.sl .leaf [])))] [0]
 (Irg [Lw 4 0,
 Ien 5 4,
 Lw 3 5] [0,3]
 (.seq (.block 0 (.loop (Z1u_L0)))
 (Irg [Lw 18 0,
 Lw 19 3,
 Lw 20 3,
 Ll 21 (.cut none .leaf (.t 18) none (some (.t 19)) (some (.t 20))),
 Lw 2 21] [2]
 (.ret))))
def Z1u:Fn:=
 { nparams:=1,nblk:=0,results:=[.tmp 2],body:=Z1u_B }
def Z1o_L0:Cd:=
 Irg [Ibc 8 .lss 7 64] [3,6,7,8]
 (.seq (Icd 8
 (.skip)
 (.exit 0))
 (.seq (.block 1 (Irg [Ll 9 (.idx (some 64) .leaf (.t 6) (.t 7)),
 Lw 5 9] [3,5,6,7]
 (.region [Lw 10 3,
 Lw 11 5,
 Icv 12 .i64 11,
 Ll 13 (.buildSl false 2 .leaf (.int .i64 0) 1 [(0,(.t 12))]),
 Ll 14 (.append .leaf 3 8 (.t 10) (.t 13)),
 Lw 3 14] [3,6,7])))
 (.region [Ibc 15 .add 7 1,
 Lw 7 15] [3,6,7])))
def Z1o_B:Cd:=
 Irg [Ibx 1 0 0,
 Ll 2 (.mv (.c (.sl .leaf [])))] [1]
 (Irg [Ll 3 (.nilOwn 1 .leaf)] [1,3]
 (.seq (Irg [Ipx 6 1,
 Imc 7 0] [3,6,7]
 (.block 0 (.loop (Z1o_L0))))
 (Irg [Lw 16 3,
 Ll 17 (.call .data [] (.f F1u) [(.t 16)]),
 Lw 2 17] [2]
 (.ret))))
def Z1o:Fn:=
 { nparams:=1,nblk:=4,results:=[.tmp 2],body:=Z1o_B }
def Z1q_B:Cd:=
 Irg [Imc 2 0] [0]
 (Irg [Lw 3 0,
 Ien 4 3,
 Ibc 5 .sub 4 1,
 Lw 2 5] [2]
 (.ret))
def Z1q:Fn:=
 { nparams:=1,nblk:=0,results:=[.tmp 2],body:=Z1q_B }
def Zy_B:Cd:=
 Irg [Ll 2 (.mv (.c (.bool false)))] [0]
 (Irg [Lw 3 0,
 Ibc 4 .eql 3 2,
 Lw 5 4,
 Lx 6 0 5 false,
 Lg 7 (.bin .eql (.t 6) (Acx 3)) 5 false,
 Ior 8 5 7,
 Lw 9 8,
 Lx 10 0 9 false,
 Lg 11 (.bin .eql (.t 10) (Acx 5)) 9 false,
 Ior 12 9 11,
 Lw 13 12,
 Lx 14 0 13 false,
 Lg 15 (.bin .eql (.t 14) (Acx 7)) 13 false,
 Ior 16 13 15,
 Lw 2 16] [2]
 (.ret))
def Zy:Fn:=
 { nparams:=1,nblk:=0,results:=[.tmp 2],body:=Zy_B }
def Zh_B:Cd:=
 Irg [Ibx 2 0 0,
 Ll 3 (.mv (.c (.bool false)))] [1,2]
 (Irg [Ilx 4 1,
 Ipx 5 2,
 Ll 6 (.call .flat [] (.t 4) [(.t 5)]),
 Ll 7 (.un .not (.t 6)),
 Lw 3 7] [3]
 (.ret))
def Zh:Fn:=
 { nparams:=2,nblk:=1,results:=[.tmp 3],body:=Zh_B }
def Zg_B:Cd:=
 Irg [Ibx 3 0 1,
 Ll 4 (.mv (.c (.bool false)))] [0,3]
 (Irg [Lw 5 0,
 Ll 6 (.mkFn Fh [] [(.t 3)]),
 Ll 7 (Ofx F2b [(.t 5),(.t 6)]),
 Ll 8 (.un .not (.t 7)),
 Lw 4 8] [4]
 (.ret))
def Zg:Fn:=
 { nparams:=2,nblk:=1,results:=[.tmp 4],body:=Zg_B }
def Zf_B:Cd:=
 Irg [Ll 3 (.mv (.c (.bool false)))] [0,1]
 (Irg [Ilx 4 1,
 Lw 5 0,
 Ll 6 (.call .flat [] (.t 4) [(.t 5)]),
 Ll 7 (.un .not (.t 6)),
 Lw 3 7] [3]
 (.ret))
def Zf:Fn:=
 { nparams:=2,nblk:=0,results:=[.tmp 3],body:=Zf_B }
def Ze_B:Cd:=
 Irg [Ibx 3 0 1,
 Ll 4 (.mv (.c (.bool false)))] [0,3]
 (Irg [Lw 5 0,
 Ll 6 (.mkFn Ff [] [(.t 3)]),
 Ll 7 (Ofx F2a [(.t 5),(.t 6)]),
 Ll 8 (.un .not (.t 7)),
 Lw 4 8] [4]
 (.ret))
def Ze:Fn:=
 { nparams:=2,nblk:=1,results:=[.tmp 4],body:=Ze_B }
def Zx_B:Cd:=
 Irg [Ll 3 (.mv (.c (.bool false)))] [0,1]
 (Irg [Lw 4 0,
 Icv 5 .i64 4,
 Ilx 6 1,
 Ibn 7 .lss 5 6,
 Lw 3 7] [3]
 (.ret))
def Zx:Fn:=
 { nparams:=2,nblk:=0,results:=[.tmp 3],body:=Zx_B }
def Zw_B:Cd:=
 Irg [Ibx 2 0 0,
 Ibx 3 1 1,
 Ll 4 (.mv (.c (.bool false)))] [2,3]
 (Irg [Ll 5 (.cut (some 64) .leaf (.t 3) none none none),
 Ll 6 (.mkFn Fx [] [(.t 2)]),
 Ll 7 (Ofx Fe [(.t 5),(.t 6)]),
 Lw 4 7] [4]
 (.ret))
def Zw:Fn:=
 { nparams:=2,nblk:=2,results:=[.tmp 4],body:=Zw_B }
def Z21_B:Cd:=
 Irg [Ll 6 (.mv (.c (.bool false)))] [0,1,2]
 (Irg [Lw 7 1,
 Lw 8 0,
 Ibn 9 .leq 7 8,
 Lw 10 9,
 Lx 11 0 10 true,
 Lx 12 2 10 true,
 Lg 13 (.bin .leq (.t 11) (.t 12)) 10 true,
 Ian 14 10 13,
 Lw 6 14] [6]
 (.ret))
def Z21:Fn:=
 { nparams:=3,nblk:=0,results:=[.tmp 6],body:=Z21_B }
def Z1s_B:Cd:=
 Irg [Imc 2 0] [0]
 (.seq (Irg [Lw 3 0,
 Ien 4 3,
 Ibc 5 .eql 4 0] [0,5]
 (Icd 5
 (Irg [Imc 2 0] [2]
 (.ret))
 (.skip)))
 (Irg [Lw 6 0,
 Lw 7 0,
 Ien 8 7,
 Ibc 9 .sub 8 1,
 Iia 10 .leaf 6 9,
 Ilx 11 10,
 Lw 2 11] [2]
 (.ret)))
def Z1s:Fn:=
 { nparams:=1,nblk:=0,results:=[.tmp 2],body:=Z1s_B }
def Z1b_L0:Cd:=
 Irg [Ibn 10 .lss 9 8] [0,2,7,8,9,10]
 (.seq (Icd 10
 (.skip)
 (.exit 0))
 (.seq (.block 1 (.seq (Irg [Lw 11 7,
 Lw 12 2,
 Ibn 13 .gtr 11 12] [0,2,7,8,9,13]
 (Icd 13
 (.exit 0)
 (.skip)))
 (.region [Lw 14 7,
 Lw 15 0,
 Ibn 16 .mul 14 15,
 Lw 7 16] [0,2,7,8,9])))
 (.region [Ibc 17 .add 9 1,
 Lw 9 17] [0,2,7,8,9])))
def Z1b_B:Cd:=
 Irg [Imc 6 0] [0,1,2]
 (Irg [Imc 7 1] [0,1,2,7]
 (.seq (Irg [Lw 8 1,
 Imc 9 0] [0,2,7,8,9]
 (.block 0 (.loop (Z1b_L0))))
 (Irg [Lw 18 7,
 Lw 6 18] [6]
 (.ret))))
def Z1b:Fn:=
 { nparams:=3,nblk:=0,results:=[.tmp 6],body:=Z1b_B }
def Z1c_L0:Cd:=
 .seq (Irg [Lw 6 1,
 Ibc 7 .gtr 6 0] [0,1,5,7]
 (Icd 7
 (.skip)
 (.exit 0)))
 (.seq (.block 1 (.region [Lw 11 5,
 Lw 12 1,
 Lw 13 0,
 Ibn 14 .rem 12 13,
 Ll 15 (.buildSl false 1 .leaf (.int .i64 0) 1 [(0,(.t 14))]),
 Ll 16 (.append .leaf 2 8 (.t 11) (.t 15)),
 Lw 5 16] [0,1,5]))
 (.region [Lw 8 1,
 Lw 9 0,
 Ibn 10 .quo 8 9,
 Lw 1 10] [0,1,5]))
def Z1c_B:Cd:=
 Irg [Ll 4 (.mv (.c (.sl .leaf [])))] [0,1]
 (Irg [Ll 5 (.nilOwn 0 .leaf)] [0,1,5]
 (.seq (.block 0 (.loop (Z1c_L0)))
 (Irg [Lw 17 5,
 Lw 4 17] [4]
 (.ret))))
def Z1c:Fn:=
 { nparams:=2,nblk:=3,results:=[.tmp 4],body:=Z1c_B }
def Z1f_B:Cd:=
 Irg [Imc 4 0] [0,1]
 (Irg [Lw 5 1,
 Lw 6 0,
 Ibn 7 .rem 5 6,
 Lw 8 0,
 Ibn 9 .add 7 8,
 Lw 10 0,
 Ibn 11 .rem 9 10,
 Lw 4 11] [4]
 (.ret))
def Z1f:Fn:=
 { nparams:=2,nblk:=0,results:=[.tmp 4],body:=Z1f_B }
def Z1p_B:Cd:=
 Irg [Imc 4 0] [0,1]
 (.seq (Irg [Lw 5 1,
 Lw 6 0,
 Ien 7 6,
 Ibn 8 .lss 5 7] [0,1,8]
 (Icd 8
 (Irg [Lw 9 0,
 Lw 10 1,
 Iia 11 .leaf 9 10,
 Ilx 12 11,
 Lw 4 12] [4]
 (.ret))
 (.skip)))
 (Irg [Imc 4 0] [4]
 (.ret)))
def Z1p:Fn:=
 { nparams:=2,nblk:=0,results:=[.tmp 4],body:=Z1p_B }
def Z13_L0:Cd:=
 Irg [Ibn 20 .lss 19 18] [0,1,2,3,9,18,19,20]
 (.seq (Icd 20
 (.skip)
 (.exit 0))
 (.seq (.block 1 (Irg [Lw 21 19,
 Lw 10 21] [0,1,2,3,9,10,18,19]
 (.region [Lw 22 9,
 Lw 23 10,
 Lw 24 0,
 Lw 25 1,
 Lw 26 10,
 Ll 27 (Ofx F1p [(.t 25),(.t 26)]),
 Lw 28 3,
 Lw 29 2,
 Lw 30 10,
 Ll 31 (Ofx F1p [(.t 29),(.t 30)]),
 Ibn 32 .mul 28 31,
 Ibn 33 .add 27 32,
 Ll 34 (Ofx F1f [(.t 24),(.t 33)]),
 Iia 35 .leaf 22 23,
 Ls (.store false .leaf (.t 35) (.t 34))] [0,1,2,3,9,18,19])))
 (.region [Ibc 36 .add 19 1,
 Lw 19 36] [0,1,2,3,9,18,19])))
def Z13_B:Cd:=
 Irg [Ll 8 (.mv (.c (.sl .leaf [])))] [0,1,2,3]
 (Irg [Lw 11 1,
 Ien 12 11,
 Lw 13 2,
 Ien 14 13,
 Ll 15 (.maxI (.t 12) (.t 14)),
 Ll 16 (.mkSl 0 .leaf (.int .i64 0) 8 (.t 15) (.t 15)),
 Lw 9 16] [0,1,2,3,9]
 (.seq (Irg [Lw 17 9,
 Ien 18 17,
 Imc 19 0] [0,1,2,3,9,18,19]
 (.block 0 (.loop (Z13_L0))))
 (Irg [Lw 37 9,
 Ll 38 (.call .data [] (.f F1u) [(.t 37)]),
 Lw 8 38] [8]
 (.ret))))
def Z13:Fn:=
 { nparams:=4,nblk:=1,results:=[.tmp 8],body:=Z13_B }
def Z1l_L0:Cd:=
 Irg [Ibn 39 .lss 38 37] [0,2,7,8,9,29,30,31,36,37,38,39]
 (.seq (Icd 39
 (.skip)
 (.exit 2))
 (.seq (.block 3 (Irg [Lw 40 38,
 Iia 41 .leaf 36 38,
 Ilx 42 41,
 Lw 10 40,
 Lw 11 42] [0,2,7,8,9,10,11,29,30,31,36,37,38]
 (.region [Lw 43 7,
 Lw 44 8,
 Lw 45 10,
 Ibn 46 .add 44 45,
 Iia 47 .leaf 43 46,
 Ilx 48 47,
 Lw 49 9,
 Lw 50 11,
 Ibn 51 .mul 49 50,
 Ibn 52 .add 48 51,
 Iia 53 .leaf 43 46,
 Ls (.store false .leaf (.t 53) (.t 52))] [0,2,7,8,9,29,30,31,36,37,38])))
 (.region [Ibc 54 .add 38 1,
 Lw 38 54] [0,2,7,8,9,29,30,31,36,37,38])))
def Z1l_L1:Cd:=
 Irg [Ibn 32 .lss 31 30] [0,2,7,29,30,31,32]
 (.seq (Icd 32
 (.skip)
 (.exit 0))
 (.seq (.block 1 (Irg [Lw 33 31,
 Iia 34 .leaf 29 31,
 Ilx 35 34,
 Lw 8 33,
 Lw 9 35] [0,2,7,8,9,29,30,31]
 (Irg [Lw 36 2,
 Ien 37 36,
 Imc 38 0] [0,2,7,8,9,29,30,31,36,37,38]
 (.block 2 (.loop (Z1l_L0))))))
 (.region [Ibc 55 .add 31 1,
 Lw 31 55] [0,2,7,29,30,31])))
def Z1l_L2:Cd:=
 Irg [Ibn 59 .lss 58 57] [0,7,56,57,58,59]
 (.seq (Icd 59
 (.skip)
 (.exit 4))
 (.seq (.block 5 (Irg [Lw 60 58,
 Iia 61 .leaf 56 58,
 Ilx 62 61,
 Lw 12 60,
 Lw 13 62] [0,7,12,13,56,57,58]
 (.region [Lw 63 7,
 Lw 64 12,
 Lw 65 13,
 Lw 66 0,
 Ibn 67 .rem 65 66,
 Iia 68 .leaf 63 64,
 Ls (.store false .leaf (.t 68) (.t 67))] [0,7,56,57,58])))
 (.region [Ibc 69 .add 58 1,
 Lw 58 69] [0,7,56,57,58])))
def Z1l_B:Cd:=
 Irg [Ll 6 (.mv (.c (.sl .leaf [])))] [0,1,2]
 (.seq (Irg [Lw 14 1,
 Ien 15 14,
 Ibc 16 .eql 15 0,
 Lw 17 16,
 Lx 18 2 17 false,
 Lg 19 (.len false (.t 18)) 17 false,
 Lg 20 (.bin .eql (.t 19) (Acx 0)) 17 false,
 Ior 21 17 20] [0,1,2,21]
 (Icd 21
 (Irg [Ll 6 (.mv (.c (.sl .leaf [])))] [6]
 (.ret))
 (.skip)))
 (Irg [Lw 22 1,
 Ien 23 22,
 Lw 24 2,
 Ien 25 24,
 Ibn 26 .add 23 25,
 Ibc 27 .sub 26 1,
 Ll 28 (.mkSl 0 .leaf (.int .i64 0) 8 (.t 27) (.t 27)),
 Lw 7 28] [0,1,2,7]
 (.seq (Irg [Lw 29 1,
 Ien 30 29,
 Imc 31 0] [0,2,7,29,30,31]
 (.block 0 (.loop (Z1l_L1))))
 (.seq (Irg [Lw 56 7,
 Ien 57 56,
 Imc 58 0] [0,7,56,57,58]
 (.block 4 (.loop (Z1l_L2))))
 (Irg [Lw 70 7,
 Ll 71 (.call .data [] (.f F1u) [(.t 70)]),
 Lw 6 71] [6]
 (.ret))))))
def Z1l:Fn:=
 { nparams:=3,nblk:=1,results:=[.tmp 6],body:=Z1l_B }
def Z1j_B:Cd:=
 Irg [Ll 6 (.mv (.c (.sl .leaf [])))] [0,1,2]
 (Irg [Lw 7 0,
 Lw 8 1,
 Lw 9 2,
 Ll 10 (Opx F13 [(.t 7),(.c (.sl .leaf [])),(.t 8),(.t 9)]),
 Lw 6 10] [6]
 (.ret))
def Z1j:Fn:=
 { nparams:=3,nblk:=0,results:=[.tmp 6],body:=Z1j_B }
def Z19_L0:Cd:=
 Irg [Ibn 9 .lss 8 7] [0,1,5,7,8,9]
 (.seq (Icd 9
 (.skip)
 (.exit 0))
 (.seq (.block 1 (.region [Lw 10 5,
 Lw 11 1,
 Ibn 12 .mul 10 11,
 Lw 13 0,
 Ibn 14 .rem 12 13,
 Lw 5 14] [0,1,5,7,8]))
 (.region [Ibc 15 .add 8 1,
 Lw 8 15] [0,1,5,7,8])))
def Z19_B:Cd:=
 Irg [Imc 4 0] [0,1]
 (Irg [Imc 5 1] [0,1,5]
 (.seq (Irg [Lw 6 0,
 Ibc 7 .sub 6 2,
 Imc 8 0] [0,1,5,7,8]
 (.block 0 (.loop (Z19_L0))))
 (Irg [Lw 16 5,
 Lw 4 16] [4]
 (.ret))))
def Z19:Fn:=
 { nparams:=2,nblk:=0,results:=[.tmp 4],body:=Z19_B }
def Z15_L0:Cd:=
 Irg [Ibn 60 .lss 59 58] [0,2,8,9,10,11,12,57,58,59,60]
 (.seq (Icd 60
 (.skip)
 (.exit 2))
 (.seq (.block 3 (Irg [Lw 61 59,
 Iia 62 .leaf 57 59,
 Ilx 63 62,
 Lw 13 61,
 Lw 14 63] [0,2,8,9,10,11,12,13,14,57,58,59]
 (.region [Lw 64 8,
 Lw 65 11,
 Lw 66 13,
 Ibn 67 .add 65 66,
 Lw 68 0,
 Lw 69 8,
 Lw 70 11,
 Lw 71 13,
 Ibn 72 .add 70 71,
 Iia 73 .leaf 69 72,
 Ilx 74 73,
 Lw 75 12,
 Lw 76 14,
 Ibn 77 .mul 75 76,
 Ibn 78 .sub 74 77,
 Ll 79 (Ofx F1f [(.t 68),(.t 78)]),
 Iia 80 .leaf 64 67,
 Ls (.store false .leaf (.t 80) (.t 79))] [0,2,8,9,10,11,12,57,58,59])))
 (.region [Ibc 81 .add 59 1,
 Lw 59 81] [0,2,8,9,10,11,12,57,58,59])))
def Z15_L1:Cd:=
 .seq (Irg [Lw 37 11,
 Ibc 38 .geq 37 0] [0,2,8,9,10,11,38]
 (Icd 38
 (.skip)
 (.exit 0)))
 (.seq (.block 1 (Irg [Lw 41 8,
 Lw 42 11,
 Lw 43 2,
 Ien 44 43,
 Ibn 45 .add 42 44,
 Ibc 46 .sub 45 1,
 Iia 47 .leaf 41 46,
 Ilx 48 47,
 Lw 49 10,
 Ibn 50 .mul 48 49,
 Lw 51 0,
 Ibn 52 .rem 50 51,
 Lw 12 52] [0,2,8,9,10,11,12]
 (Irg [Lw 53 9,
 Lw 54 11,
 Lw 55 12,
 Iia 56 .leaf 53 54,
 Ls (.store false .leaf (.t 56) (.t 55))] [0,2,8,9,10,11,12]
 (Irg [Lw 57 2,
 Ien 58 57,
 Imc 59 0] [0,2,8,9,10,11,12,57,58,59]
 (.block 2 (.loop (Z15_L0)))))))
 (.region [Lw 39 11,
 Ibc 40 .sub 39 1,
 Lw 11 40] [0,2,8,9,10,11]))
def Z15_B:Cd:=
 Irg [Ll 6 (.mv (.c (.sl .leaf []))),
 Ll 7 (.mv (.c (.sl .leaf [])))] [0,1,2]
 (Irg [Lw 15 1,
 Ll 16 (.call .heap [0] (.f F28) [(.t 15)]),
 Lw 8 16] [0,1,2,8]
 (.seq (Irg [Lw 17 1,
 Ien 18 17,
 Lw 19 2,
 Ien 20 19,
 Ibn 21 .lss 18 20] [0,1,2,8,21]
 (Icd 21
 (Irg [Lw 22 8,
 Ll 6 (.mv (.c (.sl .leaf []))),
 Lw 7 22] [6,7]
 (.ret))
 (.skip)))
 (Irg [Lw 23 1,
 Ien 24 23,
 Lw 25 2,
 Ien 26 25,
 Ibn 27 .sub 24 26,
 Ibc 28 .add 27 1,
 Ll 29 (.mkSl 1 .leaf (.int .i64 0) 8 (.t 28) (.t 28)),
 Lw 9 29] [0,2,8,9]
 (Irg [Lw 30 0,
 Lw 31 2,
 Ll 32 (Ofx F1s [(.t 31)]),
 Ll 33 (Ofx F19 [(.t 30),(.t 32)]),
 Lw 10 33] [0,2,8,9,10]
 (.seq (Irg [Lw 34 9,
 Ien 35 34,
 Ibc 36 .sub 35 1,
 Lw 11 36] [0,2,8,9,10,11]
 (.block 0 (.loop (Z15_L1))))
 (Irg [Lw 82 9,
 Ll 83 (.call .data [] (.f F1u) [(.t 82)]),
 Lw 84 8,
 Ll 85 (.call .data [] (.f F1u) [(.t 84)]),
 Lw 6 83,
 Lw 7 85] [6,7]
 (.ret)))))))
def Z15:Fn:=
 { nparams:=3,nblk:=2,results:=[.tmp 6,.tmp 7],body:=Z15_B }
def Z12_L0:Cd:=
 .seq (Irg [Lw 18 2,
 Ien 19 18,
 Ibc 20 .gtr 19 0] [0,1,2,9,10,11,12,20]
 (Icd 20
 (.skip)
 (.exit 0)))
 (.block 1 (Irg [Lw 22 0,
 Lw 23 1,
 Lw 24 2,
 Ll 25 (Opx F15 [(.t 22),(.t 23),(.t 24)]),
 Lw 21 25,
 Iex 26 21 0,
 Iex 27 21 1,
 Lw 13 26,
 Lw 14 27] [0,2,9,10,11,12,13,14]
 (Irg [Lw 28 2,
 Lw 29 14,
 Lw 1 28,
 Lw 2 29] [0,1,2,9,10,11,12,13]
 (Irg [Lw 30 11,
 Lw 31 0,
 Lw 32 9,
 Lw 33 0,
 Lw 34 13,
 Lw 35 11,
 Ll 36 (Opx F1l [(.t 33),(.t 34),(.t 35)]),
 Ll 37 (.call .data [] (.f F13) [(.t 31),(.t 32),(.t 36),(Acx (-1))]),
 Lw 9 30,
 Lw 11 37] [0,1,2,9,10,11,12,13]
 (.region [Lw 38 12,
 Lw 39 0,
 Lw 40 10,
 Lw 41 0,
 Lw 42 13,
 Lw 43 12,
 Ll 44 (.call .data [] (.f F1l) [(.t 41),(.t 42),(.t 43)]),
 Ll 45 (.call .data [] (.f F13) [(.t 39),(.t 40),(.t 44),(Acx (-1))]),
 Lw 10 38,
 Lw 12 45] [0,1,2,9,10,11,12])))))
def Z12_B:Cd:=
 Irg [Ll 6 (.mv (.c (.sl .leaf []))),
 Ll 7 (.mv (.c (.sl .leaf []))),
 Ll 8 (.mv (.c (.sl .leaf [])))] [0,1,2]
 (Irg [Ll 16 (.buildSl false 0 .leaf (.int .i64 0) 1 [(0,(Acx 1))]),
 Lw 9 16,
 Ll 10 (.mv (.c (.sl .leaf [])))] [0,1,2,9,10]
 (Irg [Ll 17 (.buildSl false 1 .leaf (.int .i64 0) 1 [(0,(Acx 1))]),
 Ll 11 (.mv (.c (.sl .leaf []))),
 Lw 12 17] [0,1,2,9,10,11,12]
 (.seq (.block 0 (.loop (Z12_L0)))
 (Irg [Lw 46 0,
 Lw 47 1,
 Ll 48 (Ofx F1s [(.t 47)]),
 Ll 49 (Ofx F19 [(.t 46),(.t 48)]),
 Lw 15 49] [0,1,9,10,15]
 (Irg [Lw 50 0,
 Lw 51 1,
 Lw 52 15,
 Ll 53 (Opx F1j [(.t 50),(.t 51),(.t 52)]),
 Lw 54 0,
 Lw 55 9,
 Lw 56 15,
 Ll 57 (.call .data [] (.f F1j) [(.t 54),(.t 55),(.t 56)]),
 Lw 58 0,
 Lw 59 10,
 Lw 60 15,
 Ll 61 (.call .data [] (.f F1j) [(.t 58),(.t 59),(.t 60)]),
 Lw 6 53,
 Lw 7 57,
 Lw 8 61] [6,7,8]
 (.ret))))))
def Z12:Fn:=
 { nparams:=3,nblk:=2,results:=[.tmp 6,.tmp 7,.tmp 8],body:=Z12_B }
def Z18_B:Cd:=
 Irg [Ll 6 (.mv (.c (.sl .leaf [])))] [0,1,2]
 (Irg [Lw 11 0,
 Lw 12 1,
 Lw 13 2,
 Ll 14 (Opx F12 [(.t 11),(.t 12),(.t 13)]),
 Lw 10 14,
 Iex 15 10 0,
 Iex 16 10 1,
 Iex 17 10 2,
 Lw 7 15,
 Lw 8 16,
 Lw 9 17] [7]
 (Irg [Lw 18 7,
 Lw 6 18] [6]
 (.ret)))
def Z18:Fn:=
 { nparams:=3,nblk:=0,results:=[.tmp 6],body:=Z18_B }
def Z1i_B:Cd:=
 Irg [Ll 6 (.mv (.c (.sl .leaf [])))] [0,1,2]
 (Irg [Lw 10 0,
 Lw 11 1,
 Lw 12 2,
 Ll 13 (Opx F15 [(.t 10),(.t 11),(.t 12)]),
 Lw 9 13,
 Iex 14 9 0,
 Iex 15 9 1,
 Lw 7 14,
 Lw 8 15] [8]
 (Irg [Lw 16 8,
 Lw 6 16] [6]
 (.ret)))
def Z1i:Fn:=
 { nparams:=3,nblk:=0,results:=[.tmp 6],body:=Z1i_B }
def Z1d_L0:Cd:=
 .seq (Irg [Lw 19 2,
 Ibc 20 .gtr 19 0] [0,2,3,9,10,20]
 (Icd 20
 (.skip)
 (.exit 0)))
 (.seq (.block 1 (.seq (Irg [Lw 23 2,
 Ibc 24 .and 23 1,
 Ibc 25 .eql 24 1] [0,2,3,9,10,25]
 (Icd 25
 (.region [Lw 26 0,
 Lw 27 0,
 Lw 28 9,
 Lw 29 10,
 Ll 30 (Opx F1l [(.t 27),(.t 28),(.t 29)]),
 Lw 31 3,
 Ll 32 (Opx F1i [(.t 26),(.t 30),(.t 31)]),
 Lw 9 32] [0,2,3,9,10])
 (.skip)))
 (.region [Lw 33 0,
 Lw 34 0,
 Lw 35 10,
 Lw 36 10,
 Ll 37 (Opx F1l [(.t 34),(.t 35),(.t 36)]),
 Lw 38 3,
 Ll 39 (Opx F1i [(.t 33),(.t 37),(.t 38)]),
 Lw 10 39] [0,2,3,9,10])))
 (.region [Lw 21 2,
 Ll 22 (.bin .shr (.t 21) (.c (.int .u64 1))),
 Lw 2 22] [0,2,3,9,10]))
def Z1d_B:Cd:=
 Irg [Ll 8 (.mv (.c (.sl .leaf [])))] [0,1,2,3]
 (Irg [Lw 11 0,
 Ll 12 (.buildSl false 0 .leaf (.int .i64 0) 1 [(0,(Acx 1))]),
 Lw 13 3,
 Ll 14 (.call .data [] (.f F1i) [(.t 11),(.t 12),(.t 13)]),
 Lw 15 0,
 Lw 16 1,
 Lw 17 3,
 Ll 18 (Opx F1i [(.t 15),(.t 16),(.t 17)]),
 Lw 9 14,
 Lw 10 18] [0,2,3,9,10]
 (.seq (.block 0 (.loop (Z1d_L0)))
 (Irg [Lw 40 9,
 Lw 8 40] [8]
 (.ret))))
def Z1d:Fn:=
 { nparams:=4,nblk:=1,results:=[.tmp 8],body:=Z1d_B }
def Z5_B:Cd:=
 Irg [Ibx 3 0 1,
 Ll 4 (.mv (.c (.bool false)))] [0,3]
 (Irg [Lw 5 0,
 Ll 6 (Ofx Fy [(.t 5)]),
 Lw 7 6,
 Lx 8 0 7 true,
 Lg 9 (.load Sx6 (.t 3)) 7 true,
 Lg 10 (Ofx Fw [(.t 8),(.t 9)]) 7 true,
 Ian 11 7 10,
 Lw 4 11] [4]
 (.ret))
def Z5:Fn:=
 { nparams:=2,nblk:=1,results:=[.tmp 4],body:=Z5_B }
def Z1t_L0:Cd:=
 Irg [Ibn 9 .lss 8 7] [2,3,6,7,8,9]
 (.seq (Icd 9
 (.skip)
 (.exit 0))
 (.seq (.block 1 (Irg [Lw 10 8,
 Iia 11 .leaf 6 8,
 Ilx 12 11,
 Lw 4 10,
 Lw 5 12] [2,3,4,5,6,7,8]
 (.region [Lw 13 4,
 Lw 14 5,
 Icv 15 .u8 14,
 Iis 16 64 .leaf 3 13,
 Ls (.store false .leaf (.t 16) (.t 15))] [2,3,6,7,8])))
 (.region [Ibc 17 .add 8 1,
 Lw 8 17] [2,3,6,7,8])))
def Z1t_B:Cd:=
 Irg [Ibz 2 0] [0,2]
 (Irg [Ibz 3 1] [0,2,3]
 (.seq (Irg [Lw 6 0,
 Ien 7 6,
 Imc 8 0] [2,3,6,7,8]
 (.block 0 (.loop (Z1t_L0))))
 (Irg [Ipx 18 3,
 Ls (.store false Sx6 (.t 2) (.t 18))] [2]
 (.ret))))
def Z1t:Fn:=
 { nparams:=1,nblk:=2,results:=[.cell 2 Sx6],body:=Z1t_B }
def Z1r_B:Cd:=
 Irg [Ll 2 (.mv (.c (.bool false)))] [0]
 (Irg [Lw 3 0,
 Ll 4 (Ofx F1q [(.t 3)]),
 Ibc 5 .leq 4 63,
 Lw 2 5] [2]
 (.ret))
def Z1r:Fn:=
 { nparams:=1,nblk:=0,results:=[.tmp 2],body:=Z1r_B }
def Z1z_B:Cd:=
 Irg [Ibz 2 0,
 Imc 3 0] [0,2]
 (.seq (Irg [Lw 4 0,
 Ll 5 (Ofx F1r [(.t 4)]),
 Ll 6 (.un .not (.t 5))] [0,2,6]
 (Icd 6
 (Irg [Iz6 7,
 Ls (.store false Sx6 (.t 2) (.t 7)),
 Imc 3 3] [2,3]
 (.ret))
 (.skip)))
 (Irg [Lw 8 0,
 Ll 9 (Ofx F1t [(.t 8)]),
 Ls (.store false Sx6 (.t 2) (.t 9)),
 Imc 3 0] [2,3]
 (.ret)))
def Z1z:Fn:=
 { nparams:=1,nblk:=1,results:=[.cell 2 Sx6,.tmp 3],body:=Z1z_B }
def Z11_L0:Cd:=
 Irg [Ibn 9 .lss 8 7] [3,6,7,8,9]
 (.seq (Icd 9
 (.skip)
 (.exit 0))
 (.seq (.block 1 (Irg [Iia 10 .leaf 6 8,
 Ilx 11 10,
 Lw 5 11] [3,5,6,7,8]
 (.region [Lw 12 3,
 Lw 13 5,
 Ll 14 (Ofx F1t [(.t 13)]),
 Ll 15 (.buildSl false 1 Sx6 (.arr 64 .leaf z64) 1 [(0,(.t 14))]),
 Ll 16 (.append Sx6 2 64 (.t 12) (.t 15)),
 Lw 3 16] [3,6,7,8])))
 (.region [Ibc 17 .add 8 1,
 Lw 8 17] [3,6,7,8])))
def Z11_B:Cd:=
 Irg [Ll 2 (.mv (.c (.sl Sx6 [])))] [0]
 (Irg [Ll 3 (.nilOwn 0 Sx6)] [0,3]
 (.seq (Irg [Lw 6 0,
 Ien 7 6,
 Imc 8 0] [3,6,7,8]
 (.block 0 (.loop (Z11_L0))))
 (Irg [Lw 18 3,
 Lw 2 18] [2]
 (.ret))))
def Z11:Fn:=
 { nparams:=1,nblk:=3,results:=[.tmp 2],body:=Z11_B }
end Pe

/-
 Functions of the program in the small form,printed by a program.
-/
namespace Pe
open Go
def Zz_B:Cd:=
 Irg [Ll 0 (.mv (.c (.sl .leaf [])))] []
 (Irg [Ll 1 (.buildSl false 0 .leaf (.int .i64 0) 2 [(0,(Acx 0)),(1,(Acx 1))]),
 Lw 0 1] [0]
 (.ret))
def Zz:Fn:=
 { nparams:=0,nblk:=1,results:=[.tmp 0],body:=Zz_B }
def Z1m_L0:Cd:=
 .seq (Irg [Lw 25 8,
 Lw 26 7,
 Ll 27 (.bin .mul (Acx 2) (.t 26)),
 Ibn 28 .lss 25 27] [0,1,7,8,28]
 (Icd 28
 (.skip)
 (.exit 0)))
 (.seq (.block 1 (Irg [Lw 31 0,
 Lw 32 8,
 Ll 33 (Opx F1c [(.t 31),(.t 32)]),
 Lw 9 33] [0,1,7,8,9]
 (Irg [Lw 34 0,
 Lw 35 1,
 Lw 36 9,
 Ll 37 (Opx F1i [(.t 34),(.t 35),(.t 36)]),
 Ien 38 37,
 Ibc 39 .eql 38 0] [0,1,7,8,9,39]
 (Icd 39
 (Irg [Lw 40 9,
 Lw 6 40] [6]
 (.ret))
 (.skip)))))
 (.region [Lw 29 8,
 Ibc 30 .add 29 1,
 Lw 8 30] [0,1,7,8]))
def Z1m_B:Cd:=
 Irg [Ll 6 (.mv (.c (.sl .leaf [])))] [0,1,2]
 (.seq (Irg [Lw 10 1,
 Ll 11 (Ofx F1q [(.t 10)]),
 Lw 12 2,
 Ibn 13 .eql 11 12] [0,1,2,13]
 (Icd 13
 (Irg [Lw 14 0,
 Lw 15 1,
 Lw 16 0,
 Lw 17 1,
 Ll 18 (Ofx F1s [(.t 17)]),
 Ll 19 (Ofx F19 [(.t 16),(.t 18)]),
 Ll 20 (Opx F1j [(.t 14),(.t 15),(.t 19)]),
 Lw 6 20] [6]
 (.ret))
 (.skip)))
 (Irg [Lw 21 0,
 Lw 22 2,
 Ll 23 (Ofx F1b [(.t 21),(.t 22),(Acx 1099511627776)]),
 Lw 7 23] [0,1,7]
 (.seq (Irg [Lw 24 7,
 Lw 8 24] [0,1,7,8]
 (.block 0 (.loop (Z1m_L0))))
 (Irg [Lw 41 1,
 Lw 6 41] [6]
 (.ret)))))
def Z1m:Fn:=
 { nparams:=3,nblk:=0,results:=[.tmp 6],body:=Z1m_B }
def Z1k_L0:Cd:=
 .block 1 (Irg [Lw 12 0,
 Lw 13 1,
 Lw 14 2,
 Ll 15 (Opx F15 [(.t 12),(.t 13),(.t 14)]),
 Lw 11 15,
 Iex 16 11 0,
 Iex 17 11 1,
 Lw 9 16,
 Lw 10 17] [0,1,2,8,9,10]
 (.seq (Irg [Lw 18 10,
 Ien 19 18,
 Ibc 20 .gtr 19 0] [0,1,2,8,9,20]
 (Icd 20
 (Irg [Lw 21 1,
 Lw 22 8,
 Lw 6 21,
 Lw 7 22] [6,7]
 (.ret))
 (.skip)))
 (Irg [Lw 23 9,
 Lw 1 23] [0,1,2,8]
 (.region [Lw 24 8,
 Ibc 25 .add 24 1,
 Lw 8 25] [0,1,2,8]))))
def Z1k_B:Cd:=
 Irg [Ll 6 (.mv (.c (.sl .leaf []))),
 Imc 7 0] [0,1,2]
 (Irg [Imc 8 0] [0,1,2,8]
 (.block 0 (.loop (Z1k_L0))))
def Z1k:Fn:=
 { nparams:=3,nblk:=0,results:=[.tmp 6,.tmp 7],body:=Z1k_B }
def Zi_L0:Cd:=
 .seq (Irg [Lw 19 6,
 Ibc 20 .geq 19 0] [0,1,6,20]
 (Icd 20
 (.skip)
 (.exit 0)))
 (.seq (.block 1 (Irg [Lw 23 0,
 Lw 24 6,
 Iia 25 .leaf 23 24,
 Ilx 26 25,
 Lw 27 1,
 Lw 28 6,
 Iia 29 .leaf 27 28,
 Ilx 30 29,
 Ll 31 (Ofx F1 [(.t 26),(.t 30)]),
 Lw 7 31] [0,1,6,7]
 (Irg [Lw 32 7,
 Ibc 33 .neq 32 0] [0,1,6,7,33]
 (Icd 33
 (Irg [Lw 34 7,
 Lw 4 34] [4]
 (.ret))
 (.skip)))))
 (.region [Lw 21 6,
 Ibc 22 .sub 21 1,
 Lw 6 22] [0,1,6]))
def Zi_B:Cd:=
 Irg [Imc 4 0] [0,1]
 (.seq (Irg [Lw 8 0,
 Ien 9 8,
 Lw 10 1,
 Ien 11 10,
 Ll 12 (Ofx F0 [(.t 9),(.t 11)]),
 Lw 5 12] [0,1,5]
 (Irg [Lw 13 5,
 Ibc 14 .neq 13 0] [0,1,5,14]
 (Icd 14
 (Irg [Lw 15 5,
 Lw 4 15] [4]
 (.ret))
 (.skip))))
 (.seq (Irg [Lw 16 0,
 Ien 17 16,
 Ibc 18 .sub 17 1,
 Lw 6 18] [0,1,6]
 (.block 0 (.loop (Zi_L0))))
 (Irg [Imc 4 0] [4]
 (.ret))))
def Zi:Fn:=
 { nparams:=2,nblk:=0,results:=[.tmp 4],body:=Zi_B }
def Z17_B:Cd:=
 Irg [Ibx 2 0 0,
 Ibx 3 1 1,
 Imc 4 0] [2,3]
 (Irg [Ll 5 (.fldA [.leaf,.leaf] (.t 2) 0),
 Ilx 6 5,
 Ll 7 (.fldA [.leaf,.leaf] (.t 3) 0),
 Ilx 8 7,
 Ll 9 (Ofx Fi [(.t 6),(.t 8)]),
 Lw 4 9] [4]
 (.ret))
def Z17:Fn:=
 { nparams:=2,nblk:=2,results:=[.tmp 4],body:=Z17_B }
def Z16_L0:Cd:=
 Irg [Ibn 36 .lss 35 34] [0,1,5,6,7,34,35,36]
 (.seq (Icd 36
 (.skip)
 (.exit 2))
 (.seq (.block 3 (.region [Lw 37 0,
 Lw 38 7,
 Lw 39 0,
 Lw 40 1,
 Ll 41 (Opx F1d [(.t 37),(.t 38),(.t 39),(.t 40)]),
 Lw 7 41] [0,1,5,6,7,34,35]))
 (.region [Ibc 42 .add 35 1,
 Lw 35 42] [0,1,5,6,7,34,35])))
def Z16_L1:Cd:=
 .seq (Irg [Lw 50 8,
 Ll 51 (Ofx F1q [(.t 50)]),
 Ibc 52 .gtr 51 0] [0,1,5,6,8,52]
 (Icd 52
 (.skip)
 (.exit 4)))
 (.block 5 (Irg [Lw 53 0,
 Lw 54 8,
 Lw 55 6,
 Ll 56 (Opx F1m [(.t 53),(.t 54),(.t 55)]),
 Lw 9 56] [0,1,5,6,8,9]
 (Irg [Lw 58 0,
 Lw 59 1,
 Lw 60 9,
 Ll 61 (Opx F1k [(.t 58),(.t 59),(.t 60)]),
 Lw 57 61,
 Iex 62 57 0,
 Iex 63 57 1,
 Lw 10 62,
 Lw 11 63] [0,5,6,8,9,10,11]
 (Irg [Lw 64 10,
 Lw 1 64] [0,1,5,6,8,9,11]
 (Irg [Lw 66 0,
 Lw 67 8,
 Lw 68 9,
 Ll 69 (Opx F1k [(.t 66),(.t 67),(.t 68)]),
 Lw 65 69,
 Iex 70 65 0,
 Iex 71 65 1,
 Lw 8 70] [0,1,5,6,8,9,11]
 (.region [Lw 72 5,
 Lw 73 9,
 Lw 74 11,
 Ll 75 (.build false (.st [.leaf,.leaf] [(.sl .leaf []),(.int .i64 0)]) [(0,(.t 73)),(1,(.t 74))]),
 Ll 76 (.buildSl false 3 (.st [.leaf,.leaf]) (.st [.leaf,.leaf] [(.sl .leaf []),(.int .i64 0)]) 1 [(0,(.t 75))]),
 Ll 77 (.append (.st [.leaf,.leaf]) 4 32 (.t 72) (.t 76)),
 Lw 5 77] [0,1,5,6,8]))))))
def Z16_L2:Cd:=
 .seq (Irg [Lw 12 1,
 Ll 13 (Ofx F1q [(.t 12)]),
 Ibc 14 .gtr 13 0] [0,1,5,6,14]
 (Icd 14
 (.skip)
 (.exit 0)))
 (.seq (.block 1 (.seq (Irg [Lw 17 6,
 Ll 18 (.bin .mul (Acx 2) (.t 17)),
 Lw 19 1,
 Ll 20 (Ofx F1q [(.t 19)]),
 Ibn 21 .gtr 18 20] [0,1,5,6,21]
 (Icd 21
 (Irg [Lw 22 5,
 Lw 23 0,
 Lw 24 1,
 Lw 25 0,
 Lw 26 1,
 Ll 27 (Ofx F1s [(.t 26)]),
 Ll 28 (Ofx F19 [(.t 25),(.t 27)]),
 Ll 29 (Opx F1j [(.t 23),(.t 24),(.t 28)]),
 Ll 30 (.build false (.st [.leaf,.leaf] [(.sl .leaf []),(.int .i64 0)]) [(0,(.t 29)),(1,(Acx 1))]),
 Ll 31 (.buildSl false 1 (.st [.leaf,.leaf]) (.st [.leaf,.leaf] [(.sl .leaf []),(.int .i64 0)]) 1 [(0,(.t 30))]),
 Ll 32 (.append (.st [.leaf,.leaf]) 2 32 (.t 22) (.t 31)),
 Lw 5 32] [5]
 (.exit 0))
 (.skip)))
 (Irg [Ll 33 (Opx Fz []),
 Lw 7 33] [0,1,5,6,7]
 (.seq (Irg [Lw 34 6,
 Imc 35 0] [0,1,5,6,7,34,35]
 (.block 2 (.loop (Z16_L0))))
 (Irg [Lw 43 0,
 Lw 44 0,
 Lw 45 7,
 Ll 46 (Opx Fz []),
 Ll 47 (Opx F13 [(.t 44),(.t 45),(.t 46),(Acx (-1))]),
 Lw 48 1,
 Ll 49 (Opx F18 [(.t 43),(.t 47),(.t 48)]),
 Lw 8 49] [0,1,5,6,8]
 (.block 4 (.loop (Z16_L1))))))))
 (.region [Lw 15 6,
 Ibc 16 .add 15 1,
 Lw 6 16] [0,1,5,6]))
def Z16_B:Cd:=
 Irg [Ll 4 (.mv (.c (.sl (.st [.leaf,.leaf]) [])))] [0,1]
 (Irg [Ll 5 (.nilOwn 0 (.st [.leaf,.leaf]))] [0,1,5]
 (.seq (Irg [Imc 6 1] [0,1,5,6]
 (.block 0 (.loop (Z16_L2))))
 (Irg [Lw 78 5,
 Ll 79 (.call .heap [] (.f F2f) [(.t 78),(.f F17)])] [5]
 (Irg [Lw 80 5,
 Lw 4 80] [4]
 (.ret)))))
def Z16:Fn:=
 { nparams:=2,nblk:=5,results:=[.tmp 4],body:=Z16_B }
def Z1a_B:Cd:=
 Irg [Ll 4 (.mv (.c (.bool false)))] [0,1]
 (.seq (Irg [Lw 6 1,
 Ll 7 (Ofx F1s [(.t 6)]),
 Ibc 8 .neq 7 1,
 Lw 9 8,
 Lx 10 1 9 false,
 Lg 11 (Ofx F1q [(.t 10)]) 9 false,
 Lg 12 (.bin .lss (.t 11) (Acx 1)) 9 false,
 Ior 13 9 12] [0,1,13]
 (Icd 13
 (Irg [Ll 4 (.mv (.c (.bool false)))] [4]
 (.ret))
 (.skip)))
 (Irg [Lw 14 0,
 Lw 15 1,
 Ll 16 (Opx F16 [(.t 14),(.t 15)]),
 Lw 5 16] [5]
 (Irg [Lw 17 5,
 Ien 18 17,
 Ibc 19 .eql 18 1,
 Lw 20 19,
 Lx 21 5 20 true,
 Lg 22 (.idxA none (.st [.leaf,.leaf]) (.t 21) (Acx 0)) 20 true,
 Lg 23 (.fldA [.leaf,.leaf] (.t 22) 1) 20 true,
 Lg 24 (.load .leaf (.t 23)) 20 true,
 Lg 25 (.bin .eql (.t 24) (Acx 1)) 20 true,
 Ian 26 20 25,
 Lw 4 26] [4]
 (.ret))))
def Z1a:Fn:=
 { nparams:=2,nblk:=0,results:=[.tmp 4],body:=Z1a_B }
end Pe
namespace Pe
open Go
variable {T:Nat→Option Fn} {A:ap}
theorem Ep {n p:Int} (hp:0<p):-p<n.tmod p∧n.tmod p<p:=by
 have hp0:p≠0:=by omega
 have e:=Int.tmod_eq_emod (a:=n) (b:=p);have g1:=fm n hp0;have g2:=eh n hp;refine ⟨?_,Int.tmod_lt_of_pos n hp⟩;rw [e]
 split
 ·omega
 ·rename_i hx
  have hx':n%p≠0:=fun h0=>hx (.inr (Int.dvd_of_emod_eq_zero h0))
  omega
theorem Cl {n p:Int} (hp:0<p):(n.tmod p+p).tmod p=n%p:=by
 have e0:=Ep (n:=n) hp;rw [dj (by omega),Int.add_emod_right,Int.tmod_eq_emod]
 split
 ·simp
 ·rw [show ((p.natAbs:Nat):Int)=p by omega,Int.sub_emod,Int.emod_self,Int.sub_zero,mz _ (Int.dvd_refl p),mz _ (Int.dvd_refl p)]
def ww (O:ap):Prop:=∀p n:Int,0<p→p<1000000→-9000000000000000000≤n→n≤9000000000000000000→ask O F1f [(D.int .i64 p),(D.int .i64 n)]=some ((D.int .i64 (n%p)))
theorem a8e (hT:T F1f=some Z1f):ww (den T A):=by
 intro p n hp hp' hn hn';have hp0:p≠0:=by omega
 have e0:=Ep (n:=n) hp;have h1:IntKind.i64.wrap (n.tmod p+p)=n.tmod p+p:=w64 (by omega)
 refine ch hT rfl ?_;simp -implicitDefEqProofs [Z1f,Z1f_B,hp0,h1,Cl hp]
def cf (l:List Int) (i:Nat):Int:=l.getD i 0
theorem gu {l:List Int} {i:Nat} (h:i<l.length):cf l i=l[i]:=by simp [cf,h]
theorem p7 {l:List Int} {i:Nat} (h:l.length≤i):cf l i=0:=by simp [cf,h]
def Uu (O:ap):Prop:=∀(l:List Int) (i:Nat),i<9000000000000000000→ask O F1p [(D.sl .leaf (aq .i64 l)),(D.int .i64 i)]=some ((D.int .i64 (cf l i)))
theorem aom (hT:T F1p=some Z1p):Uu (den T A):=by
 intro l i hi;refine ch hT rfl ?_
 by_cases h:i<l.length
 ·have h1:l[i]? = some l[i]:=af h
  have h2:(i:Int)<(l.length:Int):=by omega
  simp -implicitDefEqProofs [Z1p,Z1p_B,h1,h2,au,gu h]
 ·have h2:¬ (i:Int)<(l.length:Int):=by omega
  simp -implicitDefEqProofs [Z1p,Z1p_B,h2,au,p7 (Nat.le_of_not_lt h)]
def jn (l:List Int):Nat→Nat
 | 0=>0
 | n+1=>if cf l n=0 then jn l n else n+1
def trim (l:List Int):List Int:=l.take (jn l l.length)
theorem E8 (l:List Int):∀n,jn l n≤n
 | 0=>bp 0
 | n+1=>by
  simp only [jn]
  split
  ·have:=E8 l n; omega
  ·exact bp _
theorem Qf {O:ap} {l:List Int} (hl:l.length<1000000):∀(n:Nat),n≤l.length →
 dn O 0 (.loop Z1u_L0) ⟨[(0,(.d (.sl .leaf (aq .i64 l)))),(3,(.d (.int .i64 n)))],[]⟩=some (.exit 0,⟨[(0,(.d (.sl .leaf (aq .i64 l)))),(3,(.d (.int .i64 (jn l n)))),(15,(.d (.bool false)))],[]⟩)
 | 0,_=>cg (by simp -implicitDefEqProofs [Z1u_L0,au,jn])
 | n+1,hn=>by
  have hlt:n<l.length:=by omega
  have h1:l[n]? = some l[n]:=af hlt;have h2:IntKind.i64.wrap (n:Int)=n:=w64 (by omega)
  have h3:(0:Int)<(n:Int)+1:=by omega
  by_cases h0:l[n]=0
  ·have e:jn l (n+1)=jn l n:=by simp [jn,gu hlt,h0]
   rw [e];exact bq (by simp -implicitDefEqProofs [Z1u_L0,au,h1,h2,h3,h0]) (Qf hl n (by omega))
  ·have e:jn l (n+1)=n+1:=by simp [jn,gu hlt,h0]
   rw [e];exact cg (by simp -implicitDefEqProofs [Z1u_L0,au,h1,h2,h3,h0])
def wc (O:ap):Prop:=∀l:List Int,l.length<1000000→ask O F1u [(D.sl .leaf (aq .i64 l))]=some ((D.sl .leaf (aq .i64 (trim l))))
theorem a49 (hT:T F1u=some Z1u):wc (den T A):=by
 intro l hl;refine ch hT rfl ?_;have ht:=E8 l l.length;simp -implicitDefEqProofs [Z1u,Z1u_B,Qf hl l.length (bp _),ht,trim]
def upd (f:Nat→Int):Nat→Nat→List Int→List Int
 | 0,_,l=>l
 | m+1,i,l=>upd f m (i+1) (l.set i (f i))
theorem zh (f:Nat→Int):∀(m i:Nat) (l:List Int),(upd f m i l).length=l.length
 | 0,_,_=>rfl
 | m+1,i,l=>by rw [upd,zh f m]; simp
theorem Ju (f:Nat→Int):∀(m i:Nat) (l:List Int) (j:Nat),(upd f m i l)[j]? = if i≤j∧j<i+m∧j<l.length then some (f j) else l[j]?
 | 0,i,l,j=>by rw [upd,if_neg (by omega)]
 | m+1,i,l,j=>by
  rw [upd,Ju f m,db]
  by_cases h1:i+1≤j∧j<i+1+m∧j<l.length
  ·rw [if_pos h1,if_pos (by omega)]
  ·rw [if_neg h1]
   by_cases h2:j=i
   ·subst h2
    by_cases h3:j<l.length
    ·rw [if_pos (by omega),bg h3]
    ·rw [if_neg (by omega),cx (by simpa using h3),cx (by omega)]
   ·rw [bh (gv h2),if_neg (by omega)]
theorem Ro (f:Nat→Int) (n:Nat) (l:List Int) (hl:l.length=n):upd f n 0 l=(List.range n).map f:=by
 apply eo;intro j;rw [Ju,fe]
 by_cases hj:j<n
 ·rw [if_pos (by omega),jm hj]; rfl
 ·rw [if_neg (by omega),cx (by omega),cx (by simpa using hj)]; rfl
def Small (b:Int) (l:List Int):Prop:=∀x∈l,-b≤x∧x≤b
theorem Small.le {b:Int} {l:List Int} (h:Small b l) (hb:0≤b) (i:Nat):-b≤cf l i∧cf l i≤b:=by
 rw [Pe.cf,ca];cases hq:l[i]? with
 | none=>simp; omega
 | some x=>exact h x (ft hq)
def lin (p:Int) (a b:List Int) (k:Int) (i:Nat):Int:=(cf a i+k*cf b i)%p
def aby (p:Int) (a b:List Int) (k:Int):List Int:=trim ((List.range (max a.length b.length)).map (lin p a b k))
theorem lh {x y b c:Int} (hx:-b≤x∧x≤b) (hy:-c≤y∧y≤c) (_hb:0≤b):-(b*c)≤x*y∧x*y≤b*c:=by
 have hc:0≤c:=by omega
 have h1:0≤(b-x)*(c+y):=gy (by omega) (by omega)
 have h2:0≤(b+x)*(c-y):=gy (by omega) (by omega)
 have h3:0≤(b-x)*(c-y):=gy (by omega) (by omega)
 have h4:0≤(b+x)*(c+y):=gy (by omega) (by omega)
 have e1:(b-x)*(c+y)=b*c+b*y-x*c-x*y:=by simp only [Int.sub_mul,v3]; omega
 have e2:(b+x)*(c-y)=b*c-b*y+x*c-x*y:=by simp only [Int.add_mul,Int.mul_sub]; omega
 have e3:(b-x)*(c-y)=b*c-b*y-x*c+x*y:=by simp only [Int.sub_mul,Int.mul_sub]; omega
 have e4:(b+x)*(c+y)=b*c+b*y+x*c+x*y:=by simp only [Int.add_mul,v3]; omega
 constructor <;> omega
theorem Qc {O:ap} (hat:Uu O) (hred:ww O) {p k:Int} {a b:List Int} (hp:0<p∧p<1000000) (ha:Small 1000000 a) (hb:Small 1000000 b) (hk:-1000000≤k∧k≤1000000) {n:Nat} (hn:n<1000000) :
 ∀(m i:Nat) (cur:List Int),i+m=n→cur.length=n →
 dn O 0 (.loop Z13_L0) ⟨[(0,(.d (.int .i64 p))),(1,(.d (.sl .leaf (aq .i64 a)))),(2,(.d (.sl .leaf (aq .i64 b)))),(3,(.d (.int .i64 k))),(9,.sl 0 [] 0 n (some n)),(18,(.d (.int .i64 n))),(19,(.d (.int .i64 i)))],[.sl false .leaf (aq .i64 cur)]⟩ =
  some (.exit 0,⟨[(0,(.d (.int .i64 p))),(1,(.d (.sl .leaf (aq .i64 a)))),(2,(.d (.sl .leaf (aq .i64 b)))),(3,(.d (.int .i64 k))),(9,.sl 0 [] 0 n (some n)),(18,(.d (.int .i64 n))),(19,(.d (.int .i64 n))),(20,(.d (.bool false)))],[.sl false .leaf (aq .i64 (upd (lin p a b k) m i cur))]⟩)
 | 0,i,cur,hi,hc=>by
  have:i=n:=by omega
  subst this;exact cg (by simp -implicitDefEqProofs [Z13_L0,au,upd])
 | m+1,i,cur,hi,hc=>by
  have h1:(i:Int)<(n:Int):=by omega
  have hin:i<n:=by omega
  have e1:=hat a i (by omega)
  have e2:=hat b i (by omega)
  have ga:=ha.le (by omega) i
  have gb:=hb.le (by omega) i
  have gm:=lh hk gb (by omega)
  have w1:IntKind.i64.wrap (k*cf b i)=k*cf b i:=w64 (by omega)
  have w2:IntKind.i64.wrap (cf a i+k*cf b i)=cf a i+k*cf b i:=w64 (by omega)
  have e3:=hred p (cf a i+k*cf b i) hp.1 hp.2 (by omega) (by omega)
  have w3:IntKind.i64.wrap ((i:Int)+1)=((i+1:Nat):Int):=by rw [w64 (by omega)]; omega
  have hcur:cur[i]? = some cur[i]:=af (by omega)
  refine bq ?_ (Qc hat hred hp ha hb hk hn m (i+1) (cur.set i (lin p a b k i)) (by omega) (by simpa using hc))
  simp -implicitDefEqProofs [Z13_L0,au,h1,hin,e1,e2,w1,w2,e3,w3,hcur,lin]
def Cf (O:ap):Prop:=∀(p k:Int) (a b:List Int),0<p→p<1000000→Small 1000000 a→Small 1000000 b→-1000000≤k→k≤1000000→a.length<1000000→b.length<1000000 →
 ask O F13 [(D.int .i64 p),(D.sl .leaf (aq .i64 a)),(D.sl .leaf (aq .i64 b)),(D.int .i64 k)]=some ((D.sl .leaf (aq .i64 (aby p a b k))))
theorem a3v (hT:T F13=some Z13) (hat:Uu (den T A)) (hred:ww (den T A)) (htr:wc (den T A)):Cf (den T A):=by
 intro p k a b hp hp' ha hb hk hk' hla hlb;have hl:=Qc hat hred ⟨hp,hp'⟩ ha hb ⟨hk,hk'⟩ (n:=max a.length b.length) (by omega) (max a.length b.length) 0 (List.replicate (max a.length b.length) 0) (by omega) (by simp)
 rw [Ro _ _ _ (by simp)] at hl
 have e1:=htr ((List.range (max a.length b.length)).map (lin p a b k)) (by simp; omega)
 have emax:(if a.length<b.length then (b.length:Int) else (a.length:Int))=((max a.length b.length:Nat):Int):=by
  split <;> omega
 have h64:max a.length b.length*8≤1099511627776:=by omega
 refine ch hT rfl ?_
 unfold aby
 generalize max a.length b.length=n at *;rw [show ((0:Nat):Int)=0 from rfl] at hl;have htk:((List.range n).map (lin p a b k)).take n=(List.range n).map (lin p a b k):=b7 (by simp)
 simp -implicitDefEqProofs [Z13,Z13_B,emax,h64,hl,e1,htk]
def wt (x:Int) (b:List Int) (i:Nat):Nat→Nat→List Int→List Int
 | 0,_,cur=>cur
 | m+1,k,cur=>wt x b i m (k+1) (cur.set (i+k) (cf cur (i+k)+x*cf b k))
theorem vk (x:Int) (b:List Int) (i:Nat):∀(m k:Nat) (cur:List Int),(wt x b i m k cur).length=cur.length
 | 0,_,_=>rfl
 | m+1,k,cur=>by rw [wt,vk]; simp
theorem v7 (l:List Int) (i:Nat) (x:Int) (j:Nat):cf (l.set i x) j=if j=i∧i<l.length then x else cf l j:=by
 unfold cf;rw [ca,ca,List.getElem?_set]
 by_cases h:i=j
 ·subst h
  by_cases h2:i<l.length
  ·simp [h2]
  ·simp [h2]
 ·rw [if_neg h,if_neg (by omega)]
theorem Lf (x:Int) (b:List Int) (i:Nat):∀(m k:Nat) (cur:List Int) (j:Nat),i+k+m≤cur.length→cf (wt x b i m k cur) j=cf cur j+if i+k≤j∧j<i+k+m then x*cf b (j-i) else 0
 | 0,k,cur,j,_=>by rw [wt,if_neg (by omega)]; omega
 | m+1,k,cur,j,h=>by
  rw [wt,Lf x b i m (k+1) _ j (by rw [db]; omega),v7]
  by_cases hj:j=i+k
  ·subst hj
   rw [if_pos ⟨rfl,by omega⟩,if_neg (by omega),if_pos (by omega),show i+k-i=k by omega]
   omega
  ·rw [if_neg (by omega)]
   by_cases h2:i+k+1≤j∧j<i+k+1+m
   ·rw [if_pos (by omega),if_pos (by omega)]
   ·rw [if_neg (by omega),if_neg (by omega)]
theorem Small.of_cf {B:Int} (_hB:0≤B) {l:List Int} (h:∀j,-B≤cf l j∧cf l j≤B):Small B l:=by
 intro x hx;obtain ⟨j,hj,rfl⟩:=jk hx;have:=h j
 rwa [gu hj] at this
theorem Vb {O:ap} {p x:Int} {b:List Int} {i la nb:Nat} {a:List Int} (hx:-1000≤x∧x≤1000) (hb:Small 1000 b) (hi:i<10000) (hbl:b.length<10000) {n:Nat} (hn:i+b.length≤n) (hn':n<1000000) :
 ∀(m k:Nat) (cur:List Int),k+m=b.length→cur.length=n→(∀j,i+k≤j→-9000000000000≤cf cur j∧cf cur j≤9000000000000) →
 dn O 0 (.loop Z1l_L0) ⟨[(0,(.d (.int .i64 p))),(2,(.d (.sl .leaf (aq .i64 b)))),(7,.sl 0 [] 0 n (some n)),(8,(.d (.int .i64 i))),(9,(.d (.int .i64 x))),(29,(.d (.sl .leaf (aq .i64 a)))),(30,(.d (.int .i64 la))),(31,(.d (.int .i64 nb))),(36,(.d (.sl .leaf (aq .i64 b)))),(37,(.d (.int .i64 b.length))),(38,(.d (.int .i64 k)))],[.sl false .leaf (aq .i64 cur)]⟩ =
  some (.exit 2,⟨[(0,(.d (.int .i64 p))),(2,(.d (.sl .leaf (aq .i64 b)))),(7,.sl 0 [] 0 n (some n)),(8,(.d (.int .i64 i))),(9,(.d (.int .i64 x))),(29,(.d (.sl .leaf (aq .i64 a)))),(30,(.d (.int .i64 la))),(31,(.d (.int .i64 nb))),(36,(.d (.sl .leaf (aq .i64 b)))),(37,(.d (.int .i64 b.length))),(38,(.d (.int .i64 b.length))),(39,(.d (.bool false)))],[.sl false .leaf (aq .i64 (wt x b i m k cur))]⟩)
 | 0,k,cur,hk,hc,hs=>by
  have:k=b.length:=by omega
  subst this;exact cg (by simp -implicitDefEqProofs [Z1l_L0,au,wt])
 | m+1,k,cur,hk,hc,hs=>by
  have h1:(k:Int)<(b.length:Int):=by omega
  have hkl:k<b.length:=by omega
  have hbk:b[k]=cf b k:=(gu hkl).symm;have w1:IntKind.i64.wrap ((i:Int)+(k:Int))=((i+k:Nat):Int):=by rw [w64 (by omega)]; omega
  have hik:i+k<n:=by omega
  have t1:(0:Int)≤(i:Int)+(k:Int):=by omega
  have t2:((i:Int)+(k:Int)).toNat=i+k:=by omega
  have hikc:i+k<cur.length:=by omega
  have hck:cur[i+k]=cf cur (i+k):=(gu hikc).symm;have gb:=hb.le (by omega) k
  have gc:=hs (i+k) (by omega)
  have gm:=lh hx gb (by omega)
  have w2:IntKind.i64.wrap (x*cf b k)=x*cf b k:=w64 (by omega)
  have w3:IntKind.i64.wrap (cf cur (i+k)+x*cf b k)=cf cur (i+k)+x*cf b k:=w64 (by omega)
  have w4:IntKind.i64.wrap ((k:Int)+1)=((k+1:Nat):Int):=by rw [w64 (by omega)]; omega
  refine bq ?_ (Vb hx hb hi hbl hn hn' m (k+1) (cur.set (i+k) (cf cur (i+k)+x*cf b k)) (by omega) (by simpa using hc) (fun j hj=>by rw [v7,if_neg (by omega)]; exact hs j (by omega)))
  simp -implicitDefEqProofs [Z1l_L0,au,hkl,hbk,w1,t1,t2,hik,hikc,hck,w2,w3,w4]
def Ac (a b:List Int):Nat→Nat→List Int→List Int
 | 0,_,cur=>cur
 | m+1,i,cur=>Ac a b m (i+1) (wt (cf a i) b i b.length 0 cur)
theorem G5 (a b:List Int):∀(m i:Nat) (cur:List Int),(Ac a b m i cur).length=cur.length
 | 0,_,_=>rfl
 | m+1,i,cur=>by rw [Ac,G5,vk]
theorem V5 {x:Int} {b:List Int} {i:Nat} {cur:List Int} {M:Int} (hx:-1000≤x∧x≤1000) (hb:Small 1000 b) (hl:i+b.length≤cur.length) (h:∀j,-M≤cf cur j∧cf cur j≤M) (j:Nat) :
 -(M+1000000)≤cf (wt x b i b.length 0 cur) j∧cf (wt x b i b.length 0 cur) j≤M+1000000:=by
 rw [Lf _ _ _ _ _ _ _ (by omega)]
 have h1:=h j;have h2:=lh hx (hb.le (by omega) (j-i)) (by omega)
 split <;> omega
theorem a9i {O:ap} {p:Int} {a b:List Int} (ha:Small 1000 a) (hb:Small 1000 b) (hal:a.length<10000) (hbl:b.length<10000) (hb0:0<b.length) {n:Nat} (hn:n=a.length+b.length-1) :
 ∀(m i:Nat) (cur:List Int),i+m=a.length→cur.length=n→(∀j,-((i:Int)*1000000)≤cf cur j∧cf cur j≤(i:Int)*1000000) →
 dn O 0 (.loop Z1l_L1) ⟨[(0,(.d (.int .i64 p))),(2,(.d (.sl .leaf (aq .i64 b)))),(7,.sl 0 [] 0 n (some n)),(29,(.d (.sl .leaf (aq .i64 a)))),(30,(.d (.int .i64 a.length))),(31,(.d (.int .i64 i)))],[.sl false .leaf (aq .i64 cur)]⟩ =
  some (.exit 0,⟨[(0,(.d (.int .i64 p))),(2,(.d (.sl .leaf (aq .i64 b)))),(7,.sl 0 [] 0 n (some n)),(29,(.d (.sl .leaf (aq .i64 a)))),(30,(.d (.int .i64 a.length))),(31,(.d (.int .i64 a.length))),(32,(.d (.bool false)))],[.sl false .leaf (aq .i64 (Ac a b m i cur))]⟩):=by
 intro m
 induction m with
 | zero=>
  intro i cur hi hc hs;have:i=a.length:=by omega
  subst this;exact cg (by simp -implicitDefEqProofs [Z1l_L1,au,Ac])
 | succ m ih=>
  intro i cur hi hc hs;have hil:i<a.length:=by omega
  have hai:a[i]=cf a i:=(gu hil).symm;have gx:=ha.le (by omega) i
  have q1:i<10000:=by omega
  have q2:i+b.length≤n:=by omega
  have q3:n<1000000:=by omega
  have q4:∀j,i+0≤j→-9000000000000≤cf cur j∧cf cur j≤9000000000000:=fun j _=>by
   have h9:=hs j;omega
  have h0:=Vb (O:=O) (p:=p) (a:=a) (la:=a.length) (nb:=i) gx hb q1 hbl q2 q3 b.length 0 cur (br _) hc q4;have e0:((0:Nat):Int)=0:=rfl;rw [e0] at h0;have w4:IntKind.i64.wrap ((i:Int)+1)=((i+1:Nat):Int):=(w64 (x:=(i:Int)+1) (by omega)).trans (by omega)
  have hnew:∀j,-(((i+1:Nat):Int)*1000000)≤cf (wt (cf a i) b i b.length 0 cur) j∧cf (wt (cf a i) b i b.length 0 cur) j≤((i+1:Nat):Int)*1000000:=by
   intro j;have:=V5 (x:=cf a i) (b:=b) (i:=i) (cur:=cur) gx hb (by omega) hs j
   omega
  refine bq ?_ (ih (i+1) (wt (cf a i) b i b.length 0 cur) (by omega) (by rw [vk]; exact hc) hnew)
  simp -implicitDefEqProofs [Z1l_L1,au,hil,hai,h0,w4]
theorem Tk {O:ap} {p:Int} {out:List Int} (hp:0<p) {n:Nat} (hn:n<1000000) (hout:out.length=n) (hpos:∀j,-9000000000000000≤cf out j∧cf out j≤9000000000000000) :
 ∀(m i:Nat) (cur:List Int),i+m=n→cur.length=n→(∀j,i≤j→cf cur j=cf out j) →
 dn O 0 (.loop Z1l_L2) ⟨[(0,(.d (.int .i64 p))),(7,.sl 0 [] 0 n (some n)),(56,.sl 0 [] 0 n (some n)),(57,(.d (.int .i64 n))),(58,(.d (.int .i64 i)))],[.sl false .leaf (aq .i64 cur)]⟩ =
  some (.exit 4,⟨[(0,(.d (.int .i64 p))),(7,.sl 0 [] 0 n (some n)),(56,.sl 0 [] 0 n (some n)),(57,(.d (.int .i64 n))),(58,(.d (.int .i64 n))),(59,(.d (.bool false)))],[.sl false .leaf (aq .i64 (upd (fun j=>(cf out j).tmod p) m i cur))]⟩)
 | 0,i,cur,hi,hc,hs=>by
  have:i=n:=by omega
  subst this;exact cg (by simp -implicitDefEqProofs [Z1l_L2,au,upd])
 | m+1,i,cur,hi,hc,hs=>by
  have hp0:p≠0:=by omega
  have hin:i<n:=by omega
  have hic:i<cur.length:=by omega
  have hci:cur[i]=cf out i:=by rw [←gu hic]; exact hs i (by omega)
  have w4:IntKind.i64.wrap ((i:Int)+1)=((i+1:Nat):Int):=by rw [w64 (by omega)]; omega
  refine bq ?_ (Tk hp hn hout hpos m (i+1) (cur.set i ((cf out i).tmod p)) (by omega) (by simpa using hc) (fun j hj=>by rw [v7,if_neg (by omega)]; exact hs j (by omega)))
  simp -implicitDefEqProofs [Z1l_L2,au,hin,hic,hci,hp0,w4]
def conv (a b:List Int):Nat→Nat→Int
 | 0,_=>0
 | m+1,j=>conv a b m j+if m≤j then cf a m*cf b (j-m) else 0
theorem M5 (a b:List Int):∀(m i:Nat) (cur:List Int) (j:Nat),i+m=a.length→a.length+b.length≤cur.length+1→0<b.length→(cf cur j=conv a b i j)→(∀j',cf cur j'=conv a b i j')→cf (Ac a b m i cur) j=conv a b (i+m) j
 | 0,i,cur,j,_,_,_,h,_=>h
 | m+1,i,cur,j,hi,hl,hb,h,hall=>by
  have step:∀j',cf (wt (cf a i) b i b.length 0 cur) j'=conv a b (i+1) j':=by
   intro j';rw [Lf _ _ _ _ _ _ _ (by omega),hall j',conv]
   by_cases h1:i+0≤j'∧j'<i+0+b.length
   ·rw [if_pos h1,if_pos (by omega)]
   ·rw [if_neg h1]
    by_cases h2:i≤j'
    ·rw [if_pos h2,p7 (l:=b) (by omega),Int.mul_zero]
    ·rw [if_neg h2]
  rw [Ac,show i+(m+1)=(i+1)+m by omega]
  exact M5 a b m (i+1) _ j (by omega) (by rw [vk]; exact hl) hb (step j) step
def Can (p:Int) (l:List Int):Prop:=∀x∈l,0≤x∧x<p
theorem Can.small {p:Int} {l:List Int} (h:Can p l) {b:Int} (hp:p≤b):Small b l:=fun x hx=>by have:=h x hx; omega
theorem Can.le {p:Int} {l:List Int} (h:Can p l) (hp:0<p) (i:Nat):0≤cf l i∧cf l i<p:=by
 by_cases hi:i<l.length
 ·rw [gu hi]; exact h _ (bb hi)
 ·rw [p7 (by omega)]; omega
theorem Bc {p:Int} {a b:List Int} (hp:0<p) (ha:Can p a) (hb:Can p b):∀m j,0≤conv a b m j
 | 0,j=>by simp [conv]
 | m+1,j=>by
  have:=Bc hp ha hb m j;rw [conv]
  split
  ·have:=gy (ha.le hp m).1 (hb.le hp (j-m)).1
   omega
  ·omega
def mul (p:Int) (a b:List Int):List Int:=trim ((List.range (a.length+b.length-1)).map fun j=>conv a b a.length j%p)
theorem Gx {l:List Int}:∀n,(∀j,j<n→cf l j=0)→jn l n=0
 | 0,_=>rfl
 | n+1,h=>by
  rw [jn,if_pos (h n (by omega))]
  exact Gx n fun j hj=>h j (by omega)
theorem Vm (a:List Int):∀m j,conv a [] m j=0
 | 0,_=>rfl
 | m+1,j=>by rw [conv,Vm a m j,p7 (l:=[]) (by simp)]; simp
theorem qx (f:Nat→Int) (n j:Nat) (hj:j<n):cf ((List.range n).map f) j=f j:=by
 rw [gu (by simpa using hj)]; simp
theorem Qs (p:Int) (b:List Int):mul p [] b=[]:=by
 unfold mul trim;rw [Gx,fd];intro j hj;rw [qx _ _ _ (by simpa using hj)]
 simp [conv]
theorem O2 (p:Int) (a:List Int):mul p a []=[]:=by
 unfold mul trim;rw [Gx,fd];intro j hj;rw [qx _ _ _ (by simpa using hj),Vm]
 simp
def Rg (O:ap):Prop:=∀(p:Int) (a b:List Int),0<p→p<1000→Can p a→Can p b→a.length<10000→b.length<10000 →
 ask O F1l [(D.int .i64 p),(D.sl .leaf (aq .i64 a)),(D.sl .leaf (aq .i64 b))]=some ((D.sl .leaf (aq .i64 (mul p a b))))
theorem ab2 (hT:T F1l=some Z1l) (htr:wc (den T A)):Rg (den T A):=by
 intro p a b hp hp' ha hb hal hbl;refine ch hT rfl ?_
 by_cases h1:a=[]
 ·subst h1
  rw [Qs];simp -implicitDefEqProofs [Z1l,Z1l_B,au,iu]
 ·by_cases h2:b=[]
  ·subst h2
   have hal0:a.length≠0:=by simpa using h1
   rw [O2];simp -implicitDefEqProofs [Z1l,Z1l_B,au,iu,h1]
  ·have g1:0<a.length:=rp.2 h1
   have g2:0<b.length:=rp.2 h2
   have l1:=a9i (O:=den T A) (p:=p) (ha.small (b:=1000) (by omega)) (hb.small (b:=1000) (by omega)) hal hbl g2 rfl a.length 0 (List.replicate (a.length+b.length-1) 0) (br _) (by simp) (fun j=>by
    have:cf (List.replicate (a.length+b.length-1) 0) j=0:=by
     by_cases hj:j<a.length+b.length-1
     ·rw [gu (by simpa using hj)]; simp
     ·exact p7 (by simp; omega)
    rw [this]; simp)
   have hz:∀j,cf (List.replicate (a.length+b.length-1) (0:Int)) j=0:=fun j=>by
    by_cases hj:j<a.length+b.length-1
    ·rw [gu (by simpa using hj)]; simp
    ·exact p7 (by simp; omega)
   have hrl:(Ac a b a.length 0 (List.replicate (a.length+b.length-1) 0)).length=a.length+b.length-1:=by rw [G5]; simp
   have hrc:∀j,cf (Ac a b a.length 0 (List.replicate (a.length+b.length-1) 0)) j=conv a b a.length j:=fun j=>by
    have:=M5 a b a.length 0 (List.replicate (a.length+b.length-1) 0) j (br _) (by simp; omega) g2 (by rw [hz]; rfl) (fun j'=>by rw [hz]; rfl)
    rwa [br] at this
   have hcb:∀m j,conv a b m j≤(m:Int)*1000000:=by
    intro m
    induction m with
    | zero=>intro j; simp [conv]
    | succ m ih=>
     intro j;have h3:=ih j;have h4:=lh ((ha.small (b:=1000) (by omega)).le (by omega) m) ((hb.small (b:=1000) (by omega)).le (by omega) (j-m)) (by omega)
     rw [conv]
     split <;> omega
   have l2:=Tk (O:=den T A) (p:=p) (out:=Ac a b a.length 0 (List.replicate (a.length+b.length-1) 0)) hp (n:=a.length+b.length-1) (by omega) hrl (fun j=>by
    rw [hrc];have h3:=Bc hp ha hb a.length j;have h4:=hcb a.length j;omega) (a.length+b.length-1) 0 (Ac a b a.length 0 (List.replicate (a.length+b.length-1) 0)) (br _) hrl (fun _ _=>rfl)
   rw [Ro _ _ _ hrl] at l2
   have hfun:(fun j=>(cf (Ac a b a.length 0 (List.replicate (a.length+b.length-1) 0)) j).tmod p)=fun j=>conv a b a.length j%p:=by
    funext j
    rw [hrc,dj (Bc hp ha hb a.length j)]
   rw [hfun] at l2;have e0:((0:Nat):Int)=0:=rfl;rw [e0] at l1 l2;have e1:=htr ((List.range (a.length+b.length-1)).map fun j=>conv a b a.length j%p) (by simp; omega)
   have n1:a.length≠0:=by omega
   have n2:b.length≠0:=by omega
   have w1:IntKind.i64.wrap ((a.length:Int)+(b.length:Int))=(a.length:Int)+(b.length:Int):=w64 (by omega)
   have w2:IntKind.i64.wrap ((a.length:Int)+(b.length:Int)-1)=((a.length+b.length-1:Nat):Int):=(w64 (x:=(a.length:Int)+(b.length:Int)-1) (by omega)).trans (by omega)
   have h8:(a.length+b.length-1)*8≤1099511627776:=by omega
   unfold mul;generalize a.length+b.length-1=n at *;have htk:((List.range n).map fun j=>conv a b a.length j%p).take n=(List.range n).map fun j=>conv a b a.length j%p:=b7 (by simp)
   simp -implicitDefEqProofs [Z1l,Z1l_B,au,h1,h2,w1,w2,h8,l1,l2,e1,htk]
def H0 (p n:Int):Nat→Int
 | 0=>1
 | m+1=>H0 p n m*n%p
def inv (p n:Int):Int:=H0 p n (p-2).toNat
theorem a16 {p n:Int} (hp:1<p):∀m,0≤H0 p n m∧H0 p n m<p
 | 0=>by simp [H0]; omega
 | m+1=>⟨fm _ (by omega),eh _ (by omega)⟩
theorem Oe {O:ap} {p n:Int} (hp:1<p) (hp':p<1000) (hn:0≤n∧n<p) {k:Nat} (hk:(k:Int)=p-2):∀(m i:Nat),i+m=k →
 dn O 0 (.loop Z19_L0) ⟨[(0,(.d (.int .i64 p))),(1,(.d (.int .i64 n))),(5,(.d (.int .i64 (H0 p n i)))),(7,(.d (.int .i64 k))),(8,(.d (.int .i64 i)))],[]⟩=some (.exit 0,⟨[(0,(.d (.int .i64 p))),(1,(.d (.int .i64 n))),(5,(.d (.int .i64 (H0 p n k)))),(7,(.d (.int .i64 k))),(8,(.d (.int .i64 k))),(9,(.d (.bool false)))],[]⟩)
 | 0,i,hi=>by
  have:i=k:=by omega
  subst this;exact cg (by simp -implicitDefEqProofs [Z19_L0,au])
 | m+1,i,hi=>by
  have hik:i<k:=by omega
  have g:=a16 (n:=n) hp i;have hp0:p≠0:=by omega
  have gm:=lh (x:=H0 p n i) (y:=n) (b:=1000) (c:=1000) (by omega) (by omega) (by omega)
  have w1:IntKind.i64.wrap (H0 p n i*n)=H0 p n i*n:=w64 (by omega)
  have w2:(H0 p n i*n).tmod p=H0 p n (i+1):=dj (gy g.1 hn.1);have w4:IntKind.i64.wrap ((i:Int)+1)=((i+1:Nat):Int):=(w64 (x:=(i:Int)+1) (by omega)).trans (by omega)
  refine bq ?_ (Oe hp hp' hn hk m (i+1) (by omega))
  simp -implicitDefEqProofs [Z19_L0,au,hik,hp0,w1,w2,w4]
def rf (O:ap):Prop:=∀p n:Int,1<p→p<1000→0≤n→n<p→ask O F19 [(D.int .i64 p),(D.int .i64 n)]=some ((D.int .i64 (inv p n)))
theorem a3d (hT:T F19=some Z19):rf (den T A):=by
 intro p n hp hp' hn hn';have hk:(((p-2).toNat:Nat):Int)=p-2:=by omega
 have hl:=Oe (O:=den T A) hp hp' ⟨hn,hn'⟩ hk (p-2).toNat 0 (by omega)
 have w1:IntKind.i64.wrap (p-2)=(((p-2).toNat:Nat):Int):=(w64 (x:=p-2) (by omega)).trans (by omega)
 have e0:((0:Nat):Int)=0:=rfl;rw [e0] at hl;have e1:H0 p n 0=1:=rfl;rw [e1] at hl;refine ch hT rfl ?_;unfold inv;generalize (p-2).toNat=k at *;simp -implicitDefEqProofs [Z19,Z19_B,w1,hl]
def pu (O:ap):Prop:=∀l:List Int,l.length<1000000→ask O F1q [(D.sl .leaf (aq .i64 l))]=some ((D.int .i64 ((l.length:Int)-1)))
theorem a6j (hT:T F1q=some Z1q):pu (den T A):=by
 intro l hl;have w1:IntKind.i64.wrap ((l.length:Int)-1)=(l.length:Int)-1:=w64 (by omega)
 refine ch hT rfl ?_;simp -implicitDefEqProofs [Z1q,Z1q_B,w1]
def Hw (l:List Int):Int:=cf l (l.length-1)
def y7 (O:ap):Prop:=∀l:List Int,l.length<1000000→ask O F1s [(D.sl .leaf (aq .i64 l))]=some ((D.int .i64 (Hw l)))
theorem age (hT:T F1s=some Z1s):y7 (den T A):=by
 intro l hl;refine ch hT rfl ?_
 by_cases h:l=[]
 ·subst h
  simp -implicitDefEqProofs [Z1s,Z1s_B,au,iu,Hw,cf]
 ·have h1:0<l.length:=rp.2 h
  have w1:IntKind.i64.wrap ((l.length:Int)-1)=((l.length-1:Nat):Int):=(w64 (x:=(l.length:Int)-1) (by omega)).trans (by omega)
  have h2:l.length-1<l.length:=by omega
  have h3:l[l.length-1]? = some (Hw l):=by
   rw [af h2]; exact congrArg some (gu h2).symm
  have h4:(l.length:Int)≠0:=by omega
  simp -implicitDefEqProofs [Z1s,Z1s_B,au,h,w1,h3]
def Np (O:ap):Prop:=∀n a b:Int,ask O F21 [(D.int .i64 n),(D.int .i64 a),(D.int .i64 b)]=some ((D.bool (decide (a≤n∧n≤b))))
theorem a8w (hT:T F21=some Z21):Np (den T A):=by
 intro n a b;refine ch hT rfl ?_
 by_cases h:a≤n <;> simp -implicitDefEqProofs [Z21,Z21_B,h]
def isP (p:Int):Bool:=decide (p=2∨p=3∨p=5∨p=7)
def Hy (O:ap):Prop:=∀p:Int,ask O Fy [(D.int .i64 p)]=some ((D.bool (isP p)))
theorem a3m (hT:T Fy=some Zy):Hy (den T A):=by
 intro p;refine ch hT rfl ?_
 by_cases h2:p=2
 ·simp -implicitDefEqProofs [Zy,Zy_B,h2,isP]
 ·by_cases h3:p=3
  ·simp -implicitDefEqProofs [Zy,Zy_B,h3,isP]
  ·by_cases h5:p=5
   ·simp -implicitDefEqProofs [Zy,Zy_B,h5,isP]
   ·simp -implicitDefEqProofs [Zy,Zy_B,h2,h3,h5,isP]
def Sz (O:ap):Prop:=∀(p k:Int) (a:List Int),0<p→p<1000000→Small 1000000 a→-1000000≤k→k≤1000000→a.length<1000000 →
 ask O F1j [(D.int .i64 p),(D.sl .leaf (aq .i64 a)),(D.int .i64 k)]=some ((D.sl .leaf (aq .i64 (aby p [] a k))))
theorem aad (hT:T F1j=some Z1j) (hc:Cf (den T A)):Sz (den T A):=by
 intro p k a hp hp' ha hk hk' hl;have e1:=hc p k [] a hp hp' (by intro x hx; simp at hx) ha hk hk' (by simp) hl
 rw [iu] at e1;refine ch hT rfl ?_;simp -implicitDefEqProofs [Z1j,Z1j_B,e1]
def Ek (O:ap):Prop:=ask O Fz []=some ((D.sl .leaf (aq .i64 ([0,1]))))
theorem a7j (hT:T Fz=some Zz):Ek (den T A):=by
 refine ch hT rfl ?_;simp -implicitDefEqProofs [Zz,Zz_B,aq,List.replicate]
def oz (p q:Int) (b:List Int) (i:Nat):Nat→Nat→List Int→List Int
 | 0,_,cur=>cur
 | m+1,k,cur=>oz p q b i m (k+1) (cur.set (i+k) ((cf cur (i+k)-q*cf b k)%p))
theorem ol (p q:Int) (b:List Int) (i:Nat):∀(m k:Nat) (cur:List Int),(oz p q b i m k cur).length=cur.length
 | 0,_,_=>rfl
 | m+1,k,cur=>by rw [oz,ol]; simp
theorem Ak (p q:Int) (b:List Int) (i:Nat):∀(m k:Nat) (cur:List Int) (j:Nat),i+k+m≤cur.length→cf (oz p q b i m k cur) j=if i+k≤j∧j<i+k+m then (cf cur j-q*cf b (j-i))%p else cf cur j
 | 0,k,cur,j,_=>by rw [oz,if_neg (by omega)]
 | m+1,k,cur,j,h=>by
  rw [oz,Ak p q b i m (k+1) _ j (by rw [db]; omega),v7]
  by_cases hj:j=i+k
  ·subst hj
   rw [if_neg (by omega),if_pos ⟨rfl,by omega⟩,if_pos (by omega),show i+k-i=k by omega]
  ·have e:(if j=i+k∧i+k<cur.length then (cf cur (i+k)-q*cf b k)%p else cf cur j)=cf cur j:=if_neg fun h=>hj h.1
   rw [e]
   by_cases h2:i+k+1≤j∧j<i+k+1+m
   ·rw [if_pos (by omega),if_pos (by omega)]
   ·rw [if_neg (by omega),if_neg (by omega)]
theorem Can.of_cf {p:Int} {l:List Int} (h:∀j,j<l.length→0≤cf l j∧cf l j<p):Can p l:=by
 intro x hx;obtain ⟨j,hj,rfl⟩:=jk hx;have:=h j hj
 rwa [gu hj] at this
theorem Gz {p q:Int} {b:List Int} {i:Nat} (hp:0<p) {m k:Nat} {cur:List Int} (hl:i+k+m≤cur.length) (hc:Can p cur):Can p (oz p q b i m k cur):=by
 apply Can.of_cf;intro j hj;rw [Ak _ _ _ _ _ _ _ _ hl]
 split
 ·exact ⟨fm _ (by omega),eh _ hp⟩
 ·exact hc.le hp j
theorem a4l {O:ap} (hred:ww O) {p q by_:Int} {b quo:List Int} {i la nq:Nat} {cp:Option Nat} (hp:0<p) (hp':p<1000) (hq:0≤q∧q<p) (hb:Can p b) (hi:i<10000) (hbl:b.length<10000) (hn:i+b.length≤la) (hn':la<1000000) :
 ∀(m k:Nat) (cur:List Int),k+m=b.length→cur.length=la→Can p cur →
 dn O 0 (.loop Z15_L0) ⟨[(0,(.d (.int .i64 p))),(2,(.d (.sl .leaf (aq .i64 b)))),(8,.sl 0 [] 0 la cp),(9,.sl 1 [] 0 nq (some nq)),(10,(.d (.int .i64 by_))),(11,(.d (.int .i64 i))),(12,(.d (.int .i64 q))),(57,(.d (.sl .leaf (aq .i64 b)))),(58,(.d (.int .i64 b.length))),(59,(.d (.int .i64 k)))],[.sl false .leaf (aq .i64 cur),.sl false .leaf (aq .i64 quo)]⟩ =
  some (.exit 2,⟨[(0,(.d (.int .i64 p))),(2,(.d (.sl .leaf (aq .i64 b)))),(8,.sl 0 [] 0 la cp),(9,.sl 1 [] 0 nq (some nq)),(10,(.d (.int .i64 by_))),(11,(.d (.int .i64 i))),(12,(.d (.int .i64 q))),(57,(.d (.sl .leaf (aq .i64 b)))),(58,(.d (.int .i64 b.length))),(59,(.d (.int .i64 b.length))),(60,(.d (.bool false)))],[.sl false .leaf (aq .i64 (oz p q b i m k cur)),.sl false .leaf (aq .i64 quo)]⟩):=by
 intro m
 induction m with
 | zero=>
  intro k cur hk hc hcan;have:k=b.length:=by omega
  subst this;exact cg (by simp -implicitDefEqProofs [Z15_L0,au,oz])
 | succ m ih=>
  intro k cur hk hc hcan;have hkl:k<b.length:=by omega
  have hbk:b[k]=cf b k:=(gu hkl).symm;have hik:i+k<la:=by omega
  have hikc:i+k<cur.length:=by omega
  have hck:cur[i+k]=cf cur (i+k):=(gu hikc).symm;have t1:(0:Int)≤(i:Int)+(k:Int):=by omega
  have t2:((i:Int)+(k:Int)).toNat=i+k:=by omega
  have w1:IntKind.i64.wrap ((i:Int)+(k:Int))=((i+k:Nat):Int):=(w64 (x:=(i:Int)+(k:Int)) (by omega)).trans (by omega)
  have gb:=hb.le hp k;have gc:=hcan.le hp (i+k);have gm:=lh (x:=q) (y:=cf b k) (b:=1000) (c:=1000) (by omega) (by omega) (by omega)
  have w2:IntKind.i64.wrap (q*cf b k)=q*cf b k:=w64 (by omega)
  have w3:IntKind.i64.wrap (cf cur (i+k)-q*cf b k)=cf cur (i+k)-q*cf b k:=w64 (by omega)
  have w4:IntKind.i64.wrap ((k:Int)+1)=((k+1:Nat):Int):=(w64 (x:=(k:Int)+1) (by omega)).trans (by omega)
  have e3:=hred p (cf cur (i+k)-q*cf b k) hp (by omega) (by omega) (by omega)
  have hcan':Can p (cur.set (i+k) ((cf cur (i+k)-q*cf b k)%p)):=by
   intro x hx;rcases ef hx with h | h
   ·exact hcan x h
   ·subst h; exact ⟨fm _ (by omega),eh _ hp⟩
  refine bq ?_ (ih (k+1) (cur.set (i+k) ((cf cur (i+k)-q*cf b k)%p)) (by omega) (by simpa using hc) hcan')
  simp -implicitDefEqProofs [Z15_L0,au,hkl,hbk,w1,t1,t2,hik,hikc,hck,w2,w3,w4,e3]
def dv (p by_:Int) (b:List Int):Nat→List Int×List Int→List Int×List Int
 | 0,r=>r
 | c+1,(cur,quo)=>
  let q:=cf cur (c+b.length-1)*by_%p
  dv p by_ b c (oz p q b c b.length 0 cur,quo.set c q)
theorem a4t {O:ap} (hred:ww O) {p by_:Int} {b:List Int} {la nq:Nat} {cp:Option Nat} (hp:0<p) (hp':p<1000) (hby:0≤by_∧by_<p) (hb:Can p b) (hb0:0<b.length) (hn:nq+b.length=la+1) (hn':la<10000) :
 ∀(c:Nat) (cur quo:List Int),c≤nq→cur.length=la→quo.length=nq→Can p cur →
 dn O 0 (.loop Z15_L1) ⟨[(0,(.d (.int .i64 p))),(2,(.d (.sl .leaf (aq .i64 b)))),(8,.sl 0 [] 0 la cp),(9,.sl 1 [] 0 nq (some nq)),(10,(.d (.int .i64 by_))),(11,(.d (.int .i64 ((c:Int)-1))))],[.sl false .leaf (aq .i64 cur),.sl false .leaf (aq .i64 quo)]⟩ =
  some (.exit 0,⟨[(0,(.d (.int .i64 p))),(2,(.d (.sl .leaf (aq .i64 b)))),(8,.sl 0 [] 0 la cp),(9,.sl 1 [] 0 nq (some nq)),(10,(.d (.int .i64 by_))),(11,(.d (.int .i64 (-1)))),(38,(.d (.bool false)))],[.sl false .leaf (aq .i64 (dv p by_ b c (cur,quo)).1),.sl false .leaf (aq .i64 (dv p by_ b c (cur,quo)).2)]⟩):=by
 intro c
 induction c with
 | zero=>
  intro cur quo hc h1 h2 hcan;exact cg (by simp -implicitDefEqProofs [Z15_L1,au,dv])
 | succ c ih=>
  intro cur quo hc h1 h2 hcan;have hp0:p≠0:=by omega
  have t0:(((c+1:Nat):Int)-1)=(c:Int):=by omega
  rw [t0];have hil:c+b.length-1<cur.length:=by omega
  have hil2:c+b.length-1<la:=by omega
  have hci:cur[c+b.length-1]=cf cur (c+b.length-1):=(gu hil).symm;have gc:=hcan.le hp (c+b.length-1);have w1:IntKind.i64.wrap ((c:Int)+(b.length:Int))=(c:Int)+(b.length:Int):=w64 (by omega)
  have w2:IntKind.i64.wrap ((c:Int)+(b.length:Int)-1)=((c+b.length-1:Nat):Int):=(w64 (x:=(c:Int)+(b.length:Int)-1) (by omega)).trans (by omega)
  have gm:=lh (x:=cf cur (c+b.length-1)) (y:=by_) (b:=1000) (c:=1000) (by omega) (by omega) (by omega)
  have w3:IntKind.i64.wrap (cf cur (c+b.length-1)*by_)=cf cur (c+b.length-1)*by_:=w64 (by omega)
  have w4:(cf cur (c+b.length-1)*by_).tmod p=cf cur (c+b.length-1)*by_%p:=dj (gy gc.1 hby.1);have w5:IntKind.i64.wrap ((c:Int)-1)=(c:Int)-1:=w64 (by omega)
  have hcq:c<quo.length:=by omega
  have hcn:c<nq:=by omega
  have hq:0≤cf cur (c+b.length-1)*by_%p∧cf cur (c+b.length-1)*by_%p<p:=⟨fm _ hp0,eh _ hp⟩;have l0:=a4l (by_:=by_) (quo:=quo.set c (cf cur (c+b.length-1)*by_%p)) (nq:=nq) (cp:=cp) hred hp hp' hq hb (i:=c) (by omega) (by omega) (la:=la) (by omega) (by omega) b.length 0 cur (br _) h1 hcan
  have e0:((0:Nat):Int)=0:=rfl;rw [e0] at l0;have ih':=ih (oz p (cf cur (c+b.length-1)*by_%p) b c b.length 0 cur) (quo.set c (cf cur (c+b.length-1)*by_%p)) (by omega) (by rw [ol]; exact h1) (by simpa using h2) (Gz hp (by omega) hcan)
  refine bq ?_ ih';simp -implicitDefEqProofs [Z15_L1,au,hp0,w1,w2,hil,hil2,hci,w3,w4,w5,hcq,hcn,l0]
end Pe

namespace Gq
class CR (α:Type) extends Zero α,One α,Add α,Mul α,Neg α,Sub α where
 add_zero:∀a:α,a+0=a
 add_comm:∀a b:α,a+b=b+a
 add_assoc:∀a b c:α,a+b+c=a+(b+c)
 mul_one:∀a:α,a*1=a
 mul_comm:∀a b:α,a*b=b*a
 mul_assoc:∀a b c:α,a*b*c=a*(b*c)
 mul_add:∀a b c:α,a*(b+c)=a*b+a*c
 add_neg:∀a:α,a + -a=0
 sub_eq:∀a b:α,a-b=a + -b
section
variable {α:Type} [CR α]
theorem add_zero (a:α):a+0=a:=CR.add_zero a
theorem add_comm (a b:α):a+b=b+a:=CR.add_comm a b
theorem add_assoc (a b c:α):a+b+c=a+(b+c):=CR.add_assoc a b c
theorem mul_one (a:α):a*1=a:=CR.mul_one a
theorem mul_comm (a b:α):a*b=b*a:=CR.mul_comm a b
theorem mul_assoc (a b c:α):a*b*c=a*(b*c):=CR.mul_assoc a b c
theorem mul_add (a b c:α):a*(b+c)=a*b+a*c:=CR.mul_add a b c
theorem add_neg (a:α):a + -a=0:=CR.add_neg a
theorem sub_eq (a b:α):a-b=a + -b:=CR.sub_eq a b
end
instance:CR Int where
 add_zero:=Int.add_zero
 add_comm:=Int.add_comm
 add_assoc:=Int.add_assoc
 mul_one:=tf
 mul_comm:=ku
 mul_assoc:=y9
 mul_add:=v3
 add_neg:=Int.add_right_neg
 sub_eq:=fun _ _=>Int.sub_eq_add_neg
section
variable {α:Type} [CR α]
def pw (a:α):Nat→α
 | 0=>1
 | n+1=>pw a n*a
instance (priority:=100):HPow α Nat α:=⟨pw⟩
theorem pow_zero (a:α):a^0=1:=rfl
theorem pow_succ (a:α) (n:Nat):a^(n+1)=a^n*a:=rfl
theorem zero_add (a:α):0+a=a:=by rw [add_comm,add_zero]
theorem a0f (a:α):-a+a=0:=by rw [add_comm,add_neg]
theorem one_mul (a:α):1*a=a:=by rw [mul_comm,mul_one]
theorem add_mul (a b c:α):(a+b)*c=a*c+b*c:=by rw [mul_comm,mul_add,mul_comm c,mul_comm c]
theorem uo (a b c:α):a+(b+c)=b+(a+c):=by rw [←add_assoc,add_comm a,add_assoc]
theorem mul_left_comm (a b c:α):a*(b*c)=b*(a*c):=by rw [←mul_assoc,mul_comm a,mul_assoc]
theorem L3 {a b c:α} (h:a+b=a+c):b=c:=by
 have:-a+(a+b)=-a+(a+c):=by rw [h]
 rwa [←add_assoc,←add_assoc,a0f,zero_add,zero_add] at this
theorem mul_zero (a:α):a*0=0:=by
 apply L3 (a:=a*0);rw [←mul_add,add_zero,add_zero]
theorem zero_mul (a:α):0*a=0:=by rw [mul_comm,mul_zero]
theorem H2 {a b:α} (h:a+b=0):b=-a:=L3 (a:=a) (by rw [h,add_neg])
theorem xk (a b:α):-a*b=-(a*b):=H2 (by rw [←add_mul,add_neg,zero_mul])
theorem a0v (a:α):- -a=a:=(H2 (a0f a)).symm
theorem th:-(0:α)=0:=(H2 (add_zero 0)).symm
theorem xm (a b:α):-(a+b)=-a + -b:=by
 apply (H2 _).symm;rw [add_assoc,uo b,←add_assoc,add_neg,zero_add,add_neg]
def nc:Nat→α
 | 0=>0
 | n+1=>nc n+1
theorem D5 (m n:Nat):nc (m+n)=(nc m+nc n:α):=by
 induction n with
 | zero=>exact (add_zero _).symm
 | succ n ih=>rw [←jf,nc,nc,ih,add_assoc]
theorem Sg (m n:Nat):nc (m*n)=(nc m*nc n:α):=by
 induction n with
 | zero=>exact (mul_zero _).symm
 | succ n ih=>rw [Nat.mul_succ,D5,nc,ih,mul_add,mul_one]
def ic:Int→α
 | .ofNat n=>nc n
 | .negSucc n=>-nc (n+1)
theorem Ry:ic 0=(0:α):=rfl
theorem X5:ic 1=(1:α):=zero_add 1
theorem He (m n:Nat):ic ((m:Int)-n)=(nc m + -nc n:α):=by
 by_cases h:n≤m
 ·obtain ⟨k,rfl⟩:=ja h
  have:((n+k:Nat):Int)-n=(k:Nat):=by omega
  rw [this];show nc k=_;rw [D5,add_comm (nc n),add_assoc,add_neg,add_zero]
 ·obtain ⟨k,rfl⟩:=ja (show m+1≤n by omega)
  have:(m:Int)-((m+1+k:Nat):Int)=Int.negSucc k:=by omega
  rw [this];show -nc (k+1)=_;rw [show m+1+k=m+(k+1) by omega,D5 m,xm,←add_assoc,add_neg,zero_add]
theorem Js (j:Int):∃m n:Nat,j=(m:Int)-n:=by
 cases j with
 | ofNat m=>exact ⟨m,0,by simp⟩
 | negSucc n=>exact ⟨0,n+1,by omega⟩
theorem Yq (j k:Int):ic (j+k)=(ic j+ic k:α):=by
 obtain ⟨a,b,rfl⟩:=Js j;obtain ⟨c,d,rfl⟩:=Js k;rw [show ((a:Int)-b)+((c:Int)-d)=((a+c:Nat):Int)-((b+d:Nat):Int) by omega,He,He,He,D5,D5,xm,add_assoc,add_assoc,uo (nc c)]
theorem adv (j:Int):ic (-j)=(-ic j:α):=H2 (by rw [←Yq,Int.add_right_neg]; rfl)
theorem ag8 (j k:Int):ic (j*k)=(ic j*ic k:α):=by
 obtain ⟨a,b,rfl⟩:=Js j;obtain ⟨c,d,rfl⟩:=Js k
 have e:((a:Int)-b)*((c:Int)-d)=((a*c+b*d:Nat):Int)-((a*d+b*c:Nat):Int):=by
  simp only [Int.sub_mul,Int.mul_sub,Int.natCast_add,Int.natCast_mul]; omega
 rw [e,He,He,He,D5,D5,Sg,Sg,Sg,Sg,add_mul,mul_add,mul_add,xk,xk,mul_comm (nc a) (-nc d),xk,mul_comm (nc b) (-nc d),xk,a0v,xm,mul_comm (nc d) (nc a),mul_comm (nc d) (nc b)];simp only [add_assoc,uo,add_comm]
inductive RE where
 | zero | one
 | i (k:Int)
 | v (n:Nat)
 | add (a b:RE) | mul (a b:RE) | sub (a b:RE)
 | neg (a:RE)
 | pow (a:RE) (n:Nat)
def RE.ev (env:List α):RE→α
 | .zero=>0
 | .one=>1
 | .i k=>ic k
 | .v n=>(env[n]?).getD 0
 | .add a b=>a.ev env+b.ev env
 | .mul a b=>a.ev env*b.ev env
 | .sub a b=>a.ev env-b.ev env
 | .neg a=>-a.ev env
 | .pow a n=>pw (a.ev env) n
abbrev Mon:=List Nat
def abe (n:Nat):Mon→Mon
 | []=>[n]
 | m::r=>if Nat.ble n m then n::m::r else m::abe n r
def abb:Mon→Mon→Mon
 | [],b=>b
 | n::a,b=>abe n (abb a b)
def ltM:Mon→Mon→Bool
 | [],[]=>false
 | [],_::_=>true
 | _::_,[]=>false
 | a::r,b::s=>if Nat.beq a b then ltM r s else Nat.blt a b
def eqM:Mon→Mon→Bool
 | [],[]=>true
 | a::r,b::s=>Nat.beq a b&&eqM r s
 | _,_=>false
abbrev Pl:=List (Mon×Int)
def Wc (m:Mon) (k:Int):Pl→Pl
 | []=>if k=0 then [] else [(m,k)]
 | (m',k')::r=>if eqM m m' then (if k+k'=0 then r else (m,k+k')::r) else if ltM m m' then (if k=0 then (m',k')::r else (m,k)::(m',k')::r) else (m',k')::Wc m k r
def a3i:Pl→Pl→Pl
 | [],b=>b
 | (m,k)::a,b=>Wc m k (a3i a b)
def X7 (m:Mon) (k:Int):Pl→Pl
 | []=>[]
 | (m',k')::r=>Wc (abb m m') (k*k') (X7 m k r)
def a6t:Pl→Pl→Pl
 | [],_=>[]
 | (m,k)::a,b=>a3i (X7 m k b) (a6t a b)
def ac0 (a:Pl):Nat→Pl
 | 0=>[([],1)]
 | n+1=>a6t (ac0 a n) a
def RE.nf:RE→Pl
 | .zero=>[]
 | .one=>[([],1)]
 | .i k=>Wc [] k []
 | .v n=>[([n],1)]
 | .add a b=>a3i a.nf b.nf
 | .mul a b=>a6t a.nf b.nf
 | .sub a b=>a3i a.nf (X7 [] (-1) b.nf)
 | .neg a=>X7 [] (-1) a.nf
 | .pow a n=>ac0 a.nf n
def eqP:Pl→Pl→Bool
 | [],[]=>true
 | (m,k)::a,(m',k')::b=>eqM m m'&&decide (k=k')&&eqP a b
 | _,_=>false
def evM (env:List α):Mon→α
 | []=>1
 | n::m=>(env[n]?).getD 0*evM env m
def evP (env:List α):Pl→α
 | []=>0
 | (m,k)::r=>ic k*evM env m+evP env r
theorem Wa:∀{a b:Mon},eqM a b=true→a=b
 | [],[],_=>rfl
 | x::a,y::b,h=>by
  simp only [eqM,az] at h;rw [Nat.eq_of_beq_eq_true h.1,Wa h.2]
theorem a9y:∀{a b:Pl},eqP a b=true→a=b
 | [],[],_=>rfl
 | (m,k)::a,(m',k')::b,h=>by
  simp only [eqP,az,decide_eq_true_eq] at h;rw [Wa h.1.1,h.1.2,a9y h.2]
theorem a0h (env:List α) (n:Nat):∀m,evM env (abe n m)=(env[n]?).getD 0*evM env m
 | []=>rfl
 | m::r=>by
  unfold abe
  split
  ·rfl
  ·rw [evM,evM,a0h env n r,mul_left_comm]
theorem a14 (env:List α):∀a b,evM env (abb a b)=evM env a*evM env b
 | [],b=>(one_mul _).symm
 | n::a,b=>by rw [abb,a0h,a14 env a b,evM,mul_assoc]
theorem J6 (env:List α) (m:Mon) (k:Int):∀r,evP env (Wc m k r)=ic k*evM env m+evP env r
 | []=>by
  unfold Wc
  split
  ·rename_i h; rw [h,Ry,zero_mul,zero_add]
  ·rfl
 | (m',k')::r=>by
  unfold Wc
  split
  ·rename_i h
   obtain rfl:=Wa h
   split
   ·rename_i h2
    rw [evP,←add_assoc,←add_mul,←Yq,h2,Ry,zero_mul,zero_add]
   ·rw [evP,evP,Yq,add_mul,add_assoc]
  ·split
   ·split
    ·rename_i h; rw [h,Ry,zero_mul,zero_add]
    ·rfl
   ·rw [evP,J6 env m k r,evP,uo]
theorem Ja (env:List α):∀a b,evP env (a3i a b)=evP env a+evP env b
 | [],b=>(zero_add _).symm
 | (m,k)::a,b=>by rw [a3i,J6,Ja env a b,evP,add_assoc]
theorem Se (env:List α) (m:Mon) (k:Int):∀r,evP env (X7 m k r)=ic k*evM env m*evP env r
 | []=>(mul_zero _).symm
 | (m',k')::r=>by
  rw [X7,J6,Se env m k r,evP,mul_add,a14,ag8,mul_assoc,mul_assoc,mul_left_comm (ic k')];simp only [mul_assoc]
theorem Sb (env:List α):∀a b,evP env (a6t a b)=evP env a*evP env b
 | [],b=>(zero_mul _).symm
 | (m,k)::a,b=>by rw [a6t,Ja,Se,Sb env a b,evP,add_mul]
theorem a9a (env:List α):evP env [([],1)]=1:=by simp only [evP,evM,X5,mul_one,add_zero]
theorem a1m (env:List α) (a:Pl):∀n,evP env (ac0 a n)=pw (evP env a) n
 | 0=>a9a env
 | n+1=>by rw [ac0,Sb,a1m env a n]; rfl
theorem acf (a b:α):a * -b=-(a*b):=by rw [mul_comm,xk,mul_comm]
theorem a68 (env:List α) (a:Pl):evP env (X7 [] (-1) a)=-evP env a:=by
 rw [Se,evM,mul_one,adv,X5,xk,one_mul]
theorem Ct (env:List α):∀e:RE,evP env e.nf=e.ev env
 | .zero=>rfl
 | .one=>a9a env
 | .i k=>by rw [RE.nf,J6,evM,mul_one,evP,add_zero]; rfl
 | .v n=>by simp only [RE.nf,evP,evM,X5,one_mul,mul_one,add_zero]; rfl
 | .add a b=>by rw [RE.nf,Ja,Ct env a,Ct env b]; rfl
 | .mul a b=>by rw [RE.nf,Sb,Ct env a,Ct env b]; rfl
 | .sub a b=>by rw [RE.nf,Ja,a68,Ct env a,Ct env b,←sub_eq]; rfl
 | .neg a=>by rw [RE.nf,a68,Ct env a]; rfl
 | .pow a n=>by rw [RE.nf,a1m,Ct env a]; rfl
class Ix {α:Type} (env:List α) (x:α) (n:outParam Nat):Prop where
 h:env[n]? = some x
instance (priority:=1000) {l:List α} {x:α}:Ix (x::l) x 0:=⟨rfl⟩
instance (priority:=500) {l:List α} {x y:α} {n:Nat} [h:Ix l x n]:Ix (y::l) x (n+1):=⟨by simpa using h.h⟩
class Rf (env:List α) (x:α) (e:outParam RE):Prop where
 h:e.ev env=x
variable {env:List α} {x y:α} {a b:RE}
instance:Rf env (0:α) .zero:=⟨rfl⟩
instance:Rf env (1:α) .one:=⟨rfl⟩
instance {k:Int}:Rf env (ic k:α) (.i k):=⟨rfl⟩
instance [h:Rf env x a] [h':Rf env y b]:Rf env (x+y) (.add a b):=⟨by rw [RE.ev,h.h,h'.h]⟩
instance [h:Rf env x a] [h':Rf env y b]:Rf env (x*y) (.mul a b):=⟨by rw [RE.ev,h.h,h'.h]⟩
instance [h:Rf env x a] [h':Rf env y b]:Rf env (x-y) (.sub a b):=⟨by rw [RE.ev,h.h,h'.h]⟩
instance [h:Rf env x a]:Rf env (-x) (.neg a):=⟨by rw [RE.ev,h.h]⟩
instance {n:Nat} [h:Rf env x a]:Rf env (x^n) (.pow a n):=⟨by rw [RE.ev,h.h]; rfl⟩
instance (priority:=10) {n:Nat} [h:Ix env x n]:Rf env x (.v n):=⟨by rw [RE.ev,h.h]; rfl⟩
theorem bo (env:List α) {x y:α} {a b:RE} [h:Rf env x a] [h':Rf env y b] (e:eqP a.nf b.nf=true):x=y:=by
 rw [←h.h,←h'.h,←Ct,←Ct,a9y e]
end
end Gq

namespace Gq
section
variable {R:Type} [CR R]
def agf (m:R):Setoid R where
 r a b:=∃c,a=b+m*c
 iseqv:={
  refl:=fun a=>⟨0,by rw [mul_zero,add_zero]⟩
  symm:=fun {a b} ⟨c,h⟩=>⟨-c,by rw [h]; exact bo [b,m,c] rfl⟩
  trans:=fun {a b c} ⟨u,h⟩ ⟨v,h'⟩=>⟨u+v,by rw [h,h']; exact bo [c,m,u,v] rfl⟩ }
def Quo (m:R):Type:=Quotient (agf m)
variable {m:R}
def Quo.mk (m:R) (a:R):Quo m:=Quotient.mk (agf m) a
theorem Quo.eq {a b:R}:Quo.mk m a=Quo.mk m b↔∃c,a=b+m*c:=⟨fun h=>Quotient.exact h,fun h=>Quotient.sound h⟩
theorem Quo.ind {P:Quo m→Prop} (h:∀a,P (Quo.mk m a)) (x:Quo m):P x:=Quotient.ind h x
instance:Zero (Quo m):=⟨Quo.mk m 0⟩
instance:One (Quo m):=⟨Quo.mk m 1⟩
instance:Add (Quo m):=⟨Quotient.lift₂ (fun a b=>Quo.mk m (a+b)) (fun a b a' b' ⟨c,h⟩ ⟨d,h'⟩=>Quo.eq.2 ⟨c+d,by rw [h,h']; exact bo [a',b',c,d,m] rfl⟩)⟩
instance:Mul (Quo m):=⟨Quotient.lift₂ (fun a b=>Quo.mk m (a*b)) (fun a b a' b' ⟨c,h⟩ ⟨d,h'⟩=>Quo.eq.2 ⟨c*b'+a'*d+m*c*d,by rw [h,h']; exact bo [a',b',c,d,m] rfl⟩)⟩
instance:Neg (Quo m):=⟨Quotient.lift (fun a=>Quo.mk m (-a)) (fun a a' ⟨c,h⟩=>Quo.eq.2 ⟨-c,by rw [h]; exact bo [a',c,m] rfl⟩)⟩
instance:Sub (Quo m):=⟨fun a b=>a + -b⟩
theorem Quo.mk_add (a b:R):Quo.mk m (a+b)=Quo.mk m a+Quo.mk m b:=rfl
theorem Quo.mk_mul (a b:R):Quo.mk m (a*b)=Quo.mk m a*Quo.mk m b:=rfl
theorem Quo.mk_neg (a:R):Quo.mk m (-a)=-Quo.mk m a:=rfl
theorem Quo.mk_zero:Quo.mk m 0=0:=rfl
theorem Quo.mk_one:Quo.mk m 1=1:=rfl
instance:CR (Quo m) where
 add_zero:=Quo.ind fun a=>congrArg (Quo.mk m) (add_zero a)
 add_comm:=Quo.ind fun a=>Quo.ind fun b=>congrArg (Quo.mk m) (add_comm a b)
 add_assoc:=Quo.ind fun a=>Quo.ind fun b=>Quo.ind fun c=>congrArg (Quo.mk m) (add_assoc a b c)
 mul_one:=Quo.ind fun a=>congrArg (Quo.mk m) (mul_one a)
 mul_comm:=Quo.ind fun a=>Quo.ind fun b=>congrArg (Quo.mk m) (mul_comm a b)
 mul_assoc:=Quo.ind fun a=>Quo.ind fun b=>Quo.ind fun c=>congrArg (Quo.mk m) (mul_assoc a b c)
 mul_add:=Quo.ind fun a=>Quo.ind fun b=>Quo.ind fun c=>congrArg (Quo.mk m) (mul_add a b c)
 add_neg:=Quo.ind fun a=>congrArg (Quo.mk m) (add_neg a)
 sub_eq:=fun _ _=>rfl
theorem Quo.mk_sub (a b:R):Quo.mk m (a-b)=Quo.mk m a-Quo.mk m b:=by rw [sub_eq,mk_add,mk_neg,←sub_eq]
theorem Quo.mk_pow (a:R):∀n,Quo.mk m (pw a n)=pw (Quo.mk m a) n
 | 0=>rfl
 | n+1=>by rw [pw,pw,mk_mul,mk_pow a n]
end
theorem sub_self {α:Type} [CR α] (a:α):a-a=0:=by rw [sub_eq,add_neg]
theorem t6 {α:Type} [CR α] {a b:α} (h:a-b=0):a=b:=by
 have:a=(a-b)+b:=bo [a,b] rfl;rw [this,h,zero_add]
class Fd (K:Type) extends CR K where
 one_ne:(1:K)≠0
 inv:K→K
 mul_inv:∀a:K,a≠0→a*inv a=1
theorem Fd.mul_ne {K:Type} [Fd K] {a b:K} (ha:a≠0) (hb:b≠0):a*b≠0:=fun h=>by
 have:(inv a*inv b)*(a*b)=1:=by
  rw [show (inv a*inv b)*(a*b)=(a*inv a)*(b*inv b) from bo [a,b,inv a,inv b] rfl,Fd.mul_inv a ha,Fd.mul_inv b hb,mul_one]
 rw [h,mul_zero] at this;exact Fd.one_ne this.symm
theorem Fd.zero_or {K:Type} [Fd K] {a b:K} (h:a*b=0):a=0∨b=0:=by
 by_cases ha:a=0
 ·exact .inl ha
 ·by_cases hb:b=0
  ·exact .inr hb
  ·exact absurd h (Fd.mul_ne ha hb)
theorem Fd.inv_ne {K:Type} [Fd K] {a:K} (ha:a≠0):inv a≠0:=fun h=>by
 have:=Fd.mul_inv a ha;rw [h,mul_zero] at this;exact Fd.one_ne this.symm
class IsP (p:Int):Prop where
 h:p=2∨p=3∨p=5∨p=7
theorem IsP.pos {p:Int} [h:IsP p]:0<p:=by have:=h.h; omega
theorem IsP.le {p:Int} [h:IsP p]:p≤7:=by have:=h.h; omega
theorem IsP.ge {p:Int} [h:IsP p]:2≤p:=by have:=h.h; omega
abbrev Zp (p:Int):Type:=Quo p
abbrev zp (p:Int) (n:Int):Zp p:=Quo.mk p n
theorem Nk {p a b:Int}:zp p a=zp p b↔a%p=b%p:=by
 rw [Quo.eq];constructor
 ·rintro ⟨c,rfl⟩
  rw [qk]
 ·intro h
  obtain ⟨c,hc⟩:=Int.dvd_of_emod_eq_zero (Int.emod_eq_emod_iff_emod_sub_eq_zero.1 h);exact ⟨c,by omega⟩
theorem A1 (p a:Int):zp p (a%p)=zp p a:=Nk.2 (mz _ (Int.dvd_refl p))
theorem Xz (p a b:Int):zp p (a+b)=zp p a+zp p b:=rfl
theorem Dx (p a b:Int):zp p (a*b)=zp p a*zp p b:=rfl
theorem Hd (p a:Int):zp p (-a)=-zp p a:=rfl
theorem a9m (p a b:Int):zp p (a-b)=zp p a-zp p b:=rfl
theorem Cs (p:Int):zp p 0=0:=rfl
theorem Bg (p:Int):zp p 1=1:=rfl
def rep {p:Int}:Zp p→Int:=Quotient.lift (fun a:Int=>a%p) fun a b h=>by
 have:=Nk.1 (Quotient.sound (s:=agf p) h);exact this
theorem N6 (p a:Int):rep (zp p a)=a%p:=rfl
theorem m8 {p:Int}:∀x:Zp p,zp p (rep x)=x:=Quo.ind fun a=>A1 p a
theorem nu {p:Int} [IsP p] (x:Zp p):0≤rep x∧rep x<p:=by
 rw [←m8 x,N6];have:=IsP.pos (p:=p);exact ⟨fm _ (by omega),eh _ (by omega)⟩
theorem a10 {p:Int} {x y:Zp p} (h:rep x=rep y):x=y:=by rw [←m8 x,←m8 y,h]
theorem Qv {p a:Int} (h:0≤a∧a<p):rep (zp p a)=a:=by rw [N6,my h.1 h.2]
theorem ti {p:Int}:rep (0:Zp p)=0:=by show (0:Int)%p=0; simp
theorem im {p:Int} {x:Zp p}:rep x=0↔x=0:=⟨fun h=>a10 (by rw [h,ti]),fun h=>by rw [h,ti]⟩
theorem C9 {p:Int} [IsP p]:rep (1:Zp p)=1:=by
 have:=IsP.ge (p:=p);exact Qv (a:=1) (by omega)
def aaj (p a:Int):Int:=(a^(p-2).toNat)%p
theorem acj (p:Int) [h:IsP p] (a:Int) (h0:0<a) (h1:a<p):a*aaj p a%p=1:=by
 rcases h.h with rfl | rfl | rfl | rfl
 ·obtain rfl:a=1:=by omega
  decide
 ·have:a=1∨a=2:=by omega
  rcases this with rfl | rfl <;> decide
 ·have:a=1∨a=2∨a=3∨a=4:=by omega
  rcases this with rfl | rfl | rfl | rfl <;> decide
 ·have:a=1∨a=2∨a=3∨a=4∨a=5∨a=6:=by omega
  rcases this with rfl | rfl | rfl | rfl | rfl | rfl <;> decide
instance {p:Int} [IsP p]:Fd (Zp p) where
 one_ne:=fun h=>by
  have:=congrArg rep h;rw [C9,ti] at this;omega
 inv:=fun x=>zp p (aaj p (rep x))
 mul_inv:=fun x hx=>by
  have h0:=nu x;have h1:rep x≠0:=fun h=>hx (im.1 h)
  have h2:zp p (rep x*aaj p (rep x))=1:=by
   rw [←A1,acj p _ (by omega) h0.2]; rfl
  have h3:zp p (rep x)*zp p (aaj p (rep x))=1:=h2
  rwa [m8] at h3
section
variable {K:Type} [CR K]
def cv:Nat→(Nat→K)→(Nat→K)→K
 | 0,f,g=>f 0*g 0
 | n+1,f,g=>f 0*g (n+1)+cv n (fun i=>f (i+1)) g
theorem V0:∀(n:Nat) (f g:Nat→K),cv (n+1) f g=cv n f (fun i=>g (i+1))+f (n+1)*g 0
 | 0,f,g=>rfl
 | n+1,f,g=>by rw [cv,V0 n,cv]; simp only [add_assoc]
theorem Cj:∀(n:Nat) (f g:Nat→K),cv n f g=cv n g f
 | 0,f,g=>mul_comm _ _
 | n+1,f,g=>by rw [cv,V0,Cj n,add_comm,mul_comm (f 0)]
theorem X9:∀(n:Nat) (f f' g:Nat→K),cv n (fun i=>f i+f' i) g=cv n f g+cv n f' g
 | 0,f,f',g=>add_mul _ _ _
 | n+1,f,f',g=>by rw [cv,X9 n,cv,cv,add_mul]; exact bo [f 0*g (n+1),f' 0*g (n+1),cv n (fun i=>f (i+1)) g,cv n (fun i=>f' (i+1)) g] rfl
theorem a1y (k:K):∀(n:Nat) (f g:Nat→K),cv n (fun i=>k*f i) g=k*cv n f g
 | 0,f,g=>mul_assoc _ _ _
 | n+1,f,g=>by rw [cv,a1y k n,cv,mul_add,mul_assoc]
theorem Sy (n:Nat) (f g g':Nat→K):cv n f (fun i=>g i+g' i)=cv n f g+cv n f g':=by rw [Cj,X9,Cj n g,Cj n g']
theorem cv_assoc:∀(n:Nat) (f g h:Nat→K),cv n (fun i=>cv i f g) h=cv n f (fun i=>cv i g h)
 | 0,f,g,h=>mul_assoc _ _ _
 | n+1,f,g,h=>by
  rw [cv,cv];show f 0*g 0*h (n+1)+cv n (fun i=>f 0*g (i+1)+cv i (fun i=>f (i+1)) g) h=f 0*cv (n+1) g h+cv n (fun i=>f (i+1)) (fun i=>cv i g h)
  rw [X9,a1y,cv_assoc n,cv,mul_add,mul_assoc,add_assoc]
theorem Cb {g:Nat→K}:∀(n:Nat) {f:Nat→K},(∀i,f i=0)→cv n f g=0
 | 0,f,h=>by rw [cv,h,zero_mul]
 | n+1,f,h=>by rw [cv,h,zero_mul,Cb n (fun i=>h _),add_zero]
theorem Yv {g:Nat→K} {b:Nat} (hg:∀i,b≤i→g i=0):∀(a n:Nat) {f:Nat→K},(∀i,a≤i→f i=0)→a+b≤n+1→cv n f g=0
 | 0,n,f,hf,_=>Cb n fun i=>hf i (mu i)
 | a+1,0,f,hf,h=>by
  have:b=0:=by omega
  subst this;rw [cv,hg 0 (bp _),mul_zero]
 | a+1,n+1,f,hf,h=>by rw [cv,hg (n+1) (by omega),mul_zero,Yv hg a n (fun i hi=>hf _ (by omega)) (by omega),add_zero]
structure Pol (K:Type) [CR K] where
 c:Nat→K
 fin:∃n,∀i,n≤i→c i=0
theorem Pol.ext {a b:Pol K} (h:∀i,a.c i=b.c i):a=b:=by
 obtain ⟨f,hf⟩:=a;obtain ⟨g,hg⟩:=b;have:f=g:=funext h;subst this;rfl
def a4a:Nat→K:=fun i=>if i=0 then 1 else 0
instance:Zero (Pol K):=⟨⟨fun _=>0,0,fun _ _=>rfl⟩⟩
instance:One (Pol K):=⟨⟨a4a,1,fun i hi=>if_neg (by omega)⟩⟩
instance:Add (Pol K):=⟨fun a b=>⟨fun i=>a.c i+b.c i,by
 obtain ⟨n,hn⟩:=a.fin;obtain ⟨m,hm⟩:=b.fin;exact ⟨max n m,fun i hi=>by rw [hn i (by omega),hm i (by omega),add_zero]⟩⟩⟩
instance:Neg (Pol K):=⟨fun a=>⟨fun i=>-a.c i,by
 obtain ⟨n,hn⟩:=a.fin;exact ⟨n,fun i hi=>by rw [hn i hi,th]⟩⟩⟩
instance:Sub (Pol K):=⟨fun a b=>a + -b⟩
instance:Mul (Pol K):=⟨fun a b=>⟨fun i=>cv i a.c b.c,by
 obtain ⟨n,hn⟩:=a.fin;obtain ⟨m,hm⟩:=b.fin;exact ⟨n+m,fun i hi=>Yv hm n i hn (by omega)⟩⟩⟩
theorem Pol.c_zero (i:Nat):(0:Pol K).c i=0:=rfl
theorem Pol.c_add (a b:Pol K) (i:Nat):(a+b).c i=a.c i+b.c i:=rfl
theorem Pol.c_neg (a:Pol K) (i:Nat):(-a).c i=-a.c i:=rfl
theorem Pol.c_mul (a b:Pol K) (i:Nat):(a*b).c i=cv i a.c b.c:=rfl
theorem cv_one (n:Nat) (f:Nat→K):cv n a4a f=f n:=by
 cases n with
 | zero=>exact one_mul _
 | succ n=>
  have e:cv n (fun i=>a4a (i+1)) f=0:=Cb n (f:=fun i=>a4a (i+1)) (fun i=>if_neg (Nat.succ_ne_zero i))
  rw [cv,e,add_zero];exact one_mul _
instance:CR (Pol K) where
 add_zero:=fun a=>Pol.ext fun i=>add_zero _
 add_comm:=fun a b=>Pol.ext fun i=>add_comm _ _
 add_assoc:=fun a b c=>Pol.ext fun i=>add_assoc _ _ _
 mul_one:=fun a=>Pol.ext fun i=>by rw [Pol.c_mul,Cj]; exact cv_one i a.c
 mul_comm:=fun a b=>Pol.ext fun i=>Cj _ _ _
 mul_assoc:=fun a b c=>Pol.ext fun i=>cv_assoc _ _ _ _
 mul_add:=fun a b c=>Pol.ext fun i=>Sy _ _ _ _
 add_neg:=fun a=>Pol.ext fun i=>add_neg _
 sub_eq:=fun _ _=>rfl
theorem Pol.c_sub (a b:Pol K) (i:Nat):(a-b).c i=a.c i-b.c i:=by rw [sub_eq,c_add,c_neg,←sub_eq]
def Pol.C (k:K):Pol K:=⟨fun i=>if i=0 then k else 0,1,fun i hi=>if_neg (by omega)⟩
def Pol.X:Pol K:=⟨fun i=>if i=1 then 1 else 0,2,fun i hi=>if_neg (by omega)⟩
theorem Pol.c_C (k:K) (i:Nat):(Pol.C k).c i=if i=0 then k else 0:=rfl
theorem Pol.c_X (i:Nat):(Pol.X:Pol K).c i=if i=1 then 1 else 0:=rfl
theorem Pol.c_Cmul (k:K) (a:Pol K) (i:Nat):(Pol.C k*a).c i=k*a.c i:=by
 rw [c_mul];cases i with
 | zero=>rfl
 | succ n=>
  have e:cv n (fun i=>(Pol.C k).c (i+1)) a.c=0:=Cb n (f:=fun i=>(Pol.C k).c (i+1)) (fun i=>by rw [c_C,if_neg (Nat.succ_ne_zero i)])
  rw [cv,e,add_zero]; rfl
theorem Pol.c_Xmul (a:Pol K) (i:Nat):(Pol.X*a).c i=if i=0 then 0 else a.c (i-1):=by
 rw [c_mul];cases i with
 | zero=>exact zero_mul _
 | succ n=>
  have e:(fun i=>(Pol.X:Pol K).c (i+1))=a4a:=funext fun i=>by
   rw [c_X]; unfold a4a
   by_cases h:i=0
   ·rw [if_pos h,if_pos (by omega)]
   ·rw [if_neg h,if_neg (by omega)]
  rw [cv,e,cv_one,c_X,if_neg (by omega),zero_mul,zero_add,if_neg (by omega)]; rfl
theorem Pol.C_zero:Pol.C (0:K)=0:=Pol.ext fun i=>by rw [c_C,c_zero]; split <;> rfl
theorem Pol.C_one:Pol.C (1:K)=1:=rfl
theorem Pol.C_add (a b:K):Pol.C (a+b)=Pol.C a+Pol.C b:=Pol.ext fun i=>by
 rw [c_add,c_C,c_C,c_C]; split
 ·rfl
 ·rw [add_zero]
theorem Pol.C_mul (a b:K):Pol.C (a*b)=Pol.C a*Pol.C b:=Pol.ext fun i=>by
 rw [c_Cmul,c_C,c_C]; split
 ·rfl
 ·rw [mul_zero]
theorem Pol.C_neg (a:K):Pol.C (-a)=-Pol.C a:=H2 (by rw [←C_add,add_neg,C_zero])
def Pol.lt (a:Pol K) (n:Nat):Prop:=∀i,n≤i→a.c i=0
theorem Pol.lt.mono {a:Pol K} {n m:Nat} (h:a.lt n) (hnm:n≤m):a.lt m:=fun i hi=>h i (by omega)
theorem Pol.lt_zero {a:Pol K}:a.lt 0↔a=0:=⟨fun h=>Pol.ext fun i=>h i (mu i),fun h=>by rw [h]; exact fun _ _=>rfl⟩
theorem Pol.lt_add {a b:Pol K} {n:Nat} (ha:a.lt n) (hb:b.lt n):(a+b).lt n:=fun i hi=>by rw [c_add,ha i hi,hb i hi,add_zero]
theorem Pol.lt_neg {a:Pol K} {n:Nat} (ha:a.lt n):(-a).lt n:=fun i hi=>by rw [c_neg,ha i hi,th]
theorem Pol.lt_sub {a b:Pol K} {n:Nat} (ha:a.lt n) (hb:b.lt n):(a-b).lt n:=by rw [sub_eq]; exact lt_add ha (lt_neg hb)
theorem Pol.lt_mul {a b:Pol K} {n m:Nat} (ha:a.lt n) (hb:b.lt m):(a*b).lt (n+m-1):=fun i hi=>Yv hb n i ha (by omega)
theorem Pol.lt_Cmul {a:Pol K} {n:Nat} (k:K) (ha:a.lt n):(C k*a).lt n:=fun i hi=>by rw [c_Cmul,ha i hi,mul_zero]
theorem Pol.lt_one:(1:Pol K).lt 1:=fun i hi=>if_neg (by omega)
theorem Pol.lt_C (k:K):(C k).lt 1:=fun i hi=>if_neg (by omega)
theorem Pol.lt_X:(X:Pol K).lt 2:=fun i hi=>if_neg (by omega)
theorem Pol.eq_C {a:Pol K} (h:a.lt 1):a=C (a.c 0):=Pol.ext fun i=>by
 rw [c_C]; split
 ·rename_i h0; rw [h0]
 ·exact h i (by omega)
theorem Pol.len_ex (a:Pol K):∃n,a.lt n∧∀m,a.lt m→n≤m:=by
 obtain ⟨n,hn⟩:=a.fin
 have h:∀k,∀n,n≤k→a.lt n→∃n,a.lt n∧∀m,a.lt m→n≤m:=by
  intro k
  induction k with
  | zero=>exact fun n hk hn=>⟨n,hn,fun m _=>by omega⟩
  | succ k ih=>
   intro n hk hn
   by_cases h:∃m,m<n∧a.lt m
   ·obtain ⟨m,h1,h2⟩:=h
    exact ih m (by omega) h2
   ·exact ⟨n,hn,fun m hm=>by
     rcases f7 m n with h1 | h1
     ·exact absurd ⟨m,h1,hm⟩ h
     ·exact h1⟩
 exact h n n (bp n) hn
noncomputable def Pol.len (a:Pol K):Nat:=Classical.choose a.len_ex
theorem Pol.lt_len (a:Pol K):a.lt a.len:=(ew a.len_ex).1
theorem Pol.len_le {a:Pol K} {n:Nat} (h:a.lt n):a.len≤n:=(ew a.len_ex).2 n h
theorem Pol.lt_iff {a:Pol K} {n:Nat}:a.lt n↔a.len≤n:=⟨len_le,fun h=>a.lt_len.mono h⟩
theorem Pol.len_zero_iff {a:Pol K}:a.len=0↔a=0:=by rw [←lt_zero,lt_iff]; omega
theorem Pol.len_zero:(0:Pol K).len=0:=len_zero_iff.2 rfl
theorem Pol.len_pos {a:Pol K} (h:a≠0):0<a.len:=by
 have:a.len≠0:=fun h'=>h (len_zero_iff.1 h')
 omega
noncomputable def Pol.ld (a:Pol K):K:=a.c (a.len-1)
theorem Pol.ld_ne {a:Pol K} (h:a≠0):a.ld≠0:=fun h0=>by
 have hp:=len_pos h
 have:a.lt (a.len-1):=fun i hi=>by
  rcases f7 i a.len with h1 | h1
  ·rw [show i=a.len-1 by omega]; exact h0
  ·exact a.lt_len i h1
 have:=len_le this;omega
theorem Pol.len_eq {a:Pol K} {n:Nat} (h:a.lt (n+1)) (h':a.c n≠0):a.len=n+1:=by
 have h1:=len_le h;rcases f7 n a.len with h2 | h2
 ·omega
 ·exact absurd (a.lt_len n h2) h'
theorem Pol.len_neg (a:Pol K):(-a).len=a.len:=by
 apply Nat.le_antisymm
 ·exact len_le (lt_neg a.lt_len)
 ·have:=len_le (lt_neg (-a).lt_len)
  rwa [a0v] at this
theorem Xx {g:Nat→K} {b:Nat} (hg:∀i,b+1≤i→g i=0):∀(a:Nat) {f:Nat→K},(∀i,a+1≤i→f i=0)→cv (a+b) f g=f a*g b
 | 0,f,hf=>by
  rw [br];cases b with
  | zero=>rfl
  | succ b=>rw [cv,Cb b (fun i=>hf _ (by omega)),add_zero]
 | a+1,f,hf=>by
  rw [show a+1+b=(a+b)+1 by omega,cv,hg (a+b+1) (by omega),mul_zero,zero_add,Xx hg a (fun i hi=>hf _ (by omega))]
end
section
variable {K:Type} [Fd K]
theorem Pol.len_mul {a b:Pol K} (ha:a≠0) (hb:b≠0):(a*b).len+1=a.len+b.len:=by
 have h1:=len_pos ha;have h2:=len_pos hb
 have e:(a*b).c ((a.len-1)+(b.len-1))=a.ld*b.ld:=by
  rw [c_mul];exact Xx (f:=a.c) (fun i hi=>b.lt_len i (by omega)) _ (fun i hi=>a.lt_len i (by omega))
 have l:=len_eq (a:=a*b) (n:=(a.len-1)+(b.len-1)) ((lt_mul a.lt_len b.lt_len).mono (by omega)) (by rw [e]; exact Fd.mul_ne (ld_ne ha) (ld_ne hb))
 omega
theorem Pol.ld_mul {a b:Pol K} (ha:a≠0) (hb:b≠0):(a*b).ld=a.ld*b.ld:=by
 have h1:=len_pos ha;have h2:=len_pos hb
 have e:(a*b).c ((a.len-1)+(b.len-1))=a.ld*b.ld:=by
  rw [c_mul];exact Xx (f:=a.c) (fun i hi=>b.lt_len i (by omega)) _ (fun i hi=>a.lt_len i (by omega))
 have l:=len_mul ha hb;unfold ld at *;rw [←e]; congr 1; omega
theorem Pol.mul_ne {a b:Pol K} (ha:a≠0) (hb:b≠0):a*b≠0:=fun h=>by
 have l:=len_mul ha hb;have h1:=len_pos ha;have h2:=len_pos hb;rw [h,len_zero] at l;omega
theorem Pol.zero_or {a b:Pol K} (h:a*b=0):a=0∨b=0:=by
 by_cases ha:a=0
 ·exact .inl ha
 ·by_cases hb:b=0
  ·exact .inr hb
  ·exact absurd h (mul_ne ha hb)
theorem Pol.mul_cancel {a b c:Pol K} (ha:a≠0) (h:a*b=a*c):b=c:=by
 have:a*(b-c)=0:=by
  rw [show a*(b-c)=a*b-a*c from bo [a,b,c] rfl,h,sub_self]
 exact t6 ((zero_or this).resolve_left ha)
theorem Pol.one_ne:(1:Pol K)≠0:=fun h=>Fd.one_ne (K:=K) (congrArg (fun f=>Pol.c f 0) h)
theorem Pol.len_one:(1:Pol K).len=1:=len_eq lt_one Fd.one_ne
theorem Pol.ld_one:(1:Pol K).ld=1:=by unfold ld; rw [len_one]; rfl
theorem Pol.len_X:(X:Pol K).len=2:=len_eq lt_X Fd.one_ne
theorem Pol.X_ne:(X:Pol K)≠0:=fun h=>by have:=len_X (K:=K); rw [h,len_zero] at this; omega
theorem Pol.len_C {k:K} (h:k≠0):(C k).len=1:=len_eq (lt_C k) h
theorem Pol.C_ne {k:K} (h:k≠0):C k≠0:=fun h'=>by have:=len_C h; rw [h',len_zero] at this; omega
theorem Pol.len_Cmul {k:K} (h:k≠0) (a:Pol K):(C k*a).len=a.len:=by
 by_cases ha:a=0
 ·rw [ha,mul_zero]
 ·have:=len_mul (C_ne h) ha
  rw [len_C h] at this;omega
def Pol.mo (k:K) (n:Nat):Pol K:=⟨fun i=>if i=n then k else 0,n+1,fun i hi=>if_neg (by omega)⟩
theorem adb (k:K) (g:Nat→K):∀(n j:Nat),cv (n+j) (fun i=>if i=n then k else 0) g=k*g j
 | 0,0=>rfl
 | 0,j+1=>by
  rw [br,cv,Cb j (fun i=>if_neg (by omega)),add_zero]; rfl
 | n+1,j=>by
  have e:(fun i=>if i+1=n+1 then k else 0)=(fun i=>if i=n then k else 0):=funext fun i=>by
   by_cases h:i=n
   ·rw [if_pos h,if_pos (by omega)]
   ·rw [if_neg h,if_neg (by omega)]
  rw [show n+1+j=(n+j)+1 by omega,cv,if_neg (by omega),zero_mul,zero_add,e,adb k g n j]
theorem Pol.c_momul (k:K) (n:Nat) (a:Pol K) (i:Nat) (h:n≤i):(mo k n*a).c i=k*a.c (i-n):=by
 obtain ⟨j,rfl⟩:=ja h;rw [c_mul,Nat.add_sub_cancel_left];exact adb k a.c n j
theorem Pol.div_ex (b:Pol K) (hb:b≠0):∀(n:Nat) (a:Pol K),a.lt n→∃q r:Pol K,a=q*b+r∧r.len<b.len
 | 0,a,h=>⟨0,0,by rw [lt_zero.1 h,zero_mul,add_zero],by rw [len_zero]; exact len_pos hb⟩
 | n+1,a,h=>by
  rcases f7 n (b.len-1) with h1 | h1
  ·exact ⟨0,a,by rw [zero_mul,zero_add],by have:=len_le h; omega⟩
  ·have hp:=len_pos hb
   have key:(a-mo (a.c n*Fd.inv b.ld) (n-(b.len-1))*b).lt n:=fun i hi=>by
    rw [c_sub,c_momul _ _ _ _ (by omega)]
    by_cases h2:i=n
    ·subst h2
     rw [show i-(i-(b.len-1))=b.len-1 by omega]
     have:=Fd.mul_inv b.ld (ld_ne hb);show a.c i-a.c i*Fd.inv b.ld*b.ld=0;rw [mul_assoc,mul_comm (Fd.inv b.ld),this,mul_one,sub_self]
    ·rw [h i (by omega),b.lt_len _ (by omega),mul_zero,sub_self]
   obtain ⟨q,r,h2,h3⟩:=div_ex b hb n _ key;refine ⟨mo (a.c n*Fd.inv b.ld) (n-(b.len-1))+q,r,?_,h3⟩
   revert h2
   generalize mo (a.c n*Fd.inv b.ld) (n-(b.len-1))=t;intro h2;have:a=(a-t*b)+t*b:=bo [a,t,b] rfl;rw [this,h2];exact bo [q,b,r,t] rfl
theorem Pol.div_unique {b q r q' r':Pol K} (h:q*b+r=q'*b+r') (hr:r.len<b.len) (hr':r'.len<b.len):q=q'∧r=r':=by
 have e:(q-q')*b=r'-r:=by
  have:(q-q')*b=(q*b+r)-(q'*b+r):=bo [q,q',b,r] rfl;rw [this,h];exact bo [q',b,r,r'] rfl
 have hb:b≠0:=fun h0=>by rw [h0,len_zero] at hr; omega
 by_cases hq:q-q'=0
 ·have hq':=t6 hq
  rw [hq,zero_mul] at e;exact ⟨hq',(t6 e.symm).symm⟩
 ·have l:=len_mul hq hb
  rw [e] at l;have h1:=len_le (lt_sub (Pol.lt_iff.2 (show r'.len≤b.len-1 by omega)) (Pol.lt_iff.2 (show r.len≤b.len-1 by omega)))
  have:=len_pos hq;omega
open Classical in
noncomputable def Pol.qr (a b:Pol K):Pol K×Pol K:=
 if hb:b=0 then (0,a) else ((Classical.choose (div_ex b hb a.len a a.lt_len)),Classical.choose (ew (div_ex b hb a.len a a.lt_len)))
noncomputable instance:Div (Pol K):=⟨fun a b=>(Pol.qr a b).1⟩
noncomputable instance:Mod (Pol K):=⟨fun a b=>(Pol.qr a b).2⟩
theorem Pol.div_mod (a b:Pol K):a=(a/b)*b+a%b:=by
 show a=(qr a b).1*b+(qr a b).2;unfold qr
 split
 ·rename_i h; rw [h,mul_zero,zero_add]
 ·rename_i h; exact (ew (ew (div_ex b h a.len a a.lt_len))).1
theorem Pol.len_mod (a:Pol K) {b:Pol K} (h:b≠0):(a%b).len<b.len:=by
 show (qr a b).2.len<_;unfold qr;rw [dif_neg h];exact (ew (ew (div_ex b h a.len a a.lt_len))).2
theorem Pol.div_mod_eq {a b q r:Pol K} (h:a=q*b+r) (hr:r.len<b.len):a/b=q∧a%b=r:=by
 have hb:b≠0:=fun h0=>by rw [h0,len_zero] at hr; omega
 exact div_unique ((div_mod a b).symm.trans h) (len_mod a hb) hr
end
end Gq

namespace Pe
open Go Gq
abbrev Fp (p:Int):Type:=Pol (Zp p)
noncomputable def row {p:Int} (a:Fp p):List Int:=(List.range a.len).map fun i=>rep (a.c i)
def pad (l:List Int):List Int:=(List.range 64).map (cf l)
section
variable {p:Int}
@[simp] theorem cu (a:Fp p):(row a).length=a.len:=by simp [row]
theorem jc (a:Fp p) (i:Nat):cf (row a) i=rep (a.c i):=by
 rcases f7 i a.len with h | h
 ·exact qx _ _ _ h
 ·rw [p7 (by rw [cu]; exact h),a.lt_len i h,ti]
theorem km [IsP p] (a:Fp p):Can p (row a):=Can.of_cf fun j _=>by rw [jc]; exact nu _
theorem Gy [IsP p] (a:Fp p) {b:Int} (hb:7≤b):Small b (row a):=(km a).small (by have:=IsP.le (p:=p); omega)
theorem row_zero:row (0:Fp p)=[]:=by
 apply v4;rw [cu,Pol.len_zero]
theorem aat {a:Fp p}:row a=[]↔a=0:=by rw [←fb,cu,Pol.len_zero_iff]
theorem H8 (l:List Int):∀n,(∀i,jn l n≤i→i<n→cf l i=0)∧(jn l n=0∨cf l (jn l n-1)≠0)
 | 0=>⟨fun i _ h=>absurd h (Nat.not_lt_zero i),.inl rfl⟩
 | n+1=>by
  have ih:=H8 l n;unfold jn
  by_cases h:cf l n=0
  ·rw [if_pos h]
   refine ⟨fun i h1 h2=>?_,ih.2⟩
   by_cases hi:i=n
   ·rw [hi,h]
   ·exact ih.1 i h1 (by omega)
  ·rw [if_neg h]
   exact ⟨fun i h1 h2=>by omega,.inr h⟩
theorem Ae {l:List Int} {f:Fp p} (h:∀i,cf l i=rep (f.c i)):trim l=row f:=by
 have ht:=H8 l l.length;have hl:=E8 l l.length
 have e:jn l l.length=f.len:=by
  apply Nat.le_antisymm
  ·rcases ht.2 with h0 | h0
   ·omega
   ·rw [h] at h0
    rcases f7 (jn l l.length-1) f.len with h1 | h1
    ·omega
    ·exact absurd (by rw [f.lt_len _ h1,ti]) h0
  ·apply Pol.len_le
   intro i hi;apply im.1;rw [←h];rcases f7 i l.length with h1 | h1
   ·exact ht.1 i hi h1
   ·exact p7 h1
 apply rh
 ·rw [cu,←e]; unfold trim; rw [bj]; omega
 ·intro i h1 h2
  have e1:(trim l)[i]=cf l i:=by
   unfold trim at h1 ⊢;rw [n4,gu]
  have e2:(row f)[i]=cf (row f) i:=(gu h2).symm;rw [e1,e2,jc,h]
def fc (p:Int) (l:List Int):Fp p:=⟨fun i=>zp p (cf l i),l.length,fun i hi=>by rw [p7 hi]; rfl⟩
theorem jw (l:List Int) (i:Nat):(fc p l).c i=zp p (cf l i):=rfl
theorem a57 (l:List Int):(fc p l).lt l.length:=fun i hi=>by rw [jw,p7 hi]; rfl
theorem yc (a:Fp p):fc p (row a)=a:=Pol.ext fun i=>by rw [jw,jc,m8]
theorem sw [IsP p] {l:List Int} (h:Can p l):trim l=row (fc p l):=Ae fun i=>by
 have h1:=h.le IsP.pos i;rw [jw,Qv h1]
theorem ab7 {a b:Fp p} (h:row a=row b):a=b:=by rw [←yc a,←yc b,h]
theorem aar:pad []=List.replicate 64 0:=by decide +kernel
@[simp] theorem ae5:z64=aq .u8 (pad []):=by rw [aar]; unfold aq z64; rw [gz]
theorem dc (l:List Int):(pad l).length=64:=by simp [pad]
theorem zu {l:List Int} (h:l.length≤64) (i:Nat):cf (pad l) i=cf l i:=by
 rcases f7 i 64 with h1 | h1
 ·exact qx _ _ _ h1
 ·rw [p7 (by rw [dc]; exact h1),p7 (by omega)]
theorem um (l:List Int) (i:Nat) (h:i<64):(pad l)[i]? = some (cf l i):=by
 rw [pad,fe,jm h]; rfl
theorem Xg {l m:List Int} (hl:m.length=64) (h:∀i,i<64→cf l i=cf m i):pad l=m:=by
 apply rh
 ·rw [dc,hl]
 ·intro i h1 h2
  rw [←gu h2,←h i (by omega)]
  simp [pad]
theorem V9 [IsP p] (a b:Fp p) (k:Int):aby p (row a) (row b) k=row (a+Pol.C (zp p k)*b):=by
 apply Ae;intro i
 have e:rep ((a+Pol.C (zp p k)*b).c i)=(rep (a.c i)+k*rep (b.c i))%p:=by
  rw [Pol.c_add,Pol.c_Cmul,←N6]
  congr 1
  rw [Xz,Dx,m8,m8]
 rw [e];rcases f7 i (max a.len b.len) with h | h
 ·rw [qx _ _ _ (by simpa using h)]
  unfold lin;rw [jc,jc]
 ·rw [p7 (by simpa using h),a.lt_len i (by omega),b.lt_len i (by omega)]
  simp [ti]
def cvs {K:Type} [CR K] (f g:Nat→K):Nat→Nat→K
 | 0,_=>0
 | m+1,j=>cvs f g m j+if m≤j then f m*g (j-m) else 0
theorem L4 {K:Type} [CR K] (f g:Nat→K):∀m j,cvs f g (m+1) j=f 0*g j+if j=0 then 0 else cvs (fun i=>f (i+1)) g m (j-1)
 | 0,j=>by
  show 0+(if 0≤j then f 0*g (j-0) else 0)=_
  rw [if_pos (mu j),Nat.sub_zero,Gq.zero_add]
  split <;> exact (Gq.add_zero _).symm
 | m+1,j=>by
  rw [cvs,L4 f g m j]
  by_cases h:j=0
  ·subst h
   rw [if_pos rfl,if_neg (by omega),if_pos rfl,Gq.add_zero]
  ·rw [if_neg h,if_neg h,cvs]
   rw [Gq.add_assoc]
   congr 2
   by_cases h2:m+1≤j
   ·rw [if_pos h2,if_pos (by omega),show j-(m+1)=j-1-m by omega]
   ·rw [if_neg h2,if_neg (by omega)]
theorem a69 {K:Type} [CR K] (g:Nat→K):∀(j m:Nat) (f:Nat→K),j<m→cvs f g m j=cv j f g
 | 0,0,f,h=>by omega
 | 0,m+1,f,_=>by rw [L4,if_pos rfl,Gq.add_zero]; rfl
 | j+1,0,f,h=>by omega
 | j+1,m+1,f,h=>by rw [L4,if_neg (by omega),cv,Nat.add_sub_cancel,a69 g j m _ (by omega)]
theorem Tu {K:Type} [CR K] (f g:Nat→K) {m:Nat} (h:∀i,m≤i→f i=0) (j:Nat):∀k,cvs f g (m+k) j=cvs f g m j
 | 0=>rfl
 | k+1=>by
  rw [←jf,cvs,Tu f g h j k,h (m+k) (by omega),Gq.zero_mul]
  split <;> exact Gq.add_zero _
theorem a25 (l m:List Int):∀n j,zp p (conv l m n j)=cvs (fc p l).c (fc p m).c n j
 | 0,j=>rfl
 | n+1,j=>by
  rw [conv,cvs,←a25 l m n j]
  split
  ·rfl
  ·rfl
theorem abl [IsP p] (a b:Fp p):mul p (row a) (row b)=row (a*b):=by
 apply Ae;intro i
 have e:∀i,conv (row a) (row b) (row a).length i%p=rep ((a*b).c i):=fun i=>by
  rw [←N6,a25,yc,yc,cu,Pol.c_mul]
  congr 1
  rw [←Tu a.c b.c a.lt_len i (i+1),a69];omega
 rcases f7 i (a.len+b.len-1) with h | h
 ·rw [qx _ _ _ (by simpa using h),e]
 ·rw [p7 (by simpa using h),Pol.lt_mul a.lt_len b.lt_len i h,ti]
end
end Pe
namespace Pe
open Go Gq
variable {T:Nat→Option Fn} {A:ap}
theorem a9f (p:Int) [h:IsP p] (a:Int) (h0:0<a) (h1:a<p):a*inv p a%p=1:=by
 rcases h.h with rfl | rfl | rfl | rfl
 ·obtain rfl:a=1:=by omega
  decide
 ·have:a=1∨a=2:=by omega
  rcases this with rfl | rfl <;> decide
 ·have:a=1∨a=2∨a=3∨a=4:=by omega
  rcases this with rfl | rfl | rfl | rfl <;> decide
 ·have:a=1∨a=2∨a=3∨a=4∨a=5∨a=6:=by omega
  rcases this with rfl | rfl | rfl | rfl | rfl | rfl <;> decide
theorem A2 (p:Int) [IsP p] (a:Int):0≤inv p a∧inv p a<p:=by
 have:=IsP.ge (p:=p);exact a16 (by omega) _
@[simp] theorem a5i {p:Int} (a:Fp p):(row a).take a.len=row a:=b7 (by simp)
def o5 (O:ap):Prop:=∀(p:Int) [IsP p] (k:Int) (a b:Fp p),-1000000≤k→k≤1000000→a.len<1000000→b.len<1000000 →
 ask O F13 [(D.int .i64 p),(D.sl .leaf (aq .i64 (row a))),(D.sl .leaf (aq .i64 (row b))),(D.int .i64 k)]=some (D.sl .leaf (aq .i64 (row (a+Pol.C (zp p k)*b))))
theorem a4s {O:ap} (h:Cf O):o5 O:=fun p i k a b h1 h2 h3 h4=>by
 have h5:=IsP.pos (p:=p);have h6:=IsP.le (p:=p);rw [h p k (row a) (row b) h5 (by omega) (Gy a (by omega)) (Gy b (by omega)) h1 h2 (by simpa using h3) (by simpa using h4),V9]
def yw (O:ap):Prop:=∀(p:Int) [IsP p] (a b:Fp p),a.len<10000→b.len<10000 →
 ask O F1l [(D.int .i64 p),(D.sl .leaf (aq .i64 (row a))),(D.sl .leaf (aq .i64 (row b)))]=some (D.sl .leaf (aq .i64 (row (a*b))))
theorem aao {O:ap} (h:Rg O):yw O:=fun p i a b h1 h2=>by
 have h5:=IsP.pos (p:=p);have h6:=IsP.le (p:=p);rw [h p (row a) (row b) h5 (by omega) (km a) (km b) (by simpa using h1) (by simpa using h2),abl]
def uq (O:ap):Prop:=∀(p:Int) [IsP p] (k:Int) (a:Fp p),-1000000≤k→k≤1000000→a.len<1000000 →
 ask O F1j [(D.int .i64 p),(D.sl .leaf (aq .i64 (row a))),(D.int .i64 k)]=some (D.sl .leaf (aq .i64 (row (Pol.C (zp p k)*a))))
theorem ab9 {O:ap} (h:Sz O):uq O:=fun p i k a h1 h2 h3=>by
 have h5:=IsP.pos (p:=p);have h6:=IsP.le (p:=p);have e:=V9 (0:Fp p) a k;rw [row_zero,Gq.zero_add] at e;rw [h p k (row a) h5 (by omega) (Gy a (by omega)) h1 h2 (by simpa using h3),e]
theorem a9q {K:Type} [CR K] {g:Nat→K}:∀{i:Nat} {f:Nat→K},(∀j,j≤i→f j=0)→cv i f g=0
 | 0,f,h=>by rw [cv,h 0 (bp 0),Gq.zero_mul]
 | i+1,f,h=>by rw [cv,h 0 (mu _),Gq.zero_mul,a9q (fun j hj=>h (j+1) (by omega)),Gq.add_zero]
theorem Vl {K:Type} [Fd K] (k:K) (n:Nat) (a:Pol K) (i:Nat):(Pol.mo k n*a).c i=if n≤i then k*a.c (i-n) else 0:=by
 split
 ·rename_i h; exact Pol.c_momul k n a i h
 ·rename_i h
  rw [Pol.c_mul];exact a9q fun j hj=>if_neg (by omega)
section
variable {p:Int} [IsP p]
theorem Vr (q:Int) (b:Fp p) (c:Nat) (cur:List Int) (h:c+b.len≤cur.length):fc p (oz p q (row b) c b.len 0 cur)=fc p cur-Pol.mo (zp p q) c*b:=Pol.ext fun j=>by
 rw [Pol.c_sub,Vl,jw,jw,Ak _ _ _ _ _ _ _ _ (by omega)]
 by_cases h1:c+0≤j∧j<c+0+b.len
 ·rw [if_pos h1,if_pos (by omega),A1,a9m,Dx,jc,m8]
 ·rw [if_neg h1]
  split
  ·rw [b.lt_len _ (by omega),Gq.mul_zero,sub_eq,th,Gq.add_zero]
  ·rw [sub_eq,th,Gq.add_zero]
theorem a4m (q:Int) (c:Nat) (quo:List Int) (h:c<quo.length) (h0:cf quo c=0):fc p (quo.set c q)=fc p quo+Pol.mo (zp p q) c:=Pol.ext fun j=>by
 rw [Pol.c_add,jw,jw,v7];show _=_+(if j=c then zp p q else 0)
 by_cases h1:j=c
 ·subst h1
  rw [if_pos ⟨rfl,h⟩,if_pos rfl,h0,Cs,Gq.zero_add]
 ·rw [if_neg (by omega),if_neg h1,Gq.add_zero]
theorem S5 (b:Fp p) (hb:b≠0):∀(c:Nat) (cur quo:List Int),c+b.len≤cur.length+1→c≤quo.length→Can p cur→(∀j,j<c→cf quo j=0)→(∀j,c+b.len-1≤j→cf cur j=0)→Can p quo →
 let r:=dv p (inv p (rep b.ld)) (row b) c (cur,quo)
 fc p r.1+fc p r.2*b=fc p cur+fc p quo*b∧(∀j,b.len-1≤j→cf r.1 j=0)∧Can p r.1∧Can p r.2
 | 0,cur,quo,_,_,hcan,_,h,hq=>⟨rfl,fun j hj=>h j (by omega),hcan,hq⟩
 | c+1,cur,quo,hl,hlq,hcan,hq0,h,hq=>by
  have hp:=IsP.pos (p:=p);have hbl:=Pol.len_pos hb;have hr:=nu b.ld;have hld:rep b.ld≠0:=fun h0=>Pol.ld_ne hb (im.1 h0)
  generalize hqd:cf cur (c+b.len-1)*inv p (rep b.ld)%p=q;have hqin:0≤q∧q<p:=by subst hqd; exact ⟨fm _ (by omega),eh _ hp⟩
  have hlen:c+b.len≤cur.length:=by omega
  have e:dv p (inv p (rep b.ld)) (row b) (c+1) (cur,quo)=dv p (inv p (rep b.ld)) (row b) c (oz p q (row b) c b.len 0 cur,quo.set c q):=by
   rw [dv]; simp only [cu,hqd]
  rw [e]
  have key:(cf cur (c+b.len-1)-q*rep b.ld)%p=0:=by
   have h1:=a9f p (rep b.ld) (by omega) hr.2
   have h2:q*rep b.ld%p=cf cur (c+b.len-1)%p:=by
    subst hqd;rw [Int.mul_emod,mz _ (Int.dvd_refl p),←Int.mul_emod,y9,ku (inv p _),Int.mul_emod,h1,tf,mz _ (Int.dvd_refl p)]
   rw [Int.sub_emod,h2,←Int.sub_emod,Int.sub_self,Int.zero_emod]
  have ih:=S5 b hb c (oz p q (row b) c b.len 0 cur) (quo.set c q) (by rw [ol]; omega) (by simp; omega) (Gz hp (by omega) hcan)
   (fun j hj=>by rw [v7,if_neg (by omega)]; exact hq0 j (by omega))
   (fun j hj=>by
    rw [Ak _ _ _ _ _ _ _ _ (by omega)]
    by_cases hj2:j=c+b.len-1
    ·subst hj2
     rw [if_pos (by omega),jc,show c+b.len-1-c=b.len-1 by omega]; exact key
    ·rw [if_neg (by omega)]; exact h j (by omega))
   (fun x hx=>by
    rcases ef hx with h1 | h1
    ·exact hq x h1
    ·subst h1; exact hqin)
  refine ⟨?_,ih.2⟩;rw [ih.1,Vr q b c cur hlen,a4m q c quo (by omega) (hq0 c (by omega))]
  exact bo [fc p cur,Pol.mo (zp p q) c,b,fc p quo] rfl
def a1i (O:ap):Prop:=∀l:List Int,l.length<1000000→O F28 [(.d (.sl .leaf (aq .i64 l)))] []=some (.sl 0 [] 0 l.length none,[],[.sl false .leaf (aq .i64 l)])
def wm (O:ap):Prop:=∀(p:Int) [IsP p] (a b:Fp p),b≠0→a.len<5000→b.len<5000 →
 ask O F15 [(D.int .i64 p),(D.sl .leaf (aq .i64 (row a))),(D.sl .leaf (aq .i64 (row b)))]=some (.tup [(D.sl .leaf (aq .i64 (row (a/b)))),(D.sl .leaf (aq .i64 (row (a%b))))])
end
section
variable {p:Int}
theorem Gl (b:Fp p):Hw (row b)=rep b.ld:=by unfold Hw Pol.ld; rw [jc,cu]
end
section
variable {p:Int} [IsP p]
theorem a7e (hT:T F15=some Z15) (hcl:a1i (den T A)) (htr:wc (den T A)) (hld:y7 (den T A)) (hinv:rf (den T A)) (hred:ww (den T A)):wm (den T A):=by
 intro p ip a b hb ha hbl;have hp:=IsP.ge (p:=p);have hp7:=IsP.le (p:=p);have e1:=hcl (row a) (by simpa using (show a.len<1000000 by omega))
 rw [cu] at e1;have hb0:=Pol.len_pos hb;refine ch hT rfl ?_
 by_cases hlt:a.len<b.len
 ·obtain ⟨h1,h2⟩:=Pol.div_mod_eq (a:=a) (b:=b) (q:=0) (r:=a) (by rw [Gq.zero_mul,Gq.zero_add]) hlt
  rw [h1,h2,row_zero];have h3:(a.len:Int)<(b.len:Int):=by omega
  simp -implicitDefEqProofs [Z15,Z15_B,au,e1,h3,iu,a5i]
 ·have h3:¬ (a.len:Int)<(b.len:Int):=by omega
  have hr:=nu b.ld;have e2:=hld (row b) (by simpa using (show b.len<1000000 by omega))
  rw [Gl] at e2;have e3:=hinv p (rep b.ld) (by omega) (by omega) hr.1 hr.2
  have w1:IntKind.i64.wrap ((a.len:Int)-b.len)=(a.len:Int)-b.len:=w64 (by omega)
  have w2:IntKind.i64.wrap ((a.len:Int)-b.len+1)=((a.len-b.len+1:Nat):Int):=(w64 (x:=(a.len:Int)-b.len+1) (by omega)).trans (by omega)
  have w3:IntKind.i64.wrap (((a.len-b.len+1:Nat):Int)-1)=((a.len-b.len+1:Nat):Int)-1:=w64 (by omega)
  have h8:(a.len-b.len+1)*8≤1099511627776:=by omega
  have l1:=a4t (O:=den T A) (by_:=inv p (rep b.ld)) (b:=row b) (la:=a.len) (nq:=a.len-b.len+1) (cp:=none) hred (by omega) (by omega) (A2 p _) (km b) (by rw [cu]; omega) (by rw [cu]; omega) (by omega)
   (a.len-b.len+1) (row a) (List.replicate (a.len-b.len+1) 0) (bp _) (cu a) (by simp) (km a)
  have hz:∀n j,cf (List.replicate n (0:Int)) j=0:=fun n j=>by
   by_cases hj:j<n
   ·rw [gu (by simpa using hj)]; simp
   ·exact p7 (by simp; omega)
  have sp:=S5 b hb (a.len-b.len+1) (row a) (List.replicate (a.len-b.len+1) 0) (by rw [cu]; omega) (by simp) (km a) (fun j _=>hz _ j) (fun j hj=>by rw [p7]; rw [cu]; omega) (fun x hx=>by
   obtain rfl:=(List.mem_replicate.1 hx).2; omega)
  have hl1:∀(c:Nat) (x y:List Int),(dv p (inv p (rep b.ld)) (row b) c (x,y)).1.length=x.length∧(dv p (inv p (rep b.ld)) (row b) c (x,y)).2.length=y.length:=by
   intro c
   induction c with
   | zero=>exact fun x y=>⟨rfl,rfl⟩
   | succ c ih=>
    intro x y;rw [dv];obtain ⟨i1,i2⟩:=ih (oz p (cf x (c+(row b).length-1)*inv p (rep b.ld)%p) (row b) c (row b).length 0 x) (y.set c (cf x (c+(row b).length-1)*inv p (rep b.ld)%p));exact ⟨by rw [i1,ol],by rw [i2,db]⟩
  obtain ⟨l2,l3⟩:=hl1 (a.len-b.len+1) (row a) (List.replicate (a.len-b.len+1) 0);generalize dv p (inv p (rep b.ld)) (row b) (a.len-b.len+1) (row a,List.replicate (a.len-b.len+1) 0)=r at *;obtain ⟨s1,s2,s3,s4⟩:=sp;have z0:fc p (List.replicate (a.len-b.len+1) 0)=0:=Pol.ext fun j=>by rw [jw,hz]; rfl
  rw [z0,Gq.zero_mul,Gq.add_zero,yc,Gq.add_comm] at s1
  have hrl:(fc p r.1).len<b.len:=by
   have:(fc p r.1).lt (b.len-1):=fun i hi=>by rw [jw,s2 i hi]; rfl
   have:=Pol.len_le this;omega
  obtain ⟨h1,h2⟩:=Pol.div_mod_eq s1.symm hrl;rw [h1,h2,←sw s3,←sw s4];have t1:=htr r.1 (by rw [l2,cu]; omega)
  have t2:=htr r.2 (by rw [l3,cw]; omega)
  have k1:r.1.take a.len=r.1:=b7 (by rw [l2,cu]; omega)
  have k2:r.2.take (a.len-b.len+1)=r.2:=b7 (by rw [l3,cw]; omega)
  rw [cw] at l3;rw [cu] at l2;generalize a.len-b.len+1=n at *;simp -implicitDefEqProofs [Z15,Z15_B,au,e1,h3,w1,w2,w3,h8,e2,e3,l1,t1,t2,l2,l3,k1,k2]
end
end Pe

/-
 Functions of the program in the small form,printed by a program.
-/
namespace Pe
open Go
def Z2e_L0:Cd:=
 Irg [Ibn 9 .lss 8 7] [0,1,7,8,9]
 (.seq (Icd 9
 (.skip)
 (.exit 0))
 (.seq (.block 1 (Irg [Lw 10 8,
 Lw 5 10] [0,1,5,7,8]
 (Irg [Lw 11 1,
 Lw 12 0,
 Lw 13 5,
 Iia 14 Sx6 12 13,
 Ipx 15 14,
 Ll 16 (.call .flat [] (.t 11) [(.t 15)])] [0,1,5,7,8,16]
 (Icd 16
 (Irg [Lw 17 5,
 Lw 4 17] [4]
 (.ret))
 (.skip)))))
 (.region [Ibc 18 .add 8 1,
 Lw 8 18] [0,1,7,8])))
def Z2e_B:Cd:=
 Irg [Imc 4 0] [0,1]
 (.seq (Irg [Lw 6 0,
 Ien 7 6,
 Imc 8 0] [0,1,7,8]
 (.block 0 (.loop (Z2e_L0))))
 (Irg [Imc 4 (-1)] [4]
 (.ret)))
def Z2e:Fn:=
 { nparams:=2,nblk:=0,results:=[.tmp 4],body:=Z2e_B }
def Z2b_B:Cd:=
 Irg [Ll 4 (.mv (.c (.bool false)))] [0,1]
 (Irg [Lw 5 0,
 Lw 6 1,
 Ll 7 (Ofx F2e [(.t 5),(.t 6)]),
 Ibc 8 .geq 7 0,
 Lw 4 8] [4]
 (.ret))
def Z2b:Fn:=
 { nparams:=2,nblk:=0,results:=[.tmp 4],body:=Z2b_B }
def Z2d_L0:Cd:=
 Irg [Ibn 9 .lss 8 7] [0,1,7,8,9]
 (.seq (Icd 9
 (.skip)
 (.exit 0))
 (.seq (.block 1 (Irg [Lw 10 8,
 Lw 5 10] [0,1,5,7,8]
 (Irg [Lw 11 1,
 Lw 12 0,
 Lw 13 5,
 Iia 14 .leaf 12 13,
 Ilx 15 14,
 Ll 16 (.call .flat [] (.t 11) [(.t 15)])] [0,1,5,7,8,16]
 (Icd 16
 (Irg [Lw 17 5,
 Lw 4 17] [4]
 (.ret))
 (.skip)))))
 (.region [Ibc 18 .add 8 1,
 Lw 8 18] [0,1,7,8])))
def Z2d_B:Cd:=
 Irg [Imc 4 0] [0,1]
 (.seq (Irg [Lw 6 0,
 Ien 7 6,
 Imc 8 0] [0,1,7,8]
 (.block 0 (.loop (Z2d_L0))))
 (Irg [Imc 4 (-1)] [4]
 (.ret)))
def Z2d:Fn:=
 { nparams:=2,nblk:=0,results:=[.tmp 4],body:=Z2d_B }
def Z2a_B:Cd:=
 Irg [Ll 4 (.mv (.c (.bool false)))] [0,1]
 (Irg [Lw 5 0,
 Lw 6 1,
 Ll 7 (Ofx F2d [(.t 5),(.t 6)]),
 Ibc 8 .geq 7 0,
 Lw 4 8] [4]
 (.ret))
def Z2a:Fn:=
 { nparams:=2,nblk:=0,results:=[.tmp 4],body:=Z2a_B }
def Z2n_L0:Cd:=
 .seq (Irg [Lw 18 9,
 Lw 19 1,
 Ibn 20 .gtr 18 19,
 Lw 21 20,
 Lx 22 3 21 true,
 Lx 23 0 21 true,
 Lx 24 9 21 true,
 Lg 25 (.idxA none (.st [.leaf,.leaf]) (.t 23) (.t 24)) 21 true,
 Lg 26 (.load (.st [.leaf,.leaf]) (.t 25)) 21 true,
 Lx 27 0 21 true,
 Lx 28 9 21 true,
 Lg 29 (.bin .sub (.t 28) (Acx 1)) 21 true,
 Lg 30 (.idxA none (.st [.leaf,.leaf]) (.t 27) (.t 29)) 21 true,
 Lg 31 (.load (.st [.leaf,.leaf]) (.t 30)) 21 true,
 Lg 32 (.call .flat [] (.t 22) [(.t 26),(.t 31)]) 21 true,
 Lg 33 (.bin .lss (.t 32) (Acx 0)) 21 true,
 Ian 34 21 33] [0,1,2,3,8,9,34]
 (Icd 34
 (.skip)
 (.exit 2)))
 (.seq (.block 3 (.region [Lw 37 0,
 Lw 38 9,
 Lw 39 0,
 Lw 40 9,
 Ibc 41 .sub 40 1,
 Lw 42 0,
 Lw 43 9,
 Ibc 44 .sub 43 1,
 Ll 45 (.idxA none (.st [.leaf,.leaf]) (.t 42) (.t 44)),
 Ll 46 (.load (.st [.leaf,.leaf]) (.t 45)),
 Lw 47 0,
 Lw 48 9,
 Ll 49 (.idxA none (.st [.leaf,.leaf]) (.t 47) (.t 48)),
 Ll 50 (.load (.st [.leaf,.leaf]) (.t 49)),
 Ll 51 (.idxA none (.st [.leaf,.leaf]) (.t 37) (.t 38)),
 Ls (.store false (.st [.leaf,.leaf]) (.t 51) (.t 46)),
 Ll 52 (.idxA none (.st [.leaf,.leaf]) (.t 39) (.t 41)),
 Ls (.store false (.st [.leaf,.leaf]) (.t 52) (.t 50))] [0,1,2,3,8,9]))
 (.region [Lw 35 9,
 Ibc 36 .sub 35 1,
 Lw 9 36] [0,1,2,3,8,9]))
def Z2n_L1:Cd:=
 .seq (Irg [Lw 12 8,
 Lw 13 2,
 Ibn 14 .lss 12 13] [0,1,2,3,8,14]
 (Icd 14
 (.skip)
 (.exit 0)))
 (.seq (.block 1 (Irg [Lw 17 8,
 Lw 9 17] [0,1,2,3,8,9]
 (.block 2 (.loop (Z2n_L0)))))
 (.region [Lw 15 8,
 Ibc 16 .add 15 1,
 Lw 8 16] [0,1,2,3,8]))
def Z2n_B:Cd:=
 Irg [Lw 10 1,
 Ibc 11 .add 10 1,
 Lw 8 11] [0,1,2,3,8]
 (.block 0 (.loop (Z2n_L1)))
def Z2n:Fn:=
 { nparams:=4,nblk:=0,results:=[],body:=Z2n_B }
def Z27_B:Cd:=
 Irg [Imc 2 0] [0,2]
 (.seq (Irg [Lw 3 0,
 Ll 4 (.bin .geq (.t 3) (.c (.int .u64 4294967296)))] [0,2,4]
 (Icd 4
 (Irg [Lw 5 0,
 Ll 6 (.bin .shr (.t 5) (.c (.int .u64 32))),
 Lw 0 6] [0]
 (.region [Imc 2 32] [0,2]))
 (.skip)))
 (.seq (Irg [Lw 7 0,
 Ll 8 (.bin .geq (.t 7) (.c (.int .u64 65536)))] [0,2,8]
 (Icd 8
 (Irg [Lw 9 0,
 Ll 10 (.bin .shr (.t 9) (.c (.int .u64 16))),
 Lw 0 10] [0,2]
 (.region [Lw 11 2,
 Ibc 12 .add 11 16,
 Lw 2 12] [0,2]))
 (.skip)))
 (.seq (Irg [Lw 13 0,
 Ll 14 (.bin .geq (.t 13) (.c (.int .u64 256)))] [0,2,14]
 (Icd 14
 (Irg [Lw 15 0,
 Ll 16 (.bin .shr (.t 15) (.c (.int .u64 8))),
 Lw 0 16] [0,2]
 (.region [Lw 17 2,
 Ibc 18 .add 17 8,
 Lw 2 18] [0,2]))
 (.skip)))
 (Irg [Lw 19 2,
 Lw 20 0,
 Icv 21 .u8 20,
 Ll 22 (.idx none .leaf (.c (.str (ByteArray.mk #[0,1,2,2,3,3,3,3,4,4,4,4,4,4,4,4,5,5,5,5,5,5,5,5,5,5,5,5,5,5,5,5,6,6,6,6,6,6,6,6,6,6,6,6,6,6,6,6,6,6,6,6,6,6,6,6,6,6,6,6,6,6,6,6,7,7,7,7,7,7,7,7,7,7,7,7,7,7,7,7,7,7,7,7,7,7,7,7,7,7,7,7,7,7,7,7,7,7,7,7,7,7,7,7,7,7,7,7,7,7,7,7,7,7,7,7,7,7,7,7,7,7,7,7,7,7,7,7,8,8,8,8,8,8,8,8,8,8,8,8,8,8,8,8,8,8,8,8,8,8,8,8,8,8,8,8,8,8,8,8,8,8,8,8,8,8,8,8,8,8,8,8,8,8,8,8,8,8,8,8,8,8,8,8,8,8,8,8,8,8,8,8,8,8,8,8,8,8,8,8,8,8,8,8,8,8,8,8,8,8,8,8,8,8,8,8,8,8,8,8,8,8,8,8,8,8,8,8,8,8,8,8,8,8,8,8,8,8,8,8,8,8,8,8,8,8,8,8,8,8,8,8,8,8,8,8]))) (.t 21)),
 Icv 23 .i64 22,
 Ibn 24 .add 19 23,
 Lw 2 24] [2]
 (.ret)))))
def Z27:Fn:=
 { nparams:=1,nblk:=0,results:=[.tmp 2],body:=Z27_B }
def Z25_B:Cd:=
 Irg [Imc 2 0] [0]
 (.seq (.cond (.c (.bool false))
 (Irg [Lw 3 0,
 Icv 4 .u32 3,
 Ll 5 (Ofx F26 [(.t 4)]),
 Lw 2 5] [2]
 (.ret))
 (.skip))
 (Irg [Lw 6 0,
 Ll 7 (Ofx F27 [(.t 6)]),
 Lw 2 7] [2]
 (.ret)))
def Z25:Fn:=
 { nparams:=1,nblk:=0,results:=[.tmp 2],body:=Z25_B }
def Z32_L0:Cd:=
 .block 1 (Irg [Lw 21 2,
 Lw 22 1,
 Ibn 23 .sub 21 22,
 Lw 12 23] [0,1,2,3,4,10,11,12]
 (.seq (Irg [Lw 24 12,
 Ibc 25 .leq 24 12] [0,1,2,3,4,10,11,12,25]
 (Icd 25
 (Irg [Lw 26 0,
 Lw 27 1,
 Lw 28 2,
 Lw 29 4,
 Ll 30 (.call .heap [] (.f F2n) [(.t 26),(.t 27),(.t 28),(.t 29)])] []
 (.ret))
 (.skip)))
 (.seq (Irg [Lw 31 3,
 Ibc 32 .eql 31 0] [0,1,2,3,4,10,11,12,32]
 (Icd 32
 (Irg [Lw 33 0,
 Lw 34 1,
 Lw 35 2,
 Lw 36 4,
 Ll 37 (.call .heap [] (.f F2l) [(.t 33),(.t 34),(.t 35),(.t 36)])] []
 (.ret))
 (.skip)))
 (.seq (Irg [Lw 38 10,
 Ll 39 (.un .not (.t 38))] [0,1,2,3,4,10,11,12,39]
 (Icd 39
 (Irg [Lw 40 0,
 Lw 41 1,
 Lw 42 2,
 Lw 43 4,
 Ll 44 (.call .heap [] (.f F2h) [(.t 40),(.t 41),(.t 42),(.t 43)])] [0,1,2,3,4,10,11,12]
 (.region [Lw 45 3,
 Ibc 46 .sub 45 1,
 Lw 3 46] [0,1,2,3,4,10,11,12]))
 (.skip)))
 (Irg [Lw 48 0,
 Lw 49 1,
 Lw 50 2,
 Lw 51 4,
 Ll 52 (Ofx F2j [(.t 48),(.t 49),(.t 50),(.t 51)]),
 Lw 47 52,
 Iex 53 47 0,
 Iex 54 47 1,
 Lw 13 53,
 Lw 14 54] [0,1,2,3,4,10,11,12,13,14]
 (.seq (Irg [Lw 55 14,
 Ibc 56 .eql 55 2] [0,1,2,3,4,10,11,12,13,14,56]
 (Icd 56
 (Irg [Lw 57 0,
 Lw 58 1,
 Lw 59 2,
 Lw 60 4,
 Ll 61 (.call .heap [] (.f F34) [(.t 57),(.t 58),(.t 59),(.t 60)])] [0,1,2,3,4,10,11,12,13]
 (Irg [Lw 62 2,
 Ibc 63 .sub 62 1,
 Lw 64 13,
 Lw 65 1,
 Ibn 66 .sub 64 65,
 Ibn 67 .sub 63 66,
 Lw 13 67] [0,1,2,3,4,10,11,12,13]
 (.region [Imc 14 1] [0,1,2,3,4,10,11,12,13,14])))
 (.skip)))
 (.seq (Irg [Lw 68 10,
 Lw 69 68,
 Lx 70 11 69 true,
 Ian 71 69 70,
 Lw 72 71,
 Lx 73 14 72 true,
 Lg 74 (.bin .eql (.t 73) (Acx 1)) 72 true,
 Ian 75 72 74] [0,1,2,3,4,10,11,12,13,75]
 (Icd 75
 (Irg [Lw 76 0,
 Lw 77 1,
 Lw 78 2,
 Lw 79 4,
 Ll 80 (.call .heap [] (.f F2w) [(.t 76),(.t 77),(.t 78),(.t 79)])] [0,1,2,3,4,10,11,12,13,80]
 (Icd 80
 (.ret)
 (.skip)))
 (.skip)))
 (.seq (Irg [Lw 81 1,
 Ibc 82 .gtr 81 0,
 Lw 83 82,
 Lx 84 4 83 true,
 Lx 85 0 83 true,
 Lx 86 1 83 true,
 Lg 87 (.bin .sub (.t 86) (Acx 1)) 83 true,
 Lg 88 (.idxA none (.st [.leaf,.leaf]) (.t 85) (.t 87)) 83 true,
 Lg 89 (.load (.st [.leaf,.leaf]) (.t 88)) 83 true,
 Lx 90 0 83 true,
 Lx 91 13 83 true,
 Lg 92 (.idxA none (.st [.leaf,.leaf]) (.t 90) (.t 91)) 83 true,
 Lg 93 (.load (.st [.leaf,.leaf]) (.t 92)) 83 true,
 Lg 94 (.call .flat [] (.t 84) [(.t 89),(.t 93)]) 83 true,
 Lg 95 (.bin .lss (.t 94) (Acx 0)) 83 true,
 Lg 96 (.un .not (.t 95)) 83 true,
 Ian 97 83 96] [0,1,2,3,4,10,11,12,13,97]
 (Icd 97
 (Irg [Lw 98 0,
 Lw 99 1,
 Lw 100 2,
 Lw 101 13,
 Lw 102 4,
 Ll 103 (.call .heap [] (.f F30) [(.t 98),(.t 99),(.t 100),(.t 101),(.t 102)]),
 Lw 15 103] [0,2,3,4,10,11,15]
 (Irg [Lw 104 15,
 Lw 1 104] [0,1,2,3,4,10,11]
 (.exit 1)))
 (.skip)))
 (Irg [Lw 106 0,
 Lw 107 1,
 Lw 108 2,
 Lw 109 13,
 Lw 110 4,
 Ll 111 (.call .heap [] (.f F2y) [(.t 106),(.t 107),(.t 108),(.t 109),(.t 110)]),
 Lw 105 111,
 Iex 112 105 0,
 Iex 113 105 1,
 Lw 16 112,
 Lw 17 113] [0,1,2,3,4,12,16,17]
 (Irg [Lw 114 17,
 Lw 11 114] [0,1,2,3,4,11,12,16]
 (Irg [Lw 115 16,
 Lw 116 1,
 Ibn 117 .sub 115 116,
 Lw 118 2,
 Lw 119 16,
 Ibn 120 .sub 118 119,
 Lw 18 117,
 Lw 19 120] [0,1,2,3,4,11,12,16,18,19]
 (Irg [Lw 121 12,
 Ibc 122 .quo 121 8,
 Lw 20 122] [0,1,2,3,4,11,16,18,19,20]
 (Irg [Lw 123 18,
 Lw 124 19,
 Ibn 125 .lss 123 124] [0,1,2,3,4,11,16,18,19,20,125]
 (Icd 125
 (Irg [Lw 126 18,
 Lw 127 20,
 Ibn 128 .geq 126 127,
 Lw 10 128] [0,1,2,3,4,10,11,16]
 (Irg [Lw 129 0,
 Lw 130 1,
 Lw 131 16,
 Lw 132 3,
 Lw 133 4,
 Ll 134 (.call .heap [] (.f F32) [(.t 129),(.t 130),(.t 131),(.t 132),(.t 133)])] [0,2,3,4,10,11,16]
 (.region [Lw 135 16,
 Ibc 136 .add 135 1,
 Lw 1 136] [0,1,2,3,4,10,11])))
 (Irg [Lw 137 19,
 Lw 138 20,
 Ibn 139 .geq 137 138,
 Lw 10 139] [0,1,2,3,4,10,11,16]
 (Irg [Lw 140 0,
 Lw 141 16,
 Ibc 142 .add 141 1,
 Lw 143 2,
 Lw 144 3,
 Lw 145 4,
 Ll 146 (.call .heap [] (.f F32) [(.t 140),(.t 142),(.t 143),(.t 144),(.t 145)])] [0,1,3,4,10,11,16]
 (.region [Lw 147 16,
 Lw 2 147] [0,1,2,3,4,10,11])))))))))))))))))
def Z32_B:Cd:=
 Irg [Ll 10 (.mv (.c (.bool true)))] [0,1,2,3,4,10]
 (Irg [Ll 11 (.mv (.c (.bool true)))] [0,1,2,3,4,10,11]
 (.block 0 (.loop (Z32_L0))))
def Z32:Fn:=
 { nparams:=5,nblk:=0,results:=[],body:=Z32_B }
def Z2f_B:Cd:=
 Irg [Lw 5 0,
 Ien 6 5,
 Lw 4 6] [0,1,4]
 (.region [Lw 7 0,
 Lw 8 4,
 Lw 9 4,
 Icv 10 .u64 9,
 Ll 11 (Ofx F25 [(.t 10)]),
 Lw 12 1,
 Ll 13 (.call .heap [] (.f F32) [(.t 7),(Acx 0),(.t 8),(.t 11),(.t 12)])] [])
def Z2f:Fn:=
 { nparams:=2,nblk:=0,results:=[],body:=Z2f_B }
def Z2_B:Cd:=
 Irg [Ll 2 (.mv (.c (.bool false)))] [0]
 (Irg [Lw 3 0,
 Lw 4 0,
 Ibn 5 .neq 3 4,
 Lw 2 5] [2]
 (.ret))
def Z2:Fn:=
 { nparams:=1,nblk:=0,results:=[.tmp 2],body:=Z2_B }
def Z0_B:Cd:=
 Irg [Imc 4 0] [0,1]
 (Irg [Lw 7 0,
 Ll 8 (Ofx F2 [(.t 7)]),
 Lw 5 8] [0,1,5]
 (Irg [Lw 9 1,
 Ll 10 (Ofx F2 [(.t 9)]),
 Lw 6 10] [0,1,5,6]
 (.seq (Irg [Lw 11 5] [0,1,6,11]
 (Icd 11
 (.seq (Irg [Lw 12 6] [12]
 (Icd 12
 (Irg [Imc 4 0] [4]
 (.ret))
 (.skip)))
 (Irg [Imc 4 (-1)] [4]
 (.ret)))
 (.skip)))
 (.seq (Irg [Lw 13 6] [0,1,13]
 (Icd 13
 (Irg [Imc 4 1] [4]
 (.ret))
 (.skip)))
 (.seq (Irg [Lw 14 0,
 Lw 15 1,
 Ibn 16 .lss 14 15] [0,1,16]
 (Icd 16
 (Irg [Imc 4 (-1)] [4]
 (.ret))
 (.skip)))
 (.seq (Irg [Lw 17 0,
 Lw 18 1,
 Ibn 19 .gtr 17 18] [19]
 (Icd 19
 (Irg [Imc 4 1] [4]
 (.ret))
 (.skip)))
 (Irg [Imc 4 0] [4]
 (.ret))))))))
def Z0:Fn:=
 { nparams:=2,nblk:=0,results:=[.tmp 4],body:=Z0_B }
def Z3_B:Cd:=
 Irg [Ll 2 (.mv (.c (.bool false)))] [0]
 (Irg [Lw 3 0,
 Lw 4 0,
 Ibn 5 .neq 3 4,
 Lw 2 5] [2]
 (.ret))
def Z3:Fn:=
 { nparams:=1,nblk:=0,results:=[.tmp 2],body:=Z3_B }
def Z1_B:Cd:=
 Irg [Imc 4 0] [0,1]
 (Irg [Lw 7 0,
 Ll 8 (Ofx F3 [(.t 7)]),
 Lw 5 8] [0,1,5]
 (Irg [Lw 9 1,
 Ll 10 (Ofx F3 [(.t 9)]),
 Lw 6 10] [0,1,5,6]
 (.seq (Irg [Lw 11 5] [0,1,6,11]
 (Icd 11
 (.seq (Irg [Lw 12 6] [12]
 (Icd 12
 (Irg [Imc 4 0] [4]
 (.ret))
 (.skip)))
 (Irg [Imc 4 (-1)] [4]
 (.ret)))
 (.skip)))
 (.seq (Irg [Lw 13 6] [0,1,13]
 (Icd 13
 (Irg [Imc 4 1] [4]
 (.ret))
 (.skip)))
 (.seq (Irg [Lw 14 0,
 Lw 15 1,
 Ibn 16 .lss 14 15] [0,1,16]
 (Icd 16
 (Irg [Imc 4 (-1)] [4]
 (.ret))
 (.skip)))
 (.seq (Irg [Lw 17 0,
 Lw 18 1,
 Ibn 19 .gtr 17 18] [19]
 (Icd 19
 (Irg [Imc 4 1] [4]
 (.ret))
 (.skip)))
 (Irg [Imc 4 0] [4]
 (.ret))))))))
def Z1:Fn:=
 { nparams:=2,nblk:=0,results:=[.tmp 4],body:=Z1_B }
def ir_slices_insertionSortCmpFunc_impl_row_L0:Cd:=
 .seq (Irg [Lw 18 9,
 Lw 19 1,
 Ibn 20 .gtr 18 19,
 Lw 21 20,
 Lx 22 3 21 true,
 Lx 23 0 21 true,
 Lx 24 9 21 true,
 Lg 25 (.idxA none .leaf (.t 23) (.t 24)) 21 true,
 Lg 26 (.load .leaf (.t 25)) 21 true,
 Lx 27 0 21 true,
 Lx 28 9 21 true,
 Lg 29 (.bin .sub (.t 28) (Acx 1)) 21 true,
 Lg 30 (.idxA none .leaf (.t 27) (.t 29)) 21 true,
 Lg 31 (.load .leaf (.t 30)) 21 true,
 Lg 32 (.call .flat [] (.t 22) [(.t 26),(.t 31)]) 21 true,
 Lg 33 (.bin .lss (.t 32) (Acx 0)) 21 true,
 Ian 34 21 33] [0,1,2,3,8,9,34]
 (Icd 34
 (.skip)
 (.exit 2)))
 (.seq (.block 3 (.region [Lw 37 0,
 Lw 38 9,
 Lw 39 0,
 Lw 40 9,
 Ibc 41 .sub 40 1,
 Lw 42 0,
 Lw 43 9,
 Ibc 44 .sub 43 1,
 Iia 45 .leaf 42 44,
 Ilx 46 45,
 Lw 47 0,
 Lw 48 9,
 Iia 49 .leaf 47 48,
 Ilx 50 49,
 Iia 51 .leaf 37 38,
 Ls (.store false .leaf (.t 51) (.t 46)),
 Iia 52 .leaf 39 41,
 Ls (.store false .leaf (.t 52) (.t 50))] [0,1,2,3,8,9]))
 (.region [Lw 35 9,
 Ibc 36 .sub 35 1,
 Lw 9 36] [0,1,2,3,8,9]))
def ir_slices_insertionSortCmpFunc_impl_row_L1:Cd:=
 .seq (Irg [Lw 12 8,
 Lw 13 2,
 Ibn 14 .lss 12 13] [0,1,2,3,8,14]
 (Icd 14
 (.skip)
 (.exit 0)))
 (.seq (.block 1 (Irg [Lw 17 8,
 Lw 9 17] [0,1,2,3,8,9]
 (.block 2 (.loop (ir_slices_insertionSortCmpFunc_impl_row_L0)))))
 (.region [Lw 15 8,
 Ibc 16 .add 15 1,
 Lw 8 16] [0,1,2,3,8]))
def ir_slices_insertionSortCmpFunc_impl_row_B:Cd:=
 Irg [Lw 10 1,
 Ibc 11 .add 10 1,
 Lw 8 11] [0,1,2,3,8]
 (.block 0 (.loop (ir_slices_insertionSortCmpFunc_impl_row_L1)))
def Z2o:Fn:=
 { nparams:=4,nblk:=0,results:=[],body:=ir_slices_insertionSortCmpFunc_impl_row_B }
def ir_slices_pdqsortCmpFunc_impl_row_L0:Cd:=
 .block 1 (Irg [Lw 21 2,
 Lw 22 1,
 Ibn 23 .sub 21 22,
 Lw 12 23] [0,1,2,3,4,10,11,12]
 (.seq (Irg [Lw 24 12,
 Ibc 25 .leq 24 12] [0,1,2,3,4,10,11,12,25]
 (Icd 25
 (Irg [Lw 26 0,
 Lw 27 1,
 Lw 28 2,
 Lw 29 4,
 Ll 30 (.call .heap [] (.f F2o) [(.t 26),(.t 27),(.t 28),(.t 29)])] []
 (.ret))
 (.skip)))
 (.seq (Irg [Lw 31 3,
 Ibc 32 .eql 31 0] [0,1,2,3,4,10,11,12,32]
 (Icd 32
 (Irg [Lw 33 0,
 Lw 34 1,
 Lw 35 2,
 Lw 36 4,
 Ll 37 (.call .heap [] (.f F2m) [(.t 33),(.t 34),(.t 35),(.t 36)])] []
 (.ret))
 (.skip)))
 (.seq (Irg [Lw 38 10,
 Ll 39 (.un .not (.t 38))] [0,1,2,3,4,10,11,12,39]
 (Icd 39
 (Irg [Lw 40 0,
 Lw 41 1,
 Lw 42 2,
 Lw 43 4,
 Ll 44 (.call .heap [] (.f F2i) [(.t 40),(.t 41),(.t 42),(.t 43)])] [0,1,2,3,4,10,11,12]
 (.region [Lw 45 3,
 Ibc 46 .sub 45 1,
 Lw 3 46] [0,1,2,3,4,10,11,12]))
 (.skip)))
 (Irg [Lw 48 0,
 Lw 49 1,
 Lw 50 2,
 Lw 51 4,
 Ll 52 (Ofx F2k [(.t 48),(.t 49),(.t 50),(.t 51)]),
 Lw 47 52,
 Iex 53 47 0,
 Iex 54 47 1,
 Lw 13 53,
 Lw 14 54] [0,1,2,3,4,10,11,12,13,14]
 (.seq (Irg [Lw 55 14,
 Ibc 56 .eql 55 2] [0,1,2,3,4,10,11,12,13,14,56]
 (Icd 56
 (Irg [Lw 57 0,
 Lw 58 1,
 Lw 59 2,
 Lw 60 4,
 Ll 61 (.call .heap [] (.f F35) [(.t 57),(.t 58),(.t 59),(.t 60)])] [0,1,2,3,4,10,11,12,13]
 (Irg [Lw 62 2,
 Ibc 63 .sub 62 1,
 Lw 64 13,
 Lw 65 1,
 Ibn 66 .sub 64 65,
 Ibn 67 .sub 63 66,
 Lw 13 67] [0,1,2,3,4,10,11,12,13]
 (.region [Imc 14 1] [0,1,2,3,4,10,11,12,13,14])))
 (.skip)))
 (.seq (Irg [Lw 68 10,
 Lw 69 68,
 Lx 70 11 69 true,
 Ian 71 69 70,
 Lw 72 71,
 Lx 73 14 72 true,
 Lg 74 (.bin .eql (.t 73) (Acx 1)) 72 true,
 Ian 75 72 74] [0,1,2,3,4,10,11,12,13,75]
 (Icd 75
 (Irg [Lw 76 0,
 Lw 77 1,
 Lw 78 2,
 Lw 79 4,
 Ll 80 (.call .heap [] (.f F2x) [(.t 76),(.t 77),(.t 78),(.t 79)])] [0,1,2,3,4,10,11,12,13,80]
 (Icd 80
 (.ret)
 (.skip)))
 (.skip)))
 (.seq (Irg [Lw 81 1,
 Ibc 82 .gtr 81 0,
 Lw 83 82,
 Lx 84 4 83 true,
 Lx 85 0 83 true,
 Lx 86 1 83 true,
 Lg 87 (.bin .sub (.t 86) (Acx 1)) 83 true,
 Lg 88 (.idxA none .leaf (.t 85) (.t 87)) 83 true,
 Lg 89 (.load .leaf (.t 88)) 83 true,
 Lx 90 0 83 true,
 Lx 91 13 83 true,
 Lg 92 (.idxA none .leaf (.t 90) (.t 91)) 83 true,
 Lg 93 (.load .leaf (.t 92)) 83 true,
 Lg 94 (.call .flat [] (.t 84) [(.t 89),(.t 93)]) 83 true,
 Lg 95 (.bin .lss (.t 94) (Acx 0)) 83 true,
 Lg 96 (.un .not (.t 95)) 83 true,
 Ian 97 83 96] [0,1,2,3,4,10,11,12,13,97]
 (Icd 97
 (Irg [Lw 98 0,
 Lw 99 1,
 Lw 100 2,
 Lw 101 13,
 Lw 102 4,
 Ll 103 (.call .heap [] (.f F31) [(.t 98),(.t 99),(.t 100),(.t 101),(.t 102)]),
 Lw 15 103] [0,2,3,4,10,11,15]
 (Irg [Lw 104 15,
 Lw 1 104] [0,1,2,3,4,10,11]
 (.exit 1)))
 (.skip)))
 (Irg [Lw 106 0,
 Lw 107 1,
 Lw 108 2,
 Lw 109 13,
 Lw 110 4,
 Ll 111 (.call .heap [] (.f F2z) [(.t 106),(.t 107),(.t 108),(.t 109),(.t 110)]),
 Lw 105 111,
 Iex 112 105 0,
 Iex 113 105 1,
 Lw 16 112,
 Lw 17 113] [0,1,2,3,4,12,16,17]
 (Irg [Lw 114 17,
 Lw 11 114] [0,1,2,3,4,11,12,16]
 (Irg [Lw 115 16,
 Lw 116 1,
 Ibn 117 .sub 115 116,
 Lw 118 2,
 Lw 119 16,
 Ibn 120 .sub 118 119,
 Lw 18 117,
 Lw 19 120] [0,1,2,3,4,11,12,16,18,19]
 (Irg [Lw 121 12,
 Ibc 122 .quo 121 8,
 Lw 20 122] [0,1,2,3,4,11,16,18,19,20]
 (Irg [Lw 123 18,
 Lw 124 19,
 Ibn 125 .lss 123 124] [0,1,2,3,4,11,16,18,19,20,125]
 (Icd 125
 (Irg [Lw 126 18,
 Lw 127 20,
 Ibn 128 .geq 126 127,
 Lw 10 128] [0,1,2,3,4,10,11,16]
 (Irg [Lw 129 0,
 Lw 130 1,
 Lw 131 16,
 Lw 132 3,
 Lw 133 4,
 Ll 134 (.call .heap [] (.f F33) [(.t 129),(.t 130),(.t 131),(.t 132),(.t 133)])] [0,2,3,4,10,11,16]
 (.region [Lw 135 16,
 Ibc 136 .add 135 1,
 Lw 1 136] [0,1,2,3,4,10,11])))
 (Irg [Lw 137 19,
 Lw 138 20,
 Ibn 139 .geq 137 138,
 Lw 10 139] [0,1,2,3,4,10,11,16]
 (Irg [Lw 140 0,
 Lw 141 16,
 Ibc 142 .add 141 1,
 Lw 143 2,
 Lw 144 3,
 Lw 145 4,
 Ll 146 (.call .heap [] (.f F33) [(.t 140),(.t 142),(.t 143),(.t 144),(.t 145)])] [0,1,3,4,10,11,16]
 (.region [Lw 147 16,
 Lw 2 147] [0,1,2,3,4,10,11])))))))))))))))))
def ir_slices_pdqsortCmpFunc_impl_row_B:Cd:=
 Irg [Ll 10 (.mv (.c (.bool true)))] [0,1,2,3,4,10]
 (Irg [Ll 11 (.mv (.c (.bool true)))] [0,1,2,3,4,10,11]
 (.block 0 (.loop (ir_slices_pdqsortCmpFunc_impl_row_L0))))
def Z33:Fn:=
 { nparams:=5,nblk:=0,results:=[],body:=ir_slices_pdqsortCmpFunc_impl_row_B }
def ir_slices_SortFunc_impl_row_impl_row_B:Cd:=
 Irg [Lw 5 0,
 Ien 6 5,
 Lw 4 6] [0,1,4]
 (.region [Lw 7 0,
 Lw 8 4,
 Lw 9 4,
 Icv 10 .u64 9,
 Ll 11 (Ofx F25 [(.t 10)]),
 Lw 12 1,
 Ll 13 (.call .heap [] (.f F33) [(.t 7),(Acx 0),(.t 8),(.t 11),(.t 12)])] [])
def Z2g:Fn:=
 { nparams:=2,nblk:=0,results:=[],body:=ir_slices_SortFunc_impl_row_impl_row_B }
def Z29_L0:Cd:=
 Irg [Ibn 12 .lss 11 10] [0,3,9,10,11,12]
 (.seq (Icd 12
 (.skip)
 (.exit 0))
 (.seq (.block 1 (Irg [Iia 13 .leaf 9 11,
 Ilx 14 13,
 Lw 5 14] [0,3,5,9,10,11]
 (Irg [Lw 15 3,
 Lw 16 5,
 Ien 17 16,
 Ibn 18 .add 15 17,
 Lw 3 18] [0,3,9,10,11]
 (Irg [Lw 19 3,
 Ibc 20 .lss 19 0] [0,3,9,10,11,20]
 (Icd 20
 (.region [Ll 21 (.fail),
 Ls (.fail)] [0,3,9,10,11])
 (.skip))))))
 (.region [Ibc 22 .add 11 1,
 Lw 11 22] [0,3,9,10,11])))
def Z29_L1:Cd:=
 Irg [Ibn 28 .lss 27 26] [6,25,26,27,28]
 (.seq (Icd 28
 (.skip)
 (.exit 2))
 (.seq (.block 3 (Irg [Iia 29 .leaf 25 27,
 Ilx 30 29,
 Lw 8 30] [6,8,25,26,27]
 (.region [Lw 31 6,
 Lw 32 8,
 Ll 33 (.append Sx6 1 64 (.t 31) (.t 32)),
 Lw 6 33] [6,25,26,27])))
 (.region [Ibc 34 .add 27 1,
 Lw 27 34] [6,25,26,27])))
def Z29_B:Cd:=
 Irg [Ll 2 (.mv (.c (.sl Sx6 [])))] [0]
 (Irg [Imc 3 0] [0,3]
 (.seq (Irg [Lw 9 0,
 Ien 10 9,
 Imc 11 0] [0,3,9,10,11]
 (.block 0 (.loop (Z29_L0))))
 (Irg [Lw 23 3,
 Ll 24 (.call .heap [0] (.f F2c) [(.c (.nils Sx6)),(.t 23)]),
 Lw 6 24] [0,6]
 (.seq (Irg [Lw 25 0,
 Ien 26 25,
 Imc 27 0] [6,25,26,27]
 (.block 2 (.loop (Z29_L1))))
 (Irg [Lw 35 6,
 Lw 2 35] [2]
 (.ret))))))
def Z29:Fn:=
 { nparams:=1,nblk:=2,results:=[.tmp 2],body:=Z29_B }
end Pe
namespace Pe
open Go Gq
variable {T:Nat→Option Fn} {A:ap}
def A9 (ds:List D):Prop:=∀x∈ds,x.isTup=false
theorem p6 (h:Heap):∀{ds:List D},A9 ds→qq h (ds.map .d)=some ds
 | [],_=>rfl
 | d::ds,hn=>by
  have h1:d.isTup=false:=hn d (by simp)
  have h2:=p6 h (ds:=ds) fun x hx=>hn x (by simp [hx])
  simp [h1,h2]
theorem wl (h:Heap):∀{a b:List V} {x y:List D},qq h a=some x→qq h b=some y→qq h (a++b)=some (x++y)
 | [],b,x,y,h1,h2=>by simp at h1; subst h1; simpa using h2
 | v::a,b,x,y,h1,h2=>by
  simp only [a33] at h1;obtain ⟨d,hd,h1⟩:=a8.1 h1;simp only [aef] at h1
  split at h1
  ·cases h1
  ·rename_i hn
   obtain ⟨z,hz,rfl⟩:=ac.1 h1;have:=wl h hz h2;simp [hd,hn,this]
theorem Jk {O:ap} {np:Nat} {h:Heap} {news:List Nat} {g:Nat} {first caps:List D} {x r:D} (h1:A9 first) (h2:A9 caps) (hx:x.isTup=false) (ha:ask O g (first++[x]++caps)=some r) (hr:r.flat=true) :
 Et O np h .flat news (g,first.map .d,caps.map .d) [.d x]=some (.d r,h):=by
 have e:qq h (first.map .d++[.d x]++caps.map .d)=some (first++[x]++caps):=
  wl h (wl h (p6 h h1) (p6 h (ds:=[x]) (by intro y hy; simp at hy; subst hy; exact hx))) (p6 h h2)
 rw [Dp,e,ae,Nx,ha,ae,Hr,hr,if_pos rfl]
def xy (P:D→Bool):List D→Nat→Int
 | [],_=>-1
 | d::ds,i=>if P d then i else xy P ds (i+1)
theorem S7 (P:D→Bool):∀(ds:List D) (i:Nat),(0≤xy P ds i)↔ds.any P=true
 | [],i=>by simp [xy]
 | d::ds,i=>by
  rw [xy];cases h:P d
  ·simp [h,S7 P ds (i+1)]
  ·simp [h]
def wn (O:ap) (g:Nat) (first caps cs:List D) (P:D→Bool):Prop:=A9 first∧A9 caps∧A9 cs∧∀x∈cs,ask O g (first++[x]++caps)=some (D.bool (P x))
def Im (s:Sh) (cs:List D):Prop:=∀x∈cs,x.sh=s
theorem Uy {O:ap} {g:Nat} {first caps cs:List D} {P:D→Bool} (hF:wn O g first caps cs P) (hs:Im .leaf cs) (hl:cs.length<2000000):∀(m i:Nat),i+m=cs.length →
 dn O 0 (.loop Z2d_L0) ⟨[(0,.d (.sl .leaf cs)),(1,.d (.fn g first caps)),(7,(.d (.int .i64 cs.length))),(8,(.d (.int .i64 i)))],[]⟩ =
  if (cs.drop i).any P then some (.ret,⟨[(4,(.d (.int .i64 (xy P (cs.drop i) i))))],[]⟩) else some (.exit 0,⟨[(0,.d (.sl .leaf cs)),(1,.d (.fn g first caps)),(7,(.d (.int .i64 cs.length))),(8,(.d (.int .i64 cs.length))),(9,(.d (.bool false)))],[]⟩)
 | 0,i,hi=>by
  have:i=cs.length:=by omega
  subst this;rw [fw];exact cg (by simp -implicitDefEqProofs [Z2d_L0,au])
 | m+1,i,hi=>by
  have hlt:i<cs.length:=by omega
  have h1:(i:Int)<cs.length:=by omega
  have hx:cs[i]? = some cs[i]:=af hlt;have hm:cs[i]∈cs:=bb hlt;have hc:=Jk (O:=O) (np:=0) (h:=[]) (news:=[]) hF.1 hF.2.1 (hF.2.2.1 _ hm) (hF.2.2.2 _ hm) rfl;have hsh:=hs _ hm;have w4:IntKind.i64.wrap ((i:Int)+1)=((i+1:Nat):Int):=(w64 (x:=(i:Int)+1) (by omega)).trans (by omega)
  rw [cd hlt];cases hp:P cs[i]
  ·rw [hp] at hc
   refine bq (s1:=⟨[(0,.d (.sl .leaf cs)),(1,.d (.fn g first caps)),(7,(.d (.int .i64 cs.length))),(8,(.d (.int .i64 ((i+1:Nat)))))],[]⟩) ?_ ?_
   ·simp -implicitDefEqProofs [Z2d_L0,au,h1,hx,hsh,hc,w4]
   ·rw [Uy hF hs hl m (i+1) (by omega)]
    simp only [ur,hp,Bool.false_or,xy,ba,if_false]
  ·rw [hp] at hc
   have e:xy P (cs[i]::cs.drop (i+1)) i=i:=by simp [xy,hp]
   rw [e];simp only [ur,hp,Bool.true_or,if_true];exact mj (by simp -implicitDefEqProofs [Z2d_L0,au,h1,hx,hsh,hc])
theorem W2 {O:ap} {g:Nat} {first caps cs:List D} {P:D→Bool} (hF:wn O g first caps cs P) (hs:Im (.arr 64 .leaf) cs) (hl:cs.length<2000000):∀(m i:Nat),i+m=cs.length →
 dn O 0 (.loop Z2e_L0) ⟨[(0,.d (.sl (.arr 64 .leaf) cs)),(1,.d (.fn g first caps)),(7,(.d (.int .i64 cs.length))),(8,(.d (.int .i64 i)))],[]⟩ =
  if (cs.drop i).any P then some (.ret,⟨[(4,(.d (.int .i64 (xy P (cs.drop i) i))))],[]⟩) else some (.exit 0,⟨[(0,.d (.sl (.arr 64 .leaf) cs)),(1,.d (.fn g first caps)),(7,(.d (.int .i64 cs.length))),(8,(.d (.int .i64 cs.length))),(9,(.d (.bool false)))],[]⟩)
 | 0,i,hi=>by
  have:i=cs.length:=by omega
  subst this;rw [fw];exact cg (by simp -implicitDefEqProofs [Z2e_L0,au])
 | m+1,i,hi=>by
  have hlt:i<cs.length:=by omega
  have h1:(i:Int)<cs.length:=by omega
  have hx:cs[i]? = some cs[i]:=af hlt;have hm:cs[i]∈cs:=bb hlt;have hc:=Jk (O:=O) (np:=0) (h:=[]) (news:=[]) hF.1 hF.2.1 (hF.2.2.1 _ hm) (hF.2.2.2 _ hm) rfl;have hsh:=hs _ hm;have w4:IntKind.i64.wrap ((i:Int)+1)=((i+1:Nat):Int):=(w64 (x:=(i:Int)+1) (by omega)).trans (by omega)
  rw [cd hlt];cases hp:P cs[i]
  ·rw [hp] at hc
   refine bq (s1:=⟨[(0,.d (.sl (.arr 64 .leaf) cs)),(1,.d (.fn g first caps)),(7,(.d (.int .i64 cs.length))),(8,(.d (.int .i64 ((i+1:Nat)))))],[]⟩) ?_ ?_
   ·simp -implicitDefEqProofs [Z2e_L0,au,h1,hx,hsh,hc,w4]
   ·rw [W2 hF hs hl m (i+1) (by omega)]
    simp only [ur,hp,Bool.false_or,xy,ba,if_false]
  ·rw [hp] at hc
   have e:xy P (cs[i]::cs.drop (i+1)) i=i:=by simp [xy,hp]
   rw [e];simp only [ur,hp,Bool.true_or,if_true];exact mj (by simp -implicitDefEqProofs [Z2e_L0,au,h1,hx,hsh,hc])
def wa (O:ap) (F:Nat) (s:Sh):Prop:=∀(g:Nat) (first caps cs:List D) (P:D→Bool),wn O g first caps cs P→Im s cs→cs.length<2000000 →
 ask O F [.sl s cs,.fn g first caps]=some (D.int .i64 (xy P cs 0))
theorem a5w (hT:T F2d=some Z2d):wa (den T A) F2d .leaf:=by
 intro g first caps cs P hF hs hl;have h:=Uy hF hs hl cs.length 0 (br _);rw [dm] at h;have e0:((0:Nat):Int)=0:=rfl;rw [e0] at h;refine ch hT rfl ?_
 by_cases ha:cs.any P=true
 ·rw [if_pos ha] at h
  simp -implicitDefEqProofs [Z2d,Z2d_B,h]
 ·rw [if_neg ha] at h
  have hn:xy P cs 0=-1:=by
   have hi:∀(ds:List D) (i:Nat),ds.any P=false→xy P ds i=-1:=by
    intro ds
    induction ds with
    | nil=>intro i _; rfl
    | cons d ds ih=>intro i hd; simp at hd; rw [xy,hd.1]; simpa using ih (i+1) (by simpa using hd.2)
   exact hi cs 0 (by simpa using ha)
  simp -implicitDefEqProofs [Z2d,Z2d_B,h,hn]
theorem a9v (hT:T F2e=some Z2e):wa (den T A) F2e (.arr 64 .leaf):=by
 intro g first caps cs P hF hs hl;have h:=W2 hF hs hl cs.length 0 (br _);rw [dm] at h;have e0:((0:Nat):Int)=0:=rfl;rw [e0] at h;refine ch hT rfl ?_
 by_cases ha:cs.any P=true
 ·rw [if_pos ha] at h
  simp -implicitDefEqProofs [Z2e,Z2e_B,h]
 ·rw [if_neg ha] at h
  have hn:xy P cs 0=-1:=by
   have hi:∀(ds:List D) (i:Nat),ds.any P=false→xy P ds i=-1:=by
    intro ds
    induction ds with
    | nil=>intro i _; rfl
    | cons d ds ih=>intro i hd; simp at hd; rw [xy,hd.1]; simpa using ih (i+1) (by simpa using hd.2)
   exact hi cs 0 (by simpa using ha)
  simp -implicitDefEqProofs [Z2e,Z2e_B,h,hn]
def Bp (O:ap) (F:Nat) (s:Sh):Prop:=∀(g:Nat) (first caps cs:List D) (P:D→Bool),wn O g first caps cs P→Im s cs→cs.length<2000000 →
 ask O F [.sl s cs,.fn g first caps]=some (D.bool (cs.any P))
theorem Vd (hT:T F2a=some Z2a) (hi:wa (den T A) F2d .leaf):Bp (den T A) F2a .leaf:=by
 intro g first caps cs P hF hs hl;have h:=hi g first caps cs P hF hs hl;have e:decide (0≤xy P cs 0)=cs.any P:=by rw [Bool.eq_iff_iff]; simpa using S7 P cs 0
 refine ch hT rfl ?_;simp -implicitDefEqProofs [Z2a,Z2a_B,h,e]
theorem V1 (hT:T F2b=some Z2b) (hi:wa (den T A) F2e (.arr 64 .leaf)):Bp (den T A) F2b (.arr 64 .leaf):=by
 intro g first caps cs P hF hs hl;have h:=hi g first caps cs P hF hs hl;have e:decide (0≤xy P cs 0)=cs.any P:=by rw [Bool.eq_iff_iff]; simpa using S7 P cs 0
 refine ch hT rfl ?_;simp -implicitDefEqProofs [Z2b,Z2b_B,h,e]
def D.num:D→Int
 | .int _ n=>n
 | _=>0
def je (l:List Int):Prop:=∀x∈l,0≤x∧x<256
abbrev ce (l:List Int):D:=(D.arr 64 .leaf (aq .u8 l))
def Bm (O:ap) (F:Nat) (s:Sh):Prop:=∀(g:Nat) (first caps cs:List D) (P:D→Bool),wn O g first caps cs P→Im s cs→cs.length<2000000 →
 ask O F [.sl s cs,.fn g first caps]=some (D.bool (cs.all P))
theorem a21 (P:D→Bool) (cs:List D):(!cs.any fun x=>!P x)=cs.all P:=by
 induction cs with
 | nil=>rfl
 | cons c cs ih=>simp [←ih]
theorem afl {g:Nat} {first caps cs:List D} {P:D→Bool} (hT:T Ff=some Zf) (hF:wn (den T A) g first caps cs P):wn (den T A) Ff [] [.ip (.fn g first caps)] cs fun x=>!P x:=by
 refine ⟨fun x hx=>by simp at hx,fun x hx=>by simp at hx; subst hx; rfl,hF.2.2.1,fun x hx=>?_⟩
 have hc:=Jk (O:=den T A) (np:=0) (h:=[]) (news:=[]) hF.1 hF.2.1 (hF.2.2.1 _ hx) (hF.2.2.2 _ hx) rfl;refine ch hT rfl ?_;simp -implicitDefEqProofs [Zf,Zf_B,hc]
theorem a2g (hT:T Fe=some Ze) (hT1:T Ff=some Zf) (hc:Bp (den T A) F2a .leaf):Bm (den T A) Fe .leaf:=by
 intro g first caps cs P hF hs hl;have e:=hc _ _ _ _ _ (afl hT1 hF) hs hl;have e2:=a21 P cs;have t1:=p6 [.box false (.fn g first caps)] hF.1;have t2:=p6 [.box false (.fn g first caps)] hF.2.1;rw [←e2];generalize (cs.any fun x=>!P x)=r at *
 refine ch hT rfl ?_;simp -implicitDefEqProofs [Ze,Ze_B,e]
theorem agd {g:Nat} {first caps cs:List D} {P:D→Bool} (hT:T Fh=some Zh) (hs:Im (.arr 64 .leaf) cs) (hF:wn (den T A) g first caps cs P):wn (den T A) Fh [] [.ip (.fn g first caps)] cs fun x=>!P x:=by
 refine ⟨fun x hx=>by simp at hx,fun x hx=>by simp at hx; subst hx; rfl,hF.2.2.1,fun x hx=>?_⟩
 have hc:=Jk (O:=den T A) (np:=0) (h:=[.box false x]) (news:=[]) hF.1 hF.2.1 (hF.2.2.1 _ hx) (hF.2.2.2 _ hx) rfl;have h1:=hF.2.2.1 _ hx;have h2:=hs _ hx;refine ch hT rfl ?_;simp -implicitDefEqProofs [Zh,Zh_B,hc,h1,h2]
theorem a4i (hT:T Fg=some Zg) (hT1:T Fh=some Zh) (hc:Bp (den T A) F2b (.arr 64 .leaf)):Bm (den T A) Fg (.arr 64 .leaf):=by
 intro g first caps cs P hF hs hl;have e:=hc _ _ _ _ _ (agd hT1 hs hF) hs hl;have e2:=a21 P cs;rw [←e2];generalize (cs.any fun x=>!P x)=r at *
 refine ch hT rfl ?_;simp -implicitDefEqProofs [Zg,Zg_B,e]
def xh (p:Int) (l:List Int):Bool:=l.all fun x=>decide (x<p)
def El (O:ap):Prop:=∀(p:Int) (l:List Int),je l→l.length=64→ask O Fw [(D.int .i64 p),(D.arr 64 .leaf (aq .u8 l))]=some (D.bool (xh p l))
theorem a8a (p:Int) (l:List Int):((aq .u8 l).all fun x=>decide (x.num<p))=xh p l:=by
 unfold aq xh;rw [List.all_map];rfl
theorem a81 (hT:T Fw=some Zw) (hT1:T Fx=some Zx) (ha:Bm (den T A) Fe .leaf):El (den T A):=by
 intro p l hb hl
 have hF:wn (den T A) Fx [] [.ip (D.int .i64 p)] (aq .u8 l) fun x=>decide (x.num<p):=by
  refine ⟨fun x hx=>by simp at hx,fun x hx=>by simp at hx; subst hx; rfl,fun x hx=>?_,fun x hx=>?_⟩
  ·obtain ⟨n,_,rfl⟩:=ct.1 hx; rfl
  ·obtain ⟨n,hn,rfl⟩:=ct.1 hx
   have h1:=hb n hn;have w1:IntKind.i64.wrap n=n:=w64 (by omega)
   refine ch hT1 rfl ?_;simp -implicitDefEqProofs [Zx,Zx_B,w1,D.num];exact decide_eq_decide.2 tq
 have e:=ha _ _ _ _ _ hF (fun x hx=>by obtain ⟨n,_,rfl⟩:=ct.1 hx; rfl) (by simp [hl])
 rw [a8a] at e;have ht:l.take 64=l:=b7 (by omega)
 refine ch hT rfl ?_;simp -implicitDefEqProofs [Zw,Zw_B,e,hl,ht]
def a58 (p:Int) (ls:List (List Int)):Int:=if isP p∧ls.all (xh p) then 0 else 1
def v6 (ls:List (List Int)):Prop:=∀l∈ls,l.length=64∧je l
def D.nums:D→List Int
 | .arr _ _ cs=>cs.map D.num
 | _=>[]
theorem Qj (l:List Int):(ce l).nums=l:=by
 simp only [D.nums,aq,k8];have:(D.num ∘ D.int .u8)=id:=rfl;rw [this,List.map_id]
end Pe
namespace Pe
open Go
theorem Ph:∀(xs:List D),(∀x∈xs,(Ty.int .u8).has x)→∃l:List Int,xs=aq .u8 l∧je l
 | [],_=>⟨[],rfl,fun _ h=>by cases h⟩
 | x::xs,h=>by
  obtain ⟨l,rfl,hb⟩:=Ph xs fun y hy=>h y (List.mem_cons_of_mem _ hy)
  have h1:=h x (by simp)
  cases x <;> simp only [Ty.has] at h1
  obtain ⟨rfl,h1⟩:=h1;refine ⟨_::l,rfl,fun y hy=>?_⟩
  rcases dt.1 hy with rfl | hy
  ·have:=bounds_u8 h1; omega
  ·exact hb y hy
theorem Xd {xs:List D} (h:Ty.hasAll [] xs):xs=[]:=by
 cases xs <;> simp only [Ty.hasAll] at h; rfl
theorem Vz {T:Ty} {Ts:List Ty} {xs:List D} (h:Ty.hasAll (T::Ts) xs):∃x r,xs=x::r∧T.has x∧Ty.hasAll Ts r:=by
 cases xs <;> simp only [Ty.hasAll] at h; exact ⟨_,_,rfl,h⟩
def dw (P:Program) (num:Nat→Nat) (g:Nat) (fn:Fn):Bool:=match P.funcs[g]? with
 | some x=>B4 P num fn x
 | none=>false
def adn (P:Program) (num:Nat→Nat):List (Nat×Fn)→Prop
 | []=>True
 | e::r=>dw P num (num e.1) e.2=true∧adn P num r
theorem Q4 {P:Program} {num:Nat→Nat}:∀{l:List (Nat×Fn)},adn P num l→∀f fn,l.lookup f=some fn→∃g,P.funcs[num f]? = some g∧B4 P num fn g=true
 | [],_,f,fn,h=>by cases h
 | (a,b)::r,⟨h1,h2⟩,f,fn,h=>by
  rw [List.lookup_cons] at h
  split at h
  ·rename_i e
   obtain rfl:=b6 h;have:f=a:=by simpa using e
   subst this;unfold dw at h1
   split at h1
   ·rename_i g hg; exact ⟨g,hg,h1⟩
   ·cases h1
  ·exact Q4 h2 f fn h
end Pe
namespace Pe
open Go
variable {P:Program} {num:Nat→Nat}
theorem Xp {C:Cx} {φ:Loc} {s:St} {a:Act} {ops:Array Oper} {N np:Nat} {o:Oper} {j d:Nat} {v:V} {K:Act→World→Prop} {Q:Exit→Act→World→Prop}
 (hs:SR C φ s a.tmps) (hN:N≤a.tmps.size) (hd:o.dst=some d) (hdN:d<N) (hg:o.guard=none) (hj:ops[j]? = some o) (hop:OpWp P o a C φ s.h v s.h (fun _=>False))
 (hK:∀C' φ' u,Runs np C C' φ φ' s.h s.h→SR C' φ' ⟨(d,v)::s.e,s.h⟩ (a.put o.dst u).tmps→K (a.put o.dst u) C'.w):wpOp P ops Q j K a C.w:=by
 have hw:Region.wanted o (yielded ops a.tmps)=true:=by unfold Region.wanted; rw [hg]
 unfold wpOp;simp only [hj];rw [hw,if_pos rfl];left;refine hop K Q fun C' φ' u st hx k=>hK C' φ' u ⟨st,k.mono fun _ h=>h.elim⟩ ⟨st.hr,st.bd,fun n w hn=>?_⟩
 simp only [Env.get] at hn;rw [hd,J9 (lr hdN hN)]
 by_cases hdn:d=n
 ·subst hdn
  simp only [if_true,a9] at hn;subst hn;refine ⟨u,if_pos rfl,?_⟩;rcases hx with hx | hx
  ·rw [hd] at hx; cases hx
  ·exact hx
 ·rw [if_neg hdn] at hn
  rw [if_neg (gv hdn)];obtain ⟨u0,h1,h2⟩:=hs.env n w hn;exact ⟨u0,h1,k w u0 (fun _ _ h=>h.elim) h2⟩
theorem a61 {C:Cx} {φ:Loc} {s:St} {a:Act} {o:Oper} (hs:SR C φ s a.tmps) {x:Arg} {x' y':Operand} {t yt e:TypeId} (ho:o.op=.binOp .eql t x' y' yt) (hx:de C.num x x'=true) (ht:P.underlying t=some (.slice e)) (hy:a.eval y'=.slice none 0 0)
 {sh:Sh} {cs:List D} (hv:s.e.arg x=some (.d (.sl sh cs))):∃b,OpGood P o a C φ s.h (.d (.bool b)) s.h (fun _=>False):=by
 obtain ⟨ad,c,e1,_,_⟩:=P7 (cl hs hx hv);refine ⟨decide (ad=none),da hs (u:=.bool (decide (ad=none))) ?_ (ke ..)⟩
 have hq:(Go.Op.equal t (.slice ad cs.length c) (.slice none 0 0)).run P C.w=.ok (decide (ad=none)) C.w:=by
  show (Go.Op.equalIn (9999+1) t (.slice ad cs.length c) (.slice none 0 0)).run P C.w=.ok (decide (ad=none)) C.w;generalize 9999=d;cases ad <;> simp [Go.Op.equalIn,Sem.run_bind,run_underlying ht,Result.andThen_ok,Sem.run_pure]
 have hb:binOp .eql t (.slice ad cs.length c) (.slice none 0 0)=(do pure (.bool (←Go.Op.equal t (.slice ad cs.length c) (.slice none 0 0)))):=rfl;simp [execOp,ho,e1,hy,eqGuard,hb,hq]
theorem a3h {x:Arg} {o:Oper} (h:a2k P num (.nilq false x) o=true):∃t x' y' yt e,o.op=.binOp .eql t x' y' yt∧de num x x'=true∧qe y'=true∧P.underlying t=some (.slice e):=by
 cases hq:o.op with
 | binOp op t x' y' yt=>
  simp only [a2k,hq,az,decide_eq_true_eq] at h;obtain ⟨⟨⟨h3,h4⟩,h5⟩,h6⟩:=h
  split at h6
  ·rename_i e he
   exact ⟨t,x',y',yt,e,by rw [h3]; rfl,h4,h5,he⟩
  ·cases h6
 | _=>simp only [a2k,hq,ba] at h
def Sl (s:Sh) (z:D) (bytes:Nat):Cd:=
 .seq (.region [⟨some 2,.nilOwn 0 s,none,[]⟩] [0])
 (.seq (.seq (.region [⟨some 3,.mv (.t 0),none,[]⟩,
  ⟨some 4,.nilq false (.t 3),none,[]⟩] [0,4])
  (.cond (.t 4)
   (.seq (.region [⟨some 2,.nilOwn 2 s,none,[]⟩] [2])
    (.ret))
   (.skip)))
  (.seq (.region [⟨some 5,.buildSl false 2 s z 0 [],none,[]⟩,
   ⟨some 6,.mv (.t 0),none,[]⟩,
   ⟨some 7,.append s 3 bytes (.t 5) (.t 6),none,[]⟩,
   ⟨some 2,.mv (.t 7),none,[]⟩] [2])
   (.ret)))
def xq (s:Sh) (z:D) (bytes:Nat):Fn:={ nparams:=1,nblk:=4,results:=[.tmp 2],body:=Sl s z bytes }
def ub:Code→Bool
 | .seq _ (.seq (.seq (.region _ _ false) _) _)=>true
 | _=>false
theorem q9 {N:Nat} {a b:Cd} {x:Code} (h:jb P num N (.seq a b) x=true):∃y z,x=.seq y z∧jb P num N a y=true∧jb P num N b z=true:=by
 cases x <;> simp only [jb,ba,az] at h
 exact ⟨_,_,rfl,h⟩
def yi (s:Sh):St:=⟨[(2,.sl 2 [] 0 0 none)],[.hole,.hole,.sl false s [],.hole]⟩
theorem Jd:ko P num (fun _ _ _=>none):=fun f vs bs ans h=>by cases h
theorem Vh {s:Sh} {z:D} {bytes N:Nat} (hm:P.follows .mixedOrders=true) {x:Code} (hok:jb P num N (Sl s z bytes) x=true) (hshape:ub x=true) (hbeq:Sh.beq s s=true)
 (C:Cx) (φ:Loc) (a:Act) (hC:C.num=num) (hs:SR C φ ⟨params 0 [.d (.sl s [])],[]++List.replicate 4 .hole⟩ a.tmps) (hN:N≤a.tmps.size)
 (Q:Exit→Act→World→Prop) (hQ:a45 num 0 Q .ret C φ ([]++List.replicate 4 .hole) (yi s) a):x.wp P Q a C.w:=by
 obtain ⟨x1,x2,rfl,ok1,ok2⟩:=q9 hok;obtain ⟨x3,x4,rfl,ok3,ok4⟩:=q9 ok2;obtain ⟨x5,x6,rfl,ok5,ok6⟩:=q9 ok3;have nc:ko P num (fun _ _ _=>none):=Jd
 -- ahead
 refine wp_seq (lm (O:=fun _ _ _=>none) (np:=0) (N:=N) nc hm 1 _ _ ok1 C φ _ ⟨[(0,.d (.sl s []))],[.hole,.hole,.hole,.hole]⟩ a .normal hC hs hN rfl _ ?_)
 intro C1 φ1 a1 k1 r1 hs1 z1 d1;refine wp_seq (wp_seq ?_)
 -- the question
 cases x5 <;> simp only [jb,ba,az] at ok5
 rename_i id ops draw
 cases draw with
 | true=>simp [ub] at hshape
 | false=>
 have hops:=ok5.1;obtain ⟨hl,hget⟩:=om hops;have hl2:ops.size=2:=by simpa using hl.symm
 have g0:ops.toList[0]? = some ops[0]:=by simp [hl2]
 have g1:ops.toList[1]? = some ops[1]:=by simp [hl2]
 have i0:=hget 0 _ _ rfl g0;have i1:=hget 1 _ _ rfl g1;have N1:N≤a1.tmps.size:=by rw [z1]; exact hN
 refine wp_region ?_;rw [hl2];show wpOps P ops _ [0,1] a1 C1.w;rw [wpOps_cons];refine Cc (O:=fun _ _ _=>none) (np:=0) (k1▸nc) hs1 N1 (k1▸i0) (by simp) (s':=⟨[(3,.d (.sl s [])),(0,.d (.sl s []))],[.hole,.hole,.hole,.hole]⟩) rfl fun C2 φ2 u2 rn2 hs2=>?_
 have k2:C2.num=num:=rn2.st.le.num.trans k1;rw [wpOps_cons];unfold Mi at i1;simp only [az,decide_eq_true_eq] at i1;obtain ⟨⟨⟨hdst,hdN⟩,hop⟩,hguard⟩:=i1;have hdst':ops[1].dst=some 4:=hdst.symm;have hdN':4<N:=by simpa [hdst'] using hdN
 have hg:ops[1].guard=none:=by
  cases hq:ops[1].guard with
  | none=>rfl
  | some q=>rw [hq] at hguard; simp at hguard
 have N2:N≤(a1.put ops[0].dst u2).tmps.size:=by rw [s9]; exact N1
 have key:∃b,OpGood P ops[1] (a1.put ops[0].dst u2) C2 φ2 [.hole,.hole,.hole,.hole] (.d (.bool b)) [.hole,.hole,.hole,.hole] (fun _=>False):=by
  obtain ⟨t,x',y',yt,e,h1,h2,h3,h4⟩:=a3h hop;refine a61 hs2 h1 (k2▸h2) h4 ?_ (x:=.t 3) (sh:=s) (cs:=[]) rfl;unfold qe at h3
  split at h3
  ·rfl
  ·cases h3
 obtain ⟨b,key⟩:=key;refine Xp (np:=0) hs2 N2 hdst' hdN' hg (by simp) key.wp fun C3 φ3 u3 rn3 hs3=>?_
 have k3:C3.num=num:=rn3.st.le.num.trans k2;show (Exit.then _ _) .normal _ _;obtain ⟨rn4,hs4⟩:=Dj 0 hs3 [0,4];have N4:N≤((a1.put ops[0].dst u2).put ops[1].dst u3).tmps.size:=by rw [s9]; exact N2
 have d4:((a1.put ops[0].dst u2).put ops[1].dst u3).defers=a.defers:=by
  rw [←d1];cases ops[0].dst <;> cases ops[1].dst <;> rfl
 have z4:((a1.put ops[0].dst u2).put ops[1].dst u3).tmps.size=a.tmps.size:=by rw [s9,s9,z1]
 have back:Runs 0 C C3 φ φ3 ([]++List.replicate 4 .hole) [.hole,.hole,.hole,.hole]:=(r1.trans (rn2.trans rn3)).trans rn4;generalize ((a1.put ops[0].dst u2).put ops[1].dst u3)=a3 at *;have hs5:SR C3 φ3 ⟨[(0,.d (.sl s [])),(4,.d (.bool b))],[.hole,.hole,.hole,.hole]⟩ a3.tmps:=hs4;cases b with
 | true=>
  have ev:fk (fun _ _ _=>none) 0 1 (.cond (.t 4) (.seq (.region [⟨some 2,.nilOwn 2 s,none,[]⟩] [2]) (.ret)) (.skip)) ⟨[(0,.d (.sl s [])),(4,.d (.bool true))],[.hole,.hole,.hole,.hole]⟩=some (.ret,⟨[(2,.sl 2 [] 0 0 (some 0))],[.hole,.hole,.sl false s [],.hole]⟩):=rfl
  refine lm (O:=fun _ _ _=>none) (np:=0) (N:=N) nc hm 1 _ _ ok6 C3 φ3 _ _ a3 .ret k3 hs5 N4 ev _ ?_
  intro C6 φ6 a6 k6 r6 hs6 z6 d6;refine hQ C6 φ6 a6 k6 (back.trans r6) ⟨hs6.hr,hs6.bd,fun n v hn=>?_⟩ (z6.trans z4) (d6.trans d4)
  simp only [yi,Env.get] at hn
  split at hn
  ·rename_i h2
   subst h2;obtain rfl:=b6 hn;obtain ⟨u,h5,h6⟩:=hs6.env 2 (.sl 2 [] 0 0 (some 0)) rfl;refine ⟨u,h5,?_⟩;simp only [RX] at h6 ⊢;obtain ⟨B,base,sh,m,ad,c,e1,e2,e3,e4,e5,e6,e7⟩:=h6;exact ⟨B,base,sh,m,ad,c,e1,e2,e3,e4,e5,(fun k hk=>by cases hk),e7⟩
  ·cases hn
 | false=>
  have ev:fk (fun _ _ _=>none) 0 1 (.cond (.t 4) (.seq (.region [⟨some 2,.nilOwn 2 s,none,[]⟩] [2]) (.ret)) (.skip)) ⟨[(0,.d (.sl s [])),(4,.d (.bool false))],[.hole,.hole,.hole,.hole]⟩=some (.normal,⟨[(0,.d (.sl s [])),(4,.d (.bool false))],[.hole,.hole,.hole,.hole]⟩):=rfl
  refine lm (O:=fun _ _ _=>none) (np:=0) (N:=N) nc hm 1 _ _ ok6 C3 φ3 _ _ a3 .normal k3 hs5 N4 ev _ ?_
  intro C6 φ6 a6 k6 r6 hs6 z6 d6
  have ev2:fk (fun _ _ _=>none) 0 1 (.seq (.region [⟨some 5,.buildSl false 2 s z 0 [],none,[]⟩,⟨some 6,.mv (.t 0),none,[]⟩,⟨some 7,.append s 3 bytes (.t 5) (.t 6),none,[]⟩,⟨some 2,.mv (.t 7),none,[]⟩] [2]) (.ret)) ⟨[(0,.d (.sl s [])),(4,.d (.bool false))],[.hole,.hole,.hole,.hole]⟩=some (.ret,yi s):=by
   simp [fk,i6,ni,kj,Ins.side,Ins.on,bc,kf,t9,freezeIf,fy,ig,Env.arg,Env.get,Env.putO,Env.kill,Op.kill,toE,hbeq,Env.keep,ta,Env.refd,V.refs,yi,Env.clear]
  refine lm (O:=fun _ _ _=>none) (np:=0) (N:=N) nc hm 1 _ _ ok4 C6 φ6 _ _ a6 .ret k6 hs6 (by rw [z6]; exact N4) ev2 _ ?_
  intro C7 φ7 a7 k7 r7 hs7 z7 d7;exact hQ C7 φ7 a7 k7 ((back.trans r6).trans r7) hs7 (z7.trans (z6.trans z4)) (d7.trans (d6.trans d4))
theorem U2 {s:Sh} {z:D} {bytes:Nat} (hm:P.follows .mixedOrders=true) {f:Nat} {g:Func} (hg:P.funcs[num f]? = some g) (hok:B4 P num (xq s z bytes) g=true) (hshape:(match g.body with | some x=>ub x | none=>false)=true) (hbeq:Sh.beq s s=true)
 {cs:List D} (hl:cs.length*bytes≤1099511627776) {C:Cx} {φ:Loc} {us:List Value} (hC:C.num=num) (hr:HR C φ []) (hb:∀b,C.I b→b<C.w.heap.size) (hv:RXs C φ [] [.d (.sl s cs)] us) :
 Tv P (num f) us C φ [] [.sl false s cs] (.sl 0 [] 0 cs.length none):=by
 cases cs with
 | cons c cs=>
  have hl':(cs.length+1)*bytes≤1099511627776:=hl
  have hrun:run (fun _ _ _=>none) 1 (xq s z bytes) [.d (.sl s (c::cs))] []=some (.sl 0 [] 0 (c::cs).length none,[],[.sl false s (c::cs)]):=by
   simp [hl',run,xq,Sl,fk,i6,ni,kj,Ins.side,Ins.on,bc,kf,t9,freezeIf,fy,ig,Env.arg,Env.get,Env.putO,Env.kill,Op.kill,toE,hbeq,Env.keep,ta,Env.refd,V.refs,Env.clear,params,yp,Ul,n6,uz,Heap.pick,V.ren,List.idxOf,List.findIdx,List.findIdx.go]
  exact (Q0 Jd hm hg hok hrun hC hr hb hv).2
 | nil=>
  unfold B4 at hok;simp only [az,bne_iff_ne,ne_eq,decide_eq_true_eq] at hok;obtain ⟨⟨⟨hname,hnp⟩,hres⟩,hbody⟩:=hok;cases hcode:g.body with
  | none=>rw [hcode] at hbody; cases hbody
  | some code=>
   rw [hcode] at hbody hshape;simp only at hbody hshape;refine (Yx (xq s z bytes) hg hname hnp hres hcode (vs:=[.d (.sl s [])]) (bs:=[]) (ans:=(.sl 0 [] 0 0 none,[],[.sl false s []])) .ret (yi s) rfl ?_ (fun C φ a hC hs hN Q hQ=>Vh hm hbody hshape hbeq C φ a hC hs hN Q hQ) hC hr hb hv).2
   simp [xq,yi,yp,Ul,Env.get,n6,uz,V.refs,Heap.pick,V.ren,List.idxOf,List.findIdx,List.findIdx.go]
def H7 (ids:Nat→Option (Sh×D×Nat)):ap:=fun f vs bs=>
 match ids f with
 | some (s,_,bytes)=>match vs with
  | [.d (.sl t cs)]=>match bs with
   | []=>if Sh.beq t s=true∧cs.length*bytes≤1099511627776 then some (.sl 0 [] 0 cs.length none,[],[.sl false t cs]) else none
   | _=>none
  | _=>none
 | none=>none
theorem a3z {ids:Nat→Option (Sh×D×Nat)} {f:Nat} {s:Sh} {z:D} {bytes:Nat} {cs:List D} (h1:ids f=some (s,z,bytes)) (h0:Sh.beq s s=true) (h2:cs.length*bytes≤1099511627776) :
 H7 ids f [.d (.sl s cs)] []=some (.sl 0 [] 0 cs.length none,[],[.sl false s cs]):=by
 simp [H7,h1,h0,h2]
theorem Rs {ids:Nat→Option (Sh×D×Nat)} (hm:P.follows .mixedOrders=true)
 (hids:∀f s z bytes,ids f=some (s,z,bytes)→Sh.beq s s=true∧∃g,P.funcs[num f]? = some g∧B4 P num (xq s z bytes) g=true∧(match g.body with | some x=>ub x | none=>false)=true):ko P num (H7 ids):=by
 intro f vs bs ans h C φ us hC hr hb hv;unfold H7 at h
 split at h
 ·rename_i s z bytes hi
  split at h
  ·rename_i t cs
   split at h
   ·split at h
    ·rename_i hc
     obtain rfl:=b6 h;obtain ⟨hbeq,g,hg,hok,hshape⟩:=hids f s z bytes hi;obtain rfl:=Sh.beq_eq _ _ hc.1;exact ⟨rfl,U2 hm hg hok hshape hbeq hc.2 hC hr hb hv⟩
    ·cases h
   ·cases h
  ·cases h
 ·cases h
end Pe
