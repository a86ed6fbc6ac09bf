/-
  A part of the proof: an evaluator for a small form of the code, its soundness, and contracts of functions over it.
-/
import Derived.IntWalk
import Derived.Carry
import Derived.OpenShut
import GoSem.Core.View
import Derived.Test.YtjanjcnncilddaaGreatW1
import Derived.Test.YtjanjcnncilddaaGreatW2

namespace Pe
open Go
def endR (np:Nat) (ks:List Nat) (s:St):Out×St:=(.normal,⟨s.e.keep ks,clean (s.e.keep ks) np 0 s.h⟩)
@[simp] theorem endR_mk (np:Nat) (ks:List Nat) (e:Env) (h:Heap):endR np ks ⟨e,h⟩=(.normal,⟨e.keep ks,clean (e.keep ks) np 0 h⟩):=rfl
@[simp] theorem dn_reg {O:Oracle} {np:Nat} {s:St} (is:List Ins) (ks:List Nat):dn O np (.region is ks) s=(evalList O np is s).map (endR np ks):=dn_region is ks
def putR (e:Env) (i:Ins) (r:V×Heap):St:=⟨(e.kill (i.op.kill e r.1)).putO i.dst r.1,r.2⟩
@[simp] theorem putR_mk (e:Env) (i:Ins) (v:V) (h:Heap):putR e i (v,h)=⟨(e.kill (i.op.kill e v)).putO i.dst v,h⟩:=rfl
def execW (O:Oracle) (np:Nat) (s:St) (i:Ins):Option Bool→Option St
 | some true=>(evalOp O np s.e s.h i.op).map (putR s.e i)
 | some false=>some ⟨s.e.putO i.dst (.tup []),s.h⟩
 | none=>none
@[simp] theorem execIns_eq (O:Oracle) (np:Nat) (s:St) (i:Ins):execIns O np s i=execW O np s i (i.on s.e):=rfl
section
variable {O:Oracle} {np:Nat} {e:Env} {h:Heap}
def kNt (x:D):Option D:=if x.isTup then none else some x
def kEl (p:List Nat) (b:Blk):Option (Sh×List D):=b.elems p
def kGet (p:List Nat) (b:Blk):Option D:=b.get p
def slD (off len:Nat):Option (Sh×List D)→Option D
 | some (s,cs)=>if off+len≤cs.length then some (.sl s ((cs.drop off).take len)) else none
 | none=>none
@[simp] theorem kNt_eq (x:D):kNt x=if x.isTup then none else some x:=rfl
@[simp] theorem kEl_eq (p:List Nat) (b:Blk):kEl p b=b.elems p:=rfl
@[simp] theorem kGet_eq (p:List Nat) (b:Blk):kGet p b=b.get p:=rfl
@[simp] theorem slD_some (off len:Nat) (s:Sh) (cs:List D):slD off len (some (s,cs))=if off+len≤cs.length then some (.sl s ((cs.drop off).take len)) else none:=rfl
@[simp] theorem toD1_eq (v:V):toD1 h v=(toD h v).bind kNt:=rfl
@[simp] theorem toD_d (x:D):toD h (.d x)=some x:=by simp [toD]
@[simp] theorem toD_sl (i:Nat) (p:List Nat) (off len:Nat) (cap:Option Nat):toD h (.sl i p off len cap)=slD off len ((h[i]?).bind (kEl p)):=by
 have:(kEl p)=(Blk.elems · p):=rfl
 rw [this]
 simp only [toD]
 cases (h[i]?).bind (Blk.elems · p) <;> rfl
@[simp] theorem toD_ptr (i:Nat) (p:List Nat):toD h (.ptr i p)=((h[i]?).bind (kGet p)).map .ip:=by simp only [toD]; rfl
def kFn (h:Heap) (f:Nat) (caps:List V) (a:List D):Option D:=(toDs h caps).map (.fn f a)
@[simp] theorem kFn_eq (f:Nat) (caps:List V) (a:List D):kFn h f caps a=(toDs h caps).map (.fn f a):=rfl
@[simp] theorem toD_fn (f:Nat) (first caps:List V):toD h (.fn f first caps)=(toDs h first).bind (kFn h f caps):=by simp only [toD]; rfl
@[simp] theorem toD_tup (vs:List V):toD h (.tup vs)=(toDs h vs).map .tup:=by simp only [toD]
def kDs (h:Heap) (vs:List V) (x:D):Option (List D):=if x.isTup then none else (toDs h vs).map (List.cons x)
@[simp] theorem kDs_eq (vs:List V) (x:D):kDs h vs x=if x.isTup then none else (toDs h vs).map (List.cons x):=rfl
@[simp] theorem toDs_nil:toDs h []=some []:=by simp [toDs]
@[simp] theorem toDs_cons (v:V) (vs:List V):toDs h (v::vs)=(toD h v).bind (kDs h vs):=by simp only [toDs]; rfl
def kArgs (e:Env) (as:List Arg) (v:V):Option (List V):=(e.args as).map (List.cons v)
@[simp] theorem kArgs_eq (as:List Arg) (v:V):kArgs e as v=(e.args as).map (List.cons v):=rfl
@[simp] theorem args_nil:e.args []=some []:=rfl
@[simp] theorem args_cons (a:Arg) (as:List Arg):e.args (a::as)=(e.arg a).bind (kArgs e as):=rfl
def kMv (h:Heap) (v:V):V×Heap:=(v,h)
@[simp] theorem kMv_eq (v:V):kMv h v=(v,h):=rfl
@[simp] theorem ev_mv (x:Arg):evalOp O np e h (.mv x)=(e.arg x).map (kMv h):=rfl
def kChk (h:Heap):V→Option (V×Heap)
 | .d (.ip y)=>some (.d (.ip y),h)
 | .ptr i p=>some (.ptr i p,h)
 | _=>none
@[simp] theorem kChk_d (y:D):kChk h (.d (.ip y))=some (.d (.ip y),h):=rfl
@[simp] theorem kChk_p (i:Nat) (p:List Nat):kChk h (.ptr i p)=some (.ptr i p,h):=rfl
@[simp] theorem ev_chk (x:Arg):evalOp O np e h (.chk x)=(e.arg x).bind (kChk h):=by
 simp only [evalOp]
 cases e.arg x with
 | none=>rfl
 | some v=>cases v <;> try rfl
           rename_i d; cases d <;> rfl
def kPick (e:Env) (h:Heap) (a b:Arg):V→Option (V×Heap)
 | .d (.bool t)=>(e.arg (if t then a else b)).map (kMv h)
 | _=>none
@[simp] theorem kPick_b (a b:Arg) (t:Bool):kPick e h a b (.d (.bool t))=(e.arg (if t then a else b)).map (kMv h):=rfl
@[simp] theorem ev_pick (c a b:Arg):evalOp O np e h (.pick c a b)=(e.arg c).bind (kPick e h a b):=by
 simp only [evalOp]
 cases e.arg c with
 | none=>rfl
 | some v=>cases v <;> try rfl
           rename_i d; cases d <;> rfl
def kBox2 (i:Nat) (d:D) (h:Heap):Option (V×Heap):=(putBlk h i (.box false d)).map (Prod.mk (.ptr i []))
@[simp] theorem kBox2_eq (i:Nat) (d:D):kBox2 i d h=(putBlk h i (.box false d)).map (Prod.mk (.ptr i [])):=rfl
def kBox1 (np:Nat) (h:Heap) (fz:Bool) (i:Nat) (rs:List Nat) (d:D):Option (V×Heap):=(freezeIf fz h rs).bind (kBox2 (np+i) d)
@[simp] theorem kBox1_eq (fz:Bool) (i:Nat) (rs:List Nat) (d:D):kBox1 np h fz i rs d=(freezeIf fz h rs).bind (kBox2 (np+i) d):=rfl
def kBox (np:Nat) (h:Heap) (fz:Bool) (i:Nat) (v:V):Option (V×Heap):=(toD1 h v).bind (kBox1 np h fz i v.refs)
@[simp] theorem kBox_eq (fz:Bool) (i:Nat) (v:V):kBox np h fz i v=(toD1 h v).bind (kBox1 np h fz i v.refs):=rfl
@[simp] theorem ev_box (fz:Bool) (i:Nat) (x:Arg):evalOp O np e h (.box fz i x)=(e.arg x).bind (kBox np h fz i):=rfl
def kLoad1 (h:Heap) (s:Sh) (x:D):Option (V×Heap):=if Sh.beq x.sh s then some (.d x,h) else none
@[simp] theorem kLoad1_eq (s:Sh) (x:D):kLoad1 h s x=if Sh.beq x.sh s then some (.d x,h) else none:=rfl
def kLoad (h:Heap) (s:Sh):V→Option (V×Heap)
 | .d (.ip x)=>kLoad1 h s x
 | .ptr i p=>((h[i]?).bind (kGet p)).bind (kLoad1 h s)
 | _=>none
@[simp] theorem kLoad_d (s:Sh) (x:D):kLoad h s (.d (.ip x))=kLoad1 h s x:=rfl
@[simp] theorem kLoad_p (s:Sh) (i:Nat) (p:List Nat):kLoad h s (.ptr i p)=((h[i]?).bind (kGet p)).bind (kLoad1 h s):=rfl
@[simp] theorem ev_load (s:Sh) (x:Arg):evalOp O np e h (.load s x)=(e.arg x).bind (kLoad h s):=by
 simp only [evalOp]
 cases e.arg x with
 | none=>rfl
 | some v=>cases v <;> try rfl
           rename_i d; cases d <;> rfl
def kBin (h:Heap) (o:BinOp):V→V→Option (V×Heap)
 | .d a,.d b=>(binD o a b).map fun r=>(.d r,h)
 | _,_=>none
def kD (h:Heap) (r:D):V×Heap:=(.d r,h)
@[simp] theorem kD_eq (r:D):kD h r=(.d r,h):=rfl
@[simp] theorem kBin_d (o:BinOp) (a b:D):kBin h o (.d a) (.d b)=(binD o a b).map (kD h):=rfl
def kBinA (e:Env) (h:Heap) (o:BinOp) (y:Arg) (v:V):Option (V×Heap):=(e.arg y).bind (kBin h o v)
@[simp] theorem kBinA_eq (o:BinOp) (y:Arg) (v:V):kBinA e h o y v=(e.arg y).bind (kBin h o v):=rfl
@[simp] theorem ev_bin (o:BinOp) (x y:Arg):evalOp O np e h (.bin o x y)=(e.arg x).bind (kBinA e h o y):=by
 simp only [evalOp]
 cases e.arg x with
 | none=>rfl
 | some v=>
  cases hy:e.arg y with
  | none=>cases v <;> simp [kBinA,hy]
  | some w=>cases v <;> cases w <;> simp [kBinA,hy,kBin]
theorem two {α:Type} {x y:Option V} {f:V→V→Option α} {g:Option α} (h1:∀v w,x=some v→y=some w→g=f v w) (h2:x=none∨y=none→g=none):g=x.bind fun v=>y.bind (f v):=by
 cases hx:x with
 | none=>exact h2 (.inl hx)
 | some v=>
  cases hy:y with
  | none=>exact h2 (.inr hy)
  | some w=>exact h1 v w hx hy
def kUn (h:Heap) (o:UnOp):V→Option (V×Heap)
 | .d a=>(unD o a).map (kD h)
 | _=>none
@[simp] theorem kUn_d (o:UnOp) (a:D):kUn h o (.d a)=(unD o a).map (kD h):=rfl
@[simp] theorem ev_un (o:UnOp) (x:Arg):evalOp O np e h (.un o x)=(e.arg x).bind (kUn h o):=by
 simp only [evalOp]
 cases e.arg x with
 | none=>rfl
 | some v=>cases v <;> rfl
def kConv (h:Heap) (k:IntKind):V→Option (V×Heap)
 | .d (.int _ n)=>some (.d (.int k (k.wrap n)),h)
 | _=>none
@[simp] theorem kConv_d (k q:IntKind) (n:Int):kConv h k (.d (.int q n))=some (.d (.int k (k.wrap n)),h):=rfl
@[simp] theorem ev_conv (k:IntKind) (x:Arg):evalOp O np e h (.conv k x)=(e.arg x).bind (kConv h k):=by
 simp only [evalOp]
 cases e.arg x with
 | none=>rfl
 | some v=>cases v <;> try rfl
           rename_i d; cases d <;> rfl
def kFld (h:Heap) (ss:List Sh) (j:Nat):V→Option (V×Heap)
 | .d (.st ts cs)=>if Sh.beqs ts ss then (cs[j]?).map (kD h) else none
 | _=>none
@[simp] theorem kFld_d (ss ts:List Sh) (j:Nat) (cs:List D):kFld h ss j (.d (.st ts cs))=if Sh.beqs ts ss then (cs[j]?).map (kD h) else none:=rfl
@[simp] theorem ev_fld (ss:List Sh) (x:Arg) (j:Nat):evalOp O np e h (.fld ss x j)=(e.arg x).bind (kFld h ss j):=by
 simp only [evalOp]
 cases e.arg x with
 | none=>rfl
 | some v=>cases v <;> try rfl
           rename_i d; cases d <;> rfl
def kIp (h:Heap) (c:D):V×Heap:=(.d (.ip c),h)
@[simp] theorem kIp_eq (c:D):kIp h c=(.d (.ip c),h):=rfl
def kFldA1 (h:Heap) (ss:List Sh) (i:Nat) (p:List Nat) (y:D):Option (V×Heap):=if Sh.beq y.sh (.st ss) then some (.ptr i p,h) else none
@[simp] theorem kFldA1_eq (ss:List Sh) (i:Nat) (p:List Nat) (y:D):kFldA1 h ss i p y=if Sh.beq y.sh (.st ss) then some (.ptr i p,h) else none:=rfl
def kFldA (h:Heap) (ss:List Sh) (j:Nat):V→Option (V×Heap)
 | .ptr i p=>((h[i]?).bind (kGet p)).bind (kFldA1 h ss i (p++[j]))
 | .d (.ip (.st ts cs))=>if Sh.beqs ts ss then (cs[j]?).map (kIp h) else none
 | _=>none
@[simp] theorem kFldA_p (ss:List Sh) (j i:Nat) (p:List Nat):kFldA h ss j (.ptr i p)=((h[i]?).bind (kGet p)).bind (kFldA1 h ss i (p++[j])):=rfl
@[simp] theorem kFldA_d (ss ts:List Sh) (j:Nat) (cs:List D):kFldA h ss j (.d (.ip (.st ts cs)))=if Sh.beqs ts ss then (cs[j]?).map (kIp h) else none:=rfl
@[simp] theorem ev_fldA (ss:List Sh) (x:Arg) (j:Nat):evalOp O np e h (.fldA ss x j)=(e.arg x).bind (kFldA h ss j):=by
 simp only [evalOp]
 cases e.arg x with
 | none=>rfl
 | some v=>cases v <;> try rfl
           rename_i d; cases d <;> try rfl
           rename_i d; cases d <;> rfl
def kExt (h:Heap) (j:Nat):V→Option (V×Heap)
 | .d (.tup vs)=>(vs[j]?).map (kD h)
 | .tup vs=>(vs[j]?).map (kMv h)
 | _=>none
@[simp] theorem kExt_d (j:Nat) (vs:List D):kExt h j (.d (.tup vs))=(vs[j]?).map (kD h):=rfl
@[simp] theorem kExt_t (j:Nat) (vs:List V):kExt h j (.tup vs)=(vs[j]?).map (kMv h):=rfl
@[simp] theorem ev_ext (x:Arg) (j:Nat):evalOp O np e h (.ext x j)=(e.arg x).bind (kExt h j):=by
 simp only [evalOp]
 cases e.arg x with
 | none=>rfl
 | some v=>cases v <;> try rfl
           rename_i d; cases d <;> rfl
def kLen (h:Heap):Bool→V→Option (V×Heap)
 | false,.d (.sl _ cs)=>some (.d (.int .i64 cs.length),h)
 | false,.sl _ _ _ n _=>some (.d (.int .i64 n),h)
 | true,.d (.str b)=>some (.d (.int .i64 b.size),h)
 | _,_=>none
@[simp] theorem kLen_d (s:Sh) (cs:List D):kLen h false (.d (.sl s cs))=some (.d (.int .i64 cs.length),h):=rfl
@[simp] theorem kLen_s (i:Nat) (p:List Nat) (off n:Nat) (cap:Option Nat):kLen h false (.sl i p off n cap)=some (.d (.int .i64 n),h):=rfl
@[simp] theorem kLen_t (b:ByteArray):kLen h true (.d (.str b))=some (.d (.int .i64 b.size),h):=rfl
@[simp] theorem ev_len (str:Bool) (x:Arg):evalOp O np e h (.len str x)=(e.arg x).bind (kLen h str):=by
 cases str <;> simp only [evalOp]
 ·cases e.arg x with
  | none=>rfl
  | some v=>cases v <;> try rfl
            rename_i d; cases d <;> rfl
 ·cases e.arg x with
  | none=>rfl
  | some v=>cases v <;> try rfl
            rename_i d; cases d <;> rfl
def kCall (O:Oracle) (np:Nat) (h:Heap) (m:Mode) (news:List Nat) (g:Nat×List V×List V) (vs:List V):Option (V×Heap):=
 match m with
 | .heap=>callHeap O np news h g.1 (g.2.1++vs++g.2.2)
 | _=>callPure O m h g.1 (g.2.1++vs++g.2.2)
def kCallG (O:Oracle) (np:Nat) (e:Env) (h:Heap) (m:Mode) (news:List Nat) (as:List Arg) (g:Nat×List V×List V):Option (V×Heap):=(e.args as).bind (kCall O np h m news g)
@[simp] theorem kCallG_eq (m:Mode) (news:List Nat) (as:List Arg) (g:Nat×List V×List V):kCallG O np e h m news as g=(e.args as).bind (kCall O np h m news g):=rfl
def kCallF (O:Oracle) (np:Nat) (e:Env) (h:Heap) (m:Mode) (news:List Nat) (as:List Arg) (fv:V):Option (V×Heap):=(callee fv).bind (kCallG O np e h m news as)
@[simp] theorem kCallF_eq (m:Mode) (news:List Nat) (as:List Arg) (fv:V):kCallF O np e h m news as fv=(callee fv).bind (kCallG O np e h m news as):=rfl
@[simp] theorem ev_call (m:Mode) (news:List Nat) (f:Arg) (as:List Arg):evalOp O np e h (.call m news f as)=(e.arg f).bind (kCallF O np e h m news as):=by
 simp only [evalOp]
 cases e.arg f with
 | none=>rfl
 | some fv=>
  simp only [Option.bind_some,kCallF]
  cases callee fv with
  | none=>rfl
  | some g=>
   simp only [Option.bind_some,kCallG]
   cases e.args as with
   | none=>rfl
   | some vs=>cases m <;> rfl
def kAns (m:Mode) (h:Heap) (rs:List Nat) (x:D):Option (V×Heap):=
 match m with
 | .flat=>if x.flat then some (.d x,h) else none
 | .plain=>if rs.isEmpty then some (.d x,h) else none
 | _=>some (.d x,freeze h rs)
@[simp] theorem kAns_flat (rs:List Nat) (x:D):kAns .flat h rs x=if x.flat then some (.d x,h) else none:=rfl
@[simp] theorem kAns_plain (rs:List Nat) (x:D):kAns .plain h rs x=if rs.isEmpty then some (.d x,h) else none:=rfl
@[simp] theorem kAns_data (rs:List Nat) (x:D):kAns .data h rs x=some (.d x,freeze h rs):=rfl
def kRes (m:Mode) (h:Heap) (rs:List Nat):Ans→Option (V×Heap)
 | (v,_,nb)=>(toD nb v).bind (kAns m h rs)
@[simp] theorem kRes_mk (m:Mode) (rs:List Nat) (v:V) (bs nb:Heap):kRes m h rs (v,bs,nb)=(toD nb v).bind (kAns m h rs):=rfl
def kAsk (O:Oracle) (m:Mode) (h:Heap) (f:Nat) (rs:List Nat) (ds:List D):Option (V×Heap):=(O f (ds.map .d) []).bind (kRes m h rs)
def kRet:Ans→Option D
 | (v,_,nb)=>toD nb v
@[simp] theorem kRet_mk (v:V) (bs nb:Heap):kRet (v,bs,nb)=toD nb v:=rfl
def ask (O:Oracle) (f:Nat) (ds:List D):Option D:=(O f (ds.map .d) []).bind kRet
@[simp] theorem kAsk_ask (m:Mode) (f:Nat) (rs:List Nat) (ds:List D):kAsk O m h f rs ds=(ask O f ds).bind (kAns m h rs):=by
 unfold kAsk ask
 cases O f (ds.map .d) [] with
 | none=>rfl
 | some r=>obtain ⟨v,bs,nb⟩:=r; rfl
theorem callPure_eq (m:Mode) (f:Nat) (vs:List V):callPure O m h f vs=(toDs h vs).bind (kAsk O m h f (V.refss vs)):=by
 unfold callPure
 cases toDs h vs with
 | none=>rfl
 | some ds=>
  simp only [Option.bind_some,kAsk]
  cases O f (ds.map .d) [] with
  | none=>rfl
  | some r=>
   obtain ⟨v,bs,nb⟩:=r
   simp only [Option.bind_some,kRes]
   cases toD nb v with
   | none=>rfl
   | some x=>cases m <;> rfl
@[simp] theorem kCall_flat (news:List Nat) (f:Nat) (a c vs:List V):kCall O np h .flat news (f,a,c) vs=(toDs h (a++vs++c)).bind (kAsk O .flat h f (V.refss (a++vs++c))):=by
 show callPure O .flat h f (a++vs++c)=_
 exact callPure_eq _ _ _
@[simp] theorem kCall_plain (news:List Nat) (f:Nat) (a c vs:List V):kCall O np h .plain news (f,a,c) vs=(toDs h (a++vs++c)).bind (kAsk O .plain h f (V.refss (a++vs++c))):=by
 show callPure O .plain h f (a++vs++c)=_
 exact callPure_eq _ _ _
@[simp] theorem kCall_data (news:List Nat) (f:Nat) (a c vs:List V):kCall O np h .data news (f,a,c) vs=(toDs h (a++vs++c)).bind (kAsk O .data h f (V.refss (a++vs++c))):=by
 show callPure O .data h f (a++vs++c)=_
 exact callPure_eq _ _ _
@[simp] theorem kCall_heap (news:List Nat) (f:Nat) (a c vs:List V):kCall O np h .heap news (f,a,c) vs=callHeap O np news h f (a++vs++c):=rfl
def kPut (h:Heap) (i:Nat) (b:Blk):V×Heap:=(.tup [],h.set i b)
@[simp] theorem kPut_eq (i:Nat) (b:Blk):kPut h i b=(.tup [],h.set i b):=rfl
def kSet (h:Heap) (i:Nat) (p:List Nat) (d:D) (b:Blk):Option (V×Heap):=(b.set p d).map (kPut h i)
@[simp] theorem kSet_eq (i:Nat) (p:List Nat) (d:D) (b:Blk):kSet h i p d b=(b.set p d).map (kPut h i):=rfl
def kStore3 (s:Sh) (d:D) (h:Heap):V→Option (V×Heap)
 | .ptr i p=>if Sh.beq d.sh s then (h[i]?).bind (kSet h i p d) else none
 | _=>none
@[simp] theorem kStore3_p (s:Sh) (d:D) (i:Nat) (p:List Nat):kStore3 s d h (.ptr i p)=if Sh.beq d.sh s then (h[i]?).bind (kSet h i p d) else none:=rfl
def kStore2 (e:Env) (s:Sh) (p:Arg) (d:D) (h:Heap):Option (V×Heap):=(e.arg p).bind (kStore3 s d h)
@[simp] theorem kStore2_eq (s:Sh) (p:Arg) (d:D):kStore2 e s p d h=(e.arg p).bind (kStore3 s d h):=rfl
def kStore1 (e:Env) (h:Heap) (fz:Bool) (s:Sh) (p:Arg) (rs:List Nat) (d:D):Option (V×Heap):=(freezeIf fz h rs).bind (kStore2 e s p d)
@[simp] theorem kStore1_eq (fz:Bool) (s:Sh) (p:Arg) (rs:List Nat) (d:D):kStore1 e h fz s p rs d=(freezeIf fz h rs).bind (kStore2 e s p d):=rfl
def kStore (e:Env) (h:Heap) (fz:Bool) (s:Sh) (p:Arg) (v:V):Option (V×Heap):=(toD1 h v).bind (kStore1 e h fz s p v.refs)
@[simp] theorem kStore_eq (fz:Bool) (s:Sh) (p:Arg) (v:V):kStore e h fz s p v=(toD1 h v).bind (kStore1 e h fz s p v.refs):=rfl
@[simp] theorem ev_store (fz:Bool) (s:Sh) (p x:Arg):evalOp O np e h (.store fz s p x)=(e.arg x).bind (kStore e h fz s p):=by
 simp only [evalOp]
 cases e.arg x with
 | none=>rfl
 | some v=>
  simp only [Option.bind_some,kStore]
  cases toD1 h v with
  | none=>rfl
  | some d=>
   simp only [Option.bind_some,kStore1]
   cases freezeIf fz h v.refs with
   | none=>rfl
   | some h'=>
    simp only [Option.bind_some,kStore2]
    cases e.arg p with
    | none=>rfl
    | some w=>cases w <;> rfl
def kIdxA1 (h:Heap) (s:Sh) (n:Nat) (i:Nat) (_p:List Nat) (k:Nat) (pp:List Nat) (q:Sh×List D):Option (V×Heap):=if Sh.beq q.1 s∧k<n then some (.ptr i pp,h) else none
@[simp] theorem kIdxA1_eq (s:Sh) (n i:Nat) (p:List Nat) (k:Nat) (pp:List Nat) (t:Sh) (cs:List D):kIdxA1 h s n i p k pp (t,cs)=if Sh.beq t s∧k<n then some (.ptr i pp,h) else none:=rfl
def kIdxA (h:Heap) (s:Sh):V→Nat→Option (V×Heap)
 | .sl i p off n _,k=>((h[i]?).bind (kEl p)).bind (kIdxA1 h s n i p k (p++[off+k]))
 | .d (.sl t cs),k=>if Sh.beq t s then (cs[k]?).map (kIp h) else none
 | _,_=>none
@[simp] theorem kIdxA_s (s:Sh) (i:Nat) (p:List Nat) (off n:Nat) (cap:Option Nat) (k:Nat):kIdxA h s (.sl i p off n cap) k=((h[i]?).bind (kEl p)).bind (kIdxA1 h s n i p k (p++[off+k])):=rfl
@[simp] theorem kIdxA_d (s t:Sh) (cs:List D) (k:Nat):kIdxA h s (.d (.sl t cs)) k=if Sh.beq t s then (cs[k]?).map (kIp h) else none:=rfl
def kIdxAA (e:Env) (h:Heap) (s:Sh) (j:Arg) (v:V):Option (V×Heap):=((e.arg j).bind V.nat?).bind (kIdxA h s v)
@[simp] theorem kIdxAA_eq (s:Sh) (j:Arg) (v:V):kIdxAA e h s j v=((e.arg j).bind V.nat?).bind (kIdxA h s v):=rfl
@[simp] theorem ev_idxA (s:Sh) (x j:Arg):evalOp O np e h (.idxA none s x j)=(e.arg x).bind (kIdxAA e h s j):=by
 simp only [evalOp]
 cases e.arg x with
 | none=>rfl
 | some v=>
  simp only [Option.bind_some,kIdxAA]
  cases (e.arg j).bind V.nat? with
  | none=>cases v <;> try rfl
          rename_i d; cases d <;> rfl
  | some k=>cases v <;> try rfl
            rename_i d; cases d <;> rfl
@[simp] theorem evalList_nil (s:St):evalList O np [] s=some s:=rfl
@[simp] theorem evalList_cons (i:Ins) (is:List Ins) (s:St):evalList O np (i::is) s=(evalIns O np s i).bind (evalList O np is):=rfl
@[simp] theorem ev_nilOwn (i:Nat) (s:Sh):evalOp O np e h (.nilOwn i s)=(putBlk h (np+i) (.sl false s [])).map (Prod.mk (.sl (np+i) [] 0 0 (some 0))):=rfl
@[simp] theorem ev_fail:evalOp O np e h .fail=none:=rfl
def kMkFn1 (h:Heap) (f:Nat) (us vs:List V):V×Heap:=(.fn f us vs,h)
@[simp] theorem kMkFn1_eq (f:Nat) (us vs:List V):kMkFn1 h f us vs=(.fn f us vs,h):=rfl
def kMkFn (e:Env) (h:Heap) (f:Nat) (cs:List Arg) (us:List V):Option (V×Heap):=(e.args cs).map (kMkFn1 h f us)
@[simp] theorem kMkFn_eq (f:Nat) (cs:List Arg) (us:List V):kMkFn e h f cs us=(e.args cs).map (kMkFn1 h f us):=rfl
@[simp] theorem ev_mkFn (f:Nat) (as cs:List Arg):evalOp O np e h (.mkFn f as cs)=(e.args as).bind (kMkFn e h f cs):=rfl
def kMax1 (h:Heap):V→V→Option (V×Heap)
 | .d (.int k a),.d (.int k' b)=>if k=k' then some (.d (.int k (if a<b then b else a)),h) else none
 | _,_=>none
@[simp] theorem kMax1_d (k k':IntKind) (a b:Int):kMax1 h (.d (.int k a)) (.d (.int k' b))=if k=k' then some (.d (.int k (if a<b then b else a)),h) else none:=rfl
def kMax (e:Env) (h:Heap) (y:Arg) (v:V):Option (V×Heap):=(e.arg y).bind (kMax1 h v)
@[simp] theorem kMax_eq (y:Arg) (v:V):kMax e h y v=(e.arg y).bind (kMax1 h v):=rfl
@[simp] theorem ev_maxI (x y:Arg):evalOp O np e h (.maxI x y)=(e.arg x).bind (kMax e h y):=by
 simp only [evalOp]
 cases e.arg x with
 | none=>rfl
 | some v=>
  simp only [Option.bind_some,kMax]
  cases e.arg y with
  | none=>cases v <;> try rfl
          rename_i d; cases d <;> rfl
  | some w=>cases v <;> try rfl
            rename_i d; cases d <;> try rfl
            cases w <;> try rfl
            rename_i d; cases d <;> rfl
def kMin1 (h:Heap):V→V→Option (V×Heap)
 | .d (.int k a),.d (.int k' b)=>if k=k' then some (.d (.int k (if b<a then b else a)),h) else none
 | _,_=>none
@[simp] theorem kMin1_d (k k':IntKind) (a b:Int):kMin1 h (.d (.int k a)) (.d (.int k' b))=if k=k' then some (.d (.int k (if b<a then b else a)),h) else none:=rfl
def kMin (e:Env) (h:Heap) (y:Arg) (v:V):Option (V×Heap):=(e.arg y).bind (kMin1 h v)
@[simp] theorem kMin_eq (y:Arg) (v:V):kMin e h y v=(e.arg y).bind (kMin1 h v):=rfl
@[simp] theorem ev_minI (x y:Arg):evalOp O np e h (.minI x y)=(e.arg x).bind (kMin e h y):=by
 simp only [evalOp]
 cases e.arg x with
 | none=>rfl
 | some v=>
  simp only [Option.bind_some,kMin]
  cases e.arg y with
  | none=>cases v <;> try rfl
          rename_i d; cases d <;> rfl
  | some w=>cases v <;> try rfl
            rename_i d; cases d <;> try rfl
            cases w <;> try rfl
            rename_i d; cases d <;> rfl
def kNilq (h:Heap) (neg:Bool):V→Option (V×Heap)
 | .d (.sl _ (_::_))=>some (.d (.bool neg),h)
 | .sl _ _ _ (_+1) _=>some (.d (.bool neg),h)
 | _=>none
@[simp] theorem kNilq_d (neg:Bool) (s:Sh) (c:D) (cs:List D):kNilq h neg (.d (.sl s (c::cs)))=some (.d (.bool neg),h):=rfl
@[simp] theorem kNilq_s (neg:Bool) (i:Nat) (p:List Nat) (off n:Nat) (cap:Option Nat):kNilq h neg (.sl i p off (n+1) cap)=some (.d (.bool neg),h):=rfl
def kMkSl1 (np:Nat) (h:Heap) (i:Nat) (s:Sh) (z:D) (bytes n m:Nat):Option (V×Heap):=
 if n≤m∧m*bytes≤1099511627776 then (putBlk h (np+i) (.sl false s (List.replicate n z))).map (Prod.mk (.sl (np+i) [] 0 n (if n=m then some n else none))) else none
@[simp] theorem kMkSl1_eq (i:Nat) (s:Sh) (z:D) (bytes n m:Nat):kMkSl1 np h i s z bytes n m =
 if n≤m∧m*bytes≤1099511627776 then (putBlk h (np+i) (.sl false s (List.replicate n z))).map (Prod.mk (.sl (np+i) [] 0 n (if n=m then some n else none))) else none:=rfl
def kMkSl (np:Nat) (e:Env) (h:Heap) (i:Nat) (s:Sh) (z:D) (bytes:Nat) (c:Arg) (n:Nat):Option (V×Heap):=((e.arg c).bind V.nat?).bind (kMkSl1 np h i s z bytes n)
@[simp] theorem kMkSl_eq (i:Nat) (s:Sh) (z:D) (bytes:Nat) (c:Arg) (n:Nat):kMkSl np e h i s z bytes c n=((e.arg c).bind V.nat?).bind (kMkSl1 np h i s z bytes n):=rfl
@[simp] theorem ev_mkSl (i:Nat) (s:Sh) (z:D) (bytes:Nat) (l c:Arg):evalOp O np e h (.mkSl i s z bytes l c)=((e.arg l).bind V.nat?).bind (kMkSl np e h i s z bytes c):=by
 simp only [evalOp]
 cases (e.arg l).bind V.nat? with
 | none=>rfl
 | some n=>
  simp only [Option.bind_some,kMkSl]
  cases (e.arg c).bind V.nat? with
  | none=>rfl
  | some m=>rfl
@[simp] theorem ev_nilq (neg:Bool) (x:Arg):evalOp O np e h (.nilq neg x)=(e.arg x).bind (kNilq h neg):=by
 simp only [evalOp]
 cases e.arg x with
 | none=>rfl
 | some v=>
  cases v with
  | d d=>cases d <;> try rfl
         rename_i s cs; cases cs <;> rfl
  | sl i p off n cap=>cases n <;> rfl
  | _=>rfl
def kAppS (np:Nat) (h:Heap) (s:Sh) (i bytes:Nat) (t:Sh) (ys:List D) (j off n:Nat) (cap:Option Nat):Blk→Option (V×Heap)
 | .sl fr t' cs=>if Sh.beq t s∧Sh.beq t' s∧off+n≤cs.length∧(n+ys.length)*bytes≤1099511627776 then
  (if fr=false∧np≤j then some (.sl j [] 0 (n+ys.length) none,h.set j (.sl false s ((cs.drop off).take n++ys)))
  else if cap=some n∧ys≠[] then (putBlk h (np+i) (.sl false s ((cs.drop off).take n++ys))).map (Prod.mk (.sl (np+i) [] 0 (n+ys.length) none))
  else none) else none
 | _=>none
@[simp] theorem kAppS_sl (s:Sh) (i bytes:Nat) (t:Sh) (ys:List D) (j off n:Nat) (cap:Option Nat) (fr:Bool) (t':Sh) (cs:List D):kAppS np h s i bytes t ys j off n cap (.sl fr t' cs) =
 if Sh.beq t s∧Sh.beq t' s∧off+n≤cs.length∧(n+ys.length)*bytes≤1099511627776 then
  (if fr=false∧np≤j then some (.sl j [] 0 (n+ys.length) none,h.set j (.sl false s ((cs.drop off).take n++ys)))
  else if cap=some n∧ys≠[] then (putBlk h (np+i) (.sl false s ((cs.drop off).take n++ys))).map (Prod.mk (.sl (np+i) [] 0 (n+ys.length) none))
  else none) else none:=rfl
def kApp2 (np:Nat) (h:Heap) (s:Sh) (i bytes:Nat):D→V→Option (V×Heap)
 | .sl t ys,.sl j [] off n cap=>(h[j]?).bind (kAppS np h s i bytes t ys j off n cap)
 | .sl t (y::ys),.d (.nils t')=>if Sh.beq t s∧Sh.beq t' s∧(ys.length+1)*bytes≤1099511627776 then
  (putBlk h (np+i) (.sl false s (y::ys))).map (Prod.mk (.sl (np+i) [] 0 (ys.length+1) none)) else none
 | _,_=>none
@[simp] theorem kApp2_s (s:Sh) (i bytes:Nat) (t:Sh) (ys:List D) (j off n:Nat) (cap:Option Nat):kApp2 np h s i bytes (.sl t ys) (.sl j [] off n cap)=(h[j]?).bind (kAppS np h s i bytes t ys j off n cap):=by
 cases ys <;> rfl
@[simp] theorem kApp2_n (s:Sh) (i bytes:Nat) (t t':Sh) (y:D) (ys:List D):kApp2 np h s i bytes (.sl t (y::ys)) (.d (.nils t'))=if Sh.beq t s∧Sh.beq t' s∧(ys.length+1)*bytes≤1099511627776 then
 (putBlk h (np+i) (.sl false s (y::ys))).map (Prod.mk (.sl (np+i) [] 0 (ys.length+1) none)) else none:=rfl
def kApp1 (np:Nat) (e:Env) (h:Heap) (s:Sh) (i bytes:Nat) (x:Arg) (d:D):Option (V×Heap):=(e.arg x).bind (kApp2 np h s i bytes d)
@[simp] theorem kApp1_eq (s:Sh) (i bytes:Nat) (x:Arg) (d:D):kApp1 np e h s i bytes x d=(e.arg x).bind (kApp2 np h s i bytes d):=rfl
def kApp (np:Nat) (e:Env) (h:Heap) (s:Sh) (i bytes:Nat) (x:Arg) (w:V):Option (V×Heap):=(toD h w).bind (kApp1 np e h s i bytes x)
@[simp] theorem kApp_eq (s:Sh) (i bytes:Nat) (x:Arg) (w:V):kApp np e h s i bytes x w=(toD h w).bind (kApp1 np e h s i bytes x):=rfl
@[simp] theorem ev_append (s:Sh) (i bytes:Nat) (x y:Arg):evalOp O np e h (.append s i bytes x y)=(e.arg y).bind (kApp np e h s i bytes x):=by
 simp only [evalOp]
 cases e.arg y with
 | none=>rfl
 | some w=>
  simp only [Option.bind_some,kApp]
  cases toD h w with
  | none=>rfl
  | some d=>
   simp only [Option.bind_some,kApp1]
   cases e.arg x with
   | none=>cases d <;> try rfl
   | some v=>
    cases d <;> try (cases v <;> rfl)
    rename_i t ys
    cases v with
    | sl j p off n cap=>
     cases p with
     | nil=>
      simp only [Option.bind_some,kApp2_s]
      cases h[j]? with
      | none=>rfl
      | some b=>cases b <;> rfl
     | cons _ _=>cases ys <;> rfl
    | d d=>cases ys <;> cases d <;> rfl
    | _=>cases ys <;> rfl
def kIdx1 (h:Heap):Option Nat→Sh→V→Nat→Option (V×Heap)
 | some n,s,.d (.arr n' t cs),k=>if n'=n∧Sh.beq t s then (cs[k]?).map (kD h) else none
 | none,_,.d (.str b),k=>(b[k]?).map fun c=>(.d (.int .u8 c.toNat),h)
 | _,_,_,_=>none
@[simp] theorem kIdx1_a (n n':Nat) (s t:Sh) (cs:List D) (k:Nat):kIdx1 h (some n) s (.d (.arr n' t cs)) k=if n'=n∧Sh.beq t s then (cs[k]?).map (kD h) else none:=rfl
@[simp] theorem kIdx1_s (s:Sh) (b:ByteArray) (k:Nat):kIdx1 h none s (.d (.str b)) k=(b[k]?).map fun c=>(.d (.int .u8 c.toNat),h):=rfl
def kIdx (e:Env) (h:Heap) (ar:Option Nat) (s:Sh) (j:Arg) (v:V):Option (V×Heap):=((e.arg j).bind V.nat?).bind (kIdx1 h ar s v)
@[simp] theorem kIdx_eq (ar:Option Nat) (s:Sh) (j:Arg) (v:V):kIdx e h ar s j v=((e.arg j).bind V.nat?).bind (kIdx1 h ar s v):=rfl
@[simp] theorem ev_idx (ar:Option Nat) (s:Sh) (x j:Arg):evalOp O np e h (.idx ar s x j)=(e.arg x).bind (kIdx e h ar s j):=by
 cases ar <;> simp only [evalOp]
 ·cases e.arg x with
  | none=>rfl
  | some v=>
   simp only [Option.bind_some,kIdx]
   cases (e.arg j).bind V.nat? with
   | none=>cases v <;> try rfl
           rename_i d; cases d <;> rfl
   | some k=>cases v <;> try rfl
             rename_i d; cases d <;> rfl
 ·cases e.arg x with
  | none=>rfl
  | some v=>
   simp only [Option.bind_some,kIdx]
   cases (e.arg j).bind V.nat? with
   | none=>cases v <;> try rfl
           rename_i d; cases d <;> rfl
   | some k=>cases v <;> try rfl
             rename_i d; cases d <;> rfl
def kIdxR1 (h:Heap) (n:Nat) (s:Sh) (i:Nat) (p:List Nat) (k:Nat):D→Option (V×Heap)
 | .arr n' t _=>if n'=n∧Sh.beq t s∧k<n then some (.ptr i (p++[k]),h) else none
 | _=>none
@[simp] theorem kIdxR1_a (n n':Nat) (s t:Sh) (i:Nat) (p:List Nat) (k:Nat) (cs:List D):kIdxR1 h n s i p k (.arr n' t cs)=if n'=n∧Sh.beq t s∧k<n then some (.ptr i (p++[k]),h) else none:=rfl
def kIdxR (h:Heap) (n:Nat) (s:Sh):V→Nat→Option (V×Heap)
 | .ptr i p,k=>((h[i]?).bind (kGet p)).bind (kIdxR1 h n s i p k)
 | .d (.ip (.arr n' t cs)),k=>if n'=n∧Sh.beq t s then (cs[k]?).map (kIp h) else none
 | _,_=>none
@[simp] theorem kIdxR_p (n:Nat) (s:Sh) (i:Nat) (p:List Nat) (k:Nat):kIdxR h n s (.ptr i p) k=((h[i]?).bind (kGet p)).bind (kIdxR1 h n s i p k):=rfl
@[simp] theorem kIdxR_d (n n':Nat) (s t:Sh) (cs:List D) (k:Nat):kIdxR h n s (.d (.ip (.arr n' t cs))) k=if n'=n∧Sh.beq t s then (cs[k]?).map (kIp h) else none:=rfl
def kIdxRA (e:Env) (h:Heap) (n:Nat) (s:Sh) (j:Arg) (v:V):Option (V×Heap):=((e.arg j).bind V.nat?).bind (kIdxR h n s v)
@[simp] theorem kIdxRA_eq (n:Nat) (s:Sh) (j:Arg) (v:V):kIdxRA e h n s j v=((e.arg j).bind V.nat?).bind (kIdxR h n s v):=rfl
@[simp] theorem ev_idxR (n:Nat) (s:Sh) (x j:Arg):evalOp O np e h (.idxA (some n) s x j)=(e.arg x).bind (kIdxRA e h n s j):=by
 simp only [evalOp]
 cases e.arg x with
 | none=>rfl
 | some v=>
  simp only [Option.bind_some,kIdxRA]
  cases (e.arg j).bind V.nat? with
  | none=>cases v <;> try rfl
          rename_i d; cases d <;> try rfl
          rename_i d; cases d <;> rfl
  | some k=>
   cases v with
   | ptr i p=>
    simp only [kIdxR_p,Option.bind_some]
    show ((h[i]?).bind (kGet p)).bind _=_
    congr 1
   | d d=>cases d <;> try rfl
          rename_i d; cases d <;> rfl
   | _=>rfl
def kEqv (h:Heap) (neg:Bool) (q:Q):V→V→Option (V×Heap)
 | .d a,.d b=>(D.beq q a b).map fun r=>(.d (.bool (if neg then !r else r)),h)
 | _,_=>none
@[simp] theorem kEqv_d (neg:Bool) (q:Q) (a b:D):kEqv h neg q (.d a) (.d b)=(D.beq q a b).map fun r=>(.d (.bool (if neg then !r else r)),h):=rfl
def kEqvA (e:Env) (h:Heap) (neg:Bool) (q:Q) (y:Arg) (v:V):Option (V×Heap):=(e.arg y).bind (kEqv h neg q v)
@[simp] theorem kEqvA_eq (neg:Bool) (q:Q) (y:Arg) (v:V):kEqvA e h neg q y v=(e.arg y).bind (kEqv h neg q v):=rfl
@[simp] theorem ev_eqv (neg:Bool) (q:Q) (x y:Arg):evalOp O np e h (.eqv neg q x y)=(e.arg x).bind (kEqvA e h neg q y):=by
 simp only [evalOp]
 cases e.arg x with
 | none=>rfl
 | some v=>
  simp only [Option.bind_some,kEqvA]
  cases e.arg y with
  | none=>cases v <;> rfl
  | some w=>cases v <;> cases w <;> rfl
def kCutD3 (h:Heap) (s t:Sh) (cs:List D) (m b a:Nat):Option (V×Heap):=if Sh.beq t s∧a≤b∧b≤m∧m≤cs.length then some (.d (.sl t ((cs.drop a).take (b-a))),h) else none
@[simp] theorem kCutD3_eq (s t:Sh) (cs:List D) (m b a:Nat):kCutD3 h s t cs m b a=if Sh.beq t s∧a≤b∧b≤m∧m≤cs.length then some (.d (.sl t ((cs.drop a).take (b-a))),h) else none:=rfl
def kCutD2 (e:Env) (h:Heap) (s t:Sh) (cs:List D) (lo:Option Arg) (m b:Nat):Option (V×Heap):=(optNat e lo 0).bind (kCutD3 h s t cs m b)
@[simp] theorem kCutD2_eq (s t:Sh) (cs:List D) (lo:Option Arg) (m b:Nat):kCutD2 e h s t cs lo m b=(optNat e lo 0).bind (kCutD3 h s t cs m b):=rfl
def kCutD1 (e:Env) (h:Heap) (s t:Sh) (cs:List D) (lo hi:Option Arg) (m:Nat):Option (V×Heap):=(optNat e hi cs.length).bind (kCutD2 e h s t cs lo m)
@[simp] theorem kCutD1_eq (s t:Sh) (cs:List D) (lo hi:Option Arg) (m:Nat):kCutD1 e h s t cs lo hi m=(optNat e hi cs.length).bind (kCutD2 e h s t cs lo m):=rfl
def kCutS3 (h:Heap) (s t:Sh) (i:Nat) (p:List Nat) (off n:Nat) (cap:Option Nat) (ismx:Bool) (m b a:Nat):Option (V×Heap):=if Sh.beq t s∧a≤b∧b≤m∧m≤n then some (.sl i p (off+a) (b-a) (if ismx then some (m-a) else cap.map (· - a)),h) else none
@[simp] theorem kCutS3_eq (s t:Sh) (i:Nat) (p:List Nat) (off n:Nat) (cap:Option Nat) (ismx:Bool) (m b a:Nat):kCutS3 h s t i p off n cap ismx m b a=if Sh.beq t s∧a≤b∧b≤m∧m≤n then some (.sl i p (off+a) (b-a) (if ismx then some (m-a) else cap.map (· - a)),h) else none:=rfl
def kCutS2 (e:Env) (h:Heap) (s t:Sh) (i:Nat) (p:List Nat) (off n:Nat) (cap:Option Nat) (ismx:Bool) (lo:Option Arg) (m b:Nat):Option (V×Heap):=(optNat e lo 0).bind (kCutS3 h s t i p off n cap ismx m b)
@[simp] theorem kCutS2_eq (s t:Sh) (i:Nat) (p:List Nat) (off n:Nat) (cap:Option Nat) (ismx:Bool) (lo:Option Arg) (m b:Nat):kCutS2 e h s t i p off n cap ismx lo m b=(optNat e lo 0).bind (kCutS3 h s t i p off n cap ismx m b):=rfl
def kCutS1 (e:Env) (h:Heap) (s t:Sh) (i:Nat) (p:List Nat) (off n:Nat) (cap:Option Nat) (ismx:Bool) (lo hi:Option Arg) (m:Nat):Option (V×Heap):=(optNat e hi n).bind (kCutS2 e h s t i p off n cap ismx lo m)
@[simp] theorem kCutS1_eq (s t:Sh) (i:Nat) (p:List Nat) (off n:Nat) (cap:Option Nat) (ismx:Bool) (lo hi:Option Arg) (m:Nat):kCutS1 e h s t i p off n cap ismx lo hi m=(optNat e hi n).bind (kCutS2 e h s t i p off n cap ismx lo m):=rfl
def kCutS0 (e:Env) (h:Heap) (s:Sh) (i:Nat) (p:List Nat) (off n:Nat) (cap:Option Nat) (mx lo hi:Option Arg):Sh×List D→Option (V×Heap)
 | (t,_)=>(optNat e mx n).bind (kCutS1 e h s t i p off n cap mx.isSome lo hi)
@[simp] theorem kCutS0_mk (s:Sh) (i:Nat) (p:List Nat) (off n:Nat) (cap:Option Nat) (mx lo hi:Option Arg) (t:Sh) (cs:List D):kCutS0 e h s i p off n cap mx lo hi (t,cs)=(optNat e mx n).bind (kCutS1 e h s t i p off n cap mx.isSome lo hi):=rfl
def kCut (e:Env) (h:Heap) (s:Sh) (lo hi mx:Option Arg):V→Option (V×Heap)
 | .d (.sl t cs)=>(optNat e mx cs.length).bind (kCutD1 e h s t cs lo hi)
 | .sl i p off n cap=>((h[i]?).bind (kEl p)).bind (kCutS0 e h s i p off n cap mx lo hi)
 | _=>none
@[simp] theorem kCut_d (s t:Sh) (cs:List D) (lo hi mx:Option Arg):kCut e h s lo hi mx (.d (.sl t cs))=(optNat e mx cs.length).bind (kCutD1 e h s t cs lo hi):=rfl
@[simp] theorem kCut_s (s:Sh) (i:Nat) (p:List Nat) (off n:Nat) (cap:Option Nat) (lo hi mx:Option Arg):kCut e h s lo hi mx (.sl i p off n cap)=((h[i]?).bind (kEl p)).bind (kCutS0 e h s i p off n cap mx lo hi):=rfl
@[simp] theorem ev_cut (s:Sh) (x:Arg) (lo hi mx:Option Arg):evalOp O np e h (.cut none s x lo hi mx)=(e.arg x).bind (kCut e h s lo hi mx):=by
 simp only [evalOp]
 cases e.arg x with
 | none=>rfl
 | some v=>
  cases v with
  | d d=>cases d <;> rfl
  | sl i p off n cap=>
   simp only [Option.bind_some,kCut_s]
   show ((h[i]?).bind (kEl p)).bind _=_
   congr 1
   funext q
   obtain ⟨t,cs⟩:=q
   cases mx <;> rfl
  | _=>rfl
def kCutA3 (h:Heap) (n:Nat) (i:Nat) (p:List Nat) (m b a:Nat):Option (V×Heap):=if a≤b∧b≤m∧m≤n then some (.sl i p a (b-a) (some (m-a)),h) else none
@[simp] theorem kCutA3_eq (n i:Nat) (p:List Nat) (m b a:Nat):kCutA3 h n i p m b a=if a≤b∧b≤m∧m≤n then some (.sl i p a (b-a) (some (m-a)),h) else none:=rfl
def kCutA2 (e:Env) (h:Heap) (n:Nat) (i:Nat) (p:List Nat) (lo:Option Arg) (m b:Nat):Option (V×Heap):=(optNat e lo 0).bind (kCutA3 h n i p m b)
@[simp] theorem kCutA2_eq (n i:Nat) (p:List Nat) (lo:Option Arg) (m b:Nat):kCutA2 e h n i p lo m b=(optNat e lo 0).bind (kCutA3 h n i p m b):=rfl
def kCutA1 (e:Env) (h:Heap) (n:Nat) (i:Nat) (p:List Nat) (lo hi:Option Arg) (m:Nat):Option (V×Heap):=(optNat e hi n).bind (kCutA2 e h n i p lo m)
@[simp] theorem kCutA1_eq (n i:Nat) (p:List Nat) (lo hi:Option Arg) (m:Nat):kCutA1 e h n i p lo hi m=(optNat e hi n).bind (kCutA2 e h n i p lo m):=rfl
def kCutA0 (e:Env) (h:Heap) (n:Nat) (s:Sh) (i:Nat) (p:List Nat) (lo hi mx:Option Arg):D→Option (V×Heap)
 | .arr n' t _=>if n'=n∧Sh.beq t s then (optNat e mx n).bind (kCutA1 e h n i p lo hi) else none
 | _=>none
@[simp] theorem kCutA0_a (n n':Nat) (s t:Sh) (cs:List D) (i:Nat) (p:List Nat) (lo hi mx:Option Arg):kCutA0 e h n s i p lo hi mx (.arr n' t cs)=if n'=n∧Sh.beq t s then (optNat e mx n).bind (kCutA1 e h n i p lo hi) else none:=rfl
def kCutV (e:Env) (h:Heap) (n:Nat) (s:Sh) (lo hi mx:Option Arg):V→Option (V×Heap)
 | .ptr i p=>((h[i]?).bind (kGet p)).bind (kCutA0 e h n s i p lo hi mx)
 | .d (.ip (.arr n' t cs))=>(optNat e mx n).bind fun m=>(optNat e hi n).bind fun b=>(optNat e lo 0).bind fun a=>
  if n'=n∧Sh.beq t s∧a≤b∧b≤m∧m≤n then some (.d (.sl t ((cs.drop a).take (b-a))),h) else none
 | _=>none
@[simp] theorem kCutV_p (n:Nat) (s:Sh) (lo hi mx:Option Arg) (i:Nat) (p:List Nat):kCutV e h n s lo hi mx (.ptr i p)=((h[i]?).bind (kGet p)).bind (kCutA0 e h n s i p lo hi mx):=rfl
@[simp] theorem ev_cutA (n:Nat) (s:Sh) (x:Arg) (lo hi mx:Option Arg):evalOp O np e h (.cut (some n) s x lo hi mx)=(e.arg x).bind (kCutV e h n s lo hi mx):=by
 simp only [evalOp]
 cases e.arg x with
 | none=>rfl
 | some v=>
 cases v with
 | d d=>cases d <;> try rfl
        rename_i d; cases d <;> rfl
 | ptr i p=>
 simp only [Option.bind_some,kCutV_p]
 show ((h[i]?).bind (kGet p)).bind _=_
 congr 1
 funext y
 cases y <;> try rfl
 rename_i n' t cs
 simp only [kCutA0]
 by_cases hc:n'=n∧Sh.beq t s=true
 ·rw [if_pos hc]
  cases optNat e mx n with
  | none=>rfl
  | some m=>
   simp only [Option.bind_some,kCutA1]
   cases optNat e hi n with
   | none=>rfl
   | some b=>
    simp only [Option.bind_some,kCutA2]
    cases optNat e lo 0 with
    | none=>rfl
    | some a=>simp only [Option.bind_some,kCutA3,hc,true_and]
 ·rw [if_neg hc]
  cases optNat e mx n with
  | none=>rfl
  | some m=>
   simp only [Option.bind_some]
   cases optNat e hi n with
   | none=>rfl
   | some b=>
    simp only [Option.bind_some]
    cases optNat e lo 0 with
    | none=>rfl
    | some a=>
     simp only [Option.bind_some]
     rw [if_neg]
     rintro ⟨h1,h2,_⟩
     exact hc ⟨h1,h2⟩
 | _=>rfl
def kArr (h:Heap) (n:Nat) (s:Sh) (cs:List D):V×Heap:=(.d (.arr n s cs),h)
@[simp] theorem kArr_eq (n:Nat) (s:Sh) (cs:List D):kArr h n s cs=(.d (.arr n s cs),h):=rfl
def kSt (h:Heap) (ss:List Sh) (cs:List D):V×Heap:=(.d (.st ss cs),h)
@[simp] theorem kSt_eq (ss:List Sh) (cs:List D):kSt h ss cs=(.d (.st ss cs),h):=rfl
def kBuild1 (xs:List (Nat×D)):D→Heap→Option (V×Heap)
 | .arr n s cs,h=>(fillD cs xs).map (kArr h n s)
 | .st ss cs,h=>(fillD cs xs).map (kSt h ss)
 | _,_=>none
@[simp] theorem kBuild1_a (xs:List (Nat×D)) (n:Nat) (s:Sh) (cs:List D):kBuild1 xs (.arr n s cs) h=(fillD cs xs).map (kArr h n s):=rfl
@[simp] theorem kBuild1_s (xs:List (Nat×D)) (ss:List Sh) (cs:List D):kBuild1 xs (.st ss cs) h=(fillD cs xs).map (kSt h ss):=rfl
def kBuild (h:Heap) (fz:Bool) (z:D) (rs:List Nat) (xs:List (Nat×D)):Option (V×Heap):=(freezeIf fz h rs).bind (kBuild1 xs z)
@[simp] theorem kBuild_eq (fz:Bool) (z:D) (rs:List Nat) (xs:List (Nat×D)):kBuild h fz z rs xs=(freezeIf fz h rs).bind (kBuild1 xs z):=rfl
@[simp] theorem ev_build (fz:Bool) (z:D) (ps:List (Nat×Arg)):evalOp O np e h (.build fz z ps)=(partsD e h ps).bind (kBuild h fz z (partsRefs e ps)):=by
 simp only [evalOp]
 cases partsD e h ps with
 | none=>rfl
 | some xs=>
  simp only [Option.bind_some,kBuild]
  cases freezeIf fz h (partsRefs e ps) with
  | none=>rfl
  | some h'=>cases z <;> rfl
def kBSl3 (id n:Nat) (s:Sh) (cs:List D) (h:Heap):Option (V×Heap):=(putBlk h id (.sl false s cs)).map (Prod.mk (.sl id [] 0 n (some n)))
@[simp] theorem kBSl3_eq (id n:Nat) (s:Sh) (cs:List D):kBSl3 id n s cs h=(putBlk h id (.sl false s cs)).map (Prod.mk (.sl id [] 0 n (some n))):=rfl
def kBSl2 (h:Heap) (fz:Bool) (id n:Nat) (s:Sh) (rs:List Nat) (cs:List D):Option (V×Heap):=(freezeIf fz h rs).bind (kBSl3 id n s cs)
@[simp] theorem kBSl2_eq (fz:Bool) (id n:Nat) (s:Sh) (rs:List Nat) (cs:List D):kBSl2 h fz id n s rs cs=(freezeIf fz h rs).bind (kBSl3 id n s cs):=rfl
def kBSl1 (h:Heap) (fz:Bool) (id n:Nat) (s:Sh) (z:D) (rs:List Nat) (xs:List (Nat×D)):Option (V×Heap):=(fillD (List.replicate n z) xs).bind (kBSl2 h fz id n s rs)
@[simp] theorem kBSl1_eq (fz:Bool) (id n:Nat) (s:Sh) (z:D) (rs:List Nat) (xs:List (Nat×D)):kBSl1 h fz id n s z rs xs=(fillD (List.replicate n z) xs).bind (kBSl2 h fz id n s rs):=rfl
@[simp] theorem ev_buildSl (fz:Bool) (i:Nat) (s:Sh) (z:D) (n:Nat) (ps:List (Nat×Arg)):evalOp O np e h (.buildSl fz i s z n ps)=(partsD e h ps).bind (kBSl1 h fz (np+i) n s z (partsRefs e ps)):=rfl
end
@[simp] theorem isTup_int (k:IntKind) (n:Int):(D.int k n).isTup=false:=rfl
@[simp] theorem sh_int (k:IntKind) (n:Int):(D.int k n).sh=.leaf:=rfl
@[simp] theorem isTup_bool (b:Bool):(D.bool b).isTup=false:=rfl
@[simp] theorem sh_bool (b:Bool):(D.bool b).sh=.leaf:=rfl
@[simp] theorem isTup_str (s:ByteArray):(D.str s).isTup=false:=rfl
@[simp] theorem sh_str (s:ByteArray):(D.str s).sh=.leaf:=rfl
@[simp] theorem isTup_arr (n:Nat) (s:Sh) (cs:List D):(D.arr n s cs).isTup=false:=rfl
@[simp] theorem sh_arr (n:Nat) (s:Sh) (cs:List D):(D.arr n s cs).sh=.arr n s:=rfl
@[simp] theorem isTup_st (ss:List Sh) (cs:List D):(D.st ss cs).isTup=false:=rfl
@[simp] theorem sh_st (ss:List Sh) (cs:List D):(D.st ss cs).sh=.st ss:=rfl
@[simp] theorem isTup_sl (s:Sh) (cs:List D):(D.sl s cs).isTup=false:=rfl
@[simp] theorem sh_sl (s:Sh) (cs:List D):(D.sl s cs).sh=.leaf:=rfl
@[simp] theorem isTup_tup (cs:List D):(D.tup cs).isTup=true:=rfl
@[simp] theorem sh_tup (cs:List D):(D.tup cs).sh=.leaf:=rfl
@[simp] theorem isTup_ip (d:D):(D.ip d).isTup=false:=rfl
@[simp] theorem sh_ip (d:D):(D.ip d).sh=.leaf:=rfl
@[simp] theorem isTup_nilp  : D.nilp.isTup=false:=rfl
@[simp] theorem sh_nilp  : D.nilp.sh=.leaf:=rfl
@[simp] theorem isTup_nils (s:Sh):(D.nils s).isTup=false:=rfl
@[simp] theorem sh_nils (s:Sh):(D.nils s).sh=.leaf:=rfl
@[simp] theorem isTup_fn (f:Nat) (a b:List D):(D.fn f a b).isTup=false:=rfl
@[simp] theorem sh_fn (f:Nat) (a b:List D):(D.fn f a b).sh=.leaf:=rfl
@[simp] theorem isTup_nilf  : D.nilf.isTup=false:=rfl
@[simp] theorem sh_nilf  : D.nilf.sh=.leaf:=rfl
@[simp] theorem isTup_iface (n:Nat) (d:D):(D.iface n d).isTup=false:=rfl
@[simp] theorem sh_iface (n:Nat) (d:D):(D.iface n d).sh=.leaf:=rfl
@[simp] theorem isTup_nili  : D.nili.isTup=false:=rfl
@[simp] theorem sh_nili  : D.nili.sh=.leaf:=rfl
def andI (k:IntKind) (x y:Int):Int:=k.wrap (BitVec.ofInt k.bits x &&& BitVec.ofInt k.bits y).toNat
def orI (k:IntKind) (x y:Int):Int:=k.wrap (BitVec.ofInt k.bits x ||| BitVec.ofInt k.bits y).toNat
def xorI (k:IntKind) (x y:Int):Int:=k.wrap (BitVec.ofInt k.bits x ^^^ BitVec.ofInt k.bits y).toNat
section
variable (k:IntKind) (x y:Int)
@[simp] theorem binI_add:binI .add k x y=some (.int k (k.wrap (x+y))):=rfl
@[simp] theorem binI_sub:binI .sub k x y=some (.int k (k.wrap (x-y))):=rfl
@[simp] theorem binI_mul:binI .mul k x y=some (.int k (k.wrap (x*y))):=rfl
@[simp] theorem binI_quo:binI .quo k x y=if y=0 then none else some (.int k (k.wrap (x.tdiv y))):=rfl
@[simp] theorem binI_rem:binI .rem k x y=if y=0 then none else some (.int k (x.tmod y)):=rfl
@[simp] theorem binI_and:binI .and k x y=some (.int k (andI k x y)):=rfl
@[simp] theorem binI_or:binI .or k x y=some (.int k (orI k x y)):=rfl
@[simp] theorem binI_xor:binI .xor k x y=some (.int k (xorI k x y)):=rfl
@[simp] theorem binI_eql:binI .eql k x y=some (.bool (decide (x=y))):=rfl
@[simp] theorem binI_neq:binI .neq k x y=some (.bool (!decide (x=y))):=rfl
@[simp] theorem binI_lss:binI .lss k x y=some (.bool (decide (x<y))):=rfl
@[simp] theorem binI_leq:binI .leq k x y=some (.bool (decide (x≤y))):=rfl
@[simp] theorem binI_gtr:binI .gtr k x y=some (.bool (decide (y<x))):=rfl
@[simp] theorem binI_geq:binI .geq k x y=some (.bool (decide (y≤x))):=rfl
end
def sameK (o:BinOp) (k k':IntKind) (a b:Int):Option D:=if k=k' then binI o k a b else none
@[simp] theorem sameK_eq (o:BinOp) (k:IntKind) (a b:Int):sameK o k k a b=binI o k a b:=if_pos rfl
section
variable (k k':IntKind) (a b:Int)
@[simp] theorem binD_shl:binD .shl (.int k a) (.int k' b)=shiftI .shl k a b:=rfl
@[simp] theorem binD_shr:binD .shr (.int k a) (.int k' b)=shiftI .shr k a b:=rfl
@[simp] theorem binD_add:binD .add (.int k a) (.int k' b)=sameK .add k k' a b:=rfl
@[simp] theorem binD_sub:binD .sub (.int k a) (.int k' b)=sameK .sub k k' a b:=rfl
@[simp] theorem binD_mul:binD .mul (.int k a) (.int k' b)=sameK .mul k k' a b:=rfl
@[simp] theorem binD_quo:binD .quo (.int k a) (.int k' b)=sameK .quo k k' a b:=rfl
@[simp] theorem binD_rem:binD .rem (.int k a) (.int k' b)=sameK .rem k k' a b:=rfl
@[simp] theorem binD_and:binD .and (.int k a) (.int k' b)=sameK .and k k' a b:=rfl
@[simp] theorem binD_or:binD .or (.int k a) (.int k' b)=sameK .or k k' a b:=rfl
@[simp] theorem binD_xor:binD .xor (.int k a) (.int k' b)=sameK .xor k k' a b:=rfl
@[simp] theorem binD_eql:binD .eql (.int k a) (.int k' b)=sameK .eql k k' a b:=rfl
@[simp] theorem binD_neq:binD .neq (.int k a) (.int k' b)=sameK .neq k k' a b:=rfl
@[simp] theorem binD_lss:binD .lss (.int k a) (.int k' b)=sameK .lss k k' a b:=rfl
@[simp] theorem binD_leq:binD .leq (.int k a) (.int k' b)=sameK .leq k k' a b:=rfl
@[simp] theorem binD_gtr:binD .gtr (.int k a) (.int k' b)=sameK .gtr k k' a b:=rfl
@[simp] theorem binD_geq:binD .geq (.int k a) (.int k' b)=sameK .geq k k' a b:=rfl
end
@[simp] theorem binD_str (o:BinOp) (a b:ByteArray):binD o (.str a) (.str b)=(match o with | .shl | .shr=>none | o=>binS o a b):=by cases o <;> rfl
attribute [simp] callHeap
attribute [simp] Env.clear dn_skip dn_ret dn_exit dn_seq dn_block andThen unblock fin evalIns execW Ins.side Ins.on Env.arg Env.get Env.keep Env.kill Op.kill Env.putO Env.refsOf Op.temps Arg.temps temps0 temps1 temps2
 V.refs V.refss Sh.beq Sh.beqs Blk.get Blk.set Blk.elems D.get D.set D.arrOf freezeIf freeze Blk.freeze putBlk fillD partsD partsRefs optNat V.nat? unD callee once Heap.pick Heap.put putNews Blk.isHole V.ren V.rens resVs resV result params D.flat D.flats clean Env.refd Env.free
theorem ask_of {T:Nat→Option Fn} {A:Oracle} {f:Nat} {fn:Fn} (hT:T f=some fn) {ds:List D} {d:D} (hl:ds.length=fn.nparams)
 (h:((dn (den T A) 0 fn.body ⟨params 0 (ds.map .d),List.replicate fn.nblk .hole⟩).bind (fin fn 0)).bind kRet=some d):ask (den T A) f ds=some d:=by
 obtain ⟨r,h1,h2⟩:=Option.bind_eq_some_iff.1 h
 unfold ask
 rw [den_of hT (vs:=ds.map .d) (bs:=[]) (by rw [List.length_map]; exact hl) h1]
 exact h2
theorem dn_round {O:Oracle} {np:Nat} {c:Cd} {s s1:St} {r:Option (Out×St)} (h:dn O np c s=some (.normal,s1)) (h2:dn O np (.loop c) s1=r):dn O np (.loop c) s=r:=by
 rw [dn_loop,h]; exact h2
theorem dn_stop {O:Oracle} {np:Nat} {c:Cd} {s s1:St} {id:Nat} (h:dn O np c s=some (.exit id,s1)):dn O np (.loop c) s=some (.exit id,s1):=by
 rw [dn_loop,h]; rfl
theorem dn_back {O:Oracle} {np:Nat} {c:Cd} {s s1:St} (h:dn O np c s=some (.ret,s1)):dn O np (.loop c) s=some (.ret,s1):=by
 rw [dn_loop,h]; rfl
def ints (k:IntKind) (l:List Int):List D:=l.map (.int k)
@[simp] theorem ints_length (k:IntKind) (l:List Int):(ints k l).length=l.length:=by simp [ints]
@[simp] theorem ints_get (k:IntKind) (l:List Int) (i:Nat):(ints k l)[i]? = (l[i]?).map (.int k):=by simp [ints]
@[simp] theorem ints_getElem (k:IntKind) (l:List Int) (i:Nat) (h:i<(ints k l).length):(ints k l)[i]=.int k (l[i]'(by simpa using h)):=by simp [ints]
@[simp] theorem ints_take (k:IntKind) (l:List Int) (n:Nat):(ints k l).take n=ints k (l.take n):=by simp [ints]
@[simp] theorem ints_drop (k:IntKind) (l:List Int) (n:Nat):(ints k l).drop n=ints k (l.drop n):=by simp [ints]
@[simp] theorem ints_set (k:IntKind) (l:List Int) (n:Nat) (x:Int):(ints k l).set n (.int k x)=ints k (l.set n x):=by simp [ints,List.map_set]
@[simp] theorem ints_append (k:IntKind) (l m:List Int):ints k l++ints k m=ints k (l++m):=by simp [ints]
@[simp] theorem ints_replicate (k:IntKind) (n:Nat) (x:Int):List.replicate n (D.int k x)=ints k (List.replicate n x):=by simp [ints]
@[simp] theorem flats_ints (k:IntKind):∀l:List Int,D.flats (ints k l)=true
 | []=>rfl
 | x::l=>by show (D.flat (.int k x)&&D.flats (ints k l))=true; rw [flats_ints k l]; rfl
theorem ints_nil (k:IntKind):ints k []=[]:=rfl
@[simp] theorem hole_rep (n:Nat):List.replicate (n+1) Blk.hole=.hole::List.replicate n .hole:=rfl
@[simp] theorem hole_rep0:List.replicate 0 Blk.hole=[]:=rfl
theorem w64 {x:Int} (h:-9223372036854775808≤x∧x≤9223372036854775807):IntKind.i64.wrap x=x:=IntWalk.i64_in x h
theorem w8 {x:Int} (h:0≤x∧x<256):IntKind.u8.wrap x=x:=by
 simp only [IntKind.wrap,IntKind.bits,IntKind.signed]
 simp
 omega
end Pe

namespace Pe
open Go Go.ChangeShapes
inductive Ty where
 | int (k:IntKind)
 | bool
 | str
 | arr (n:Nat) (T:Ty)
 | st (Ts:List Ty)
 | sl (T:Ty)
mutual
def Ty.sh:Ty→Sh
 | .arr n T=>.arr n T.sh
 | .st Ts=>.st (Ty.shs Ts)
 | .int _ | .bool | .str | .sl _=>.leaf
def Ty.shs:List Ty→List Sh
 | []=>[]
 | T::Ts=>T.sh::Ty.shs Ts
end
mutual
def fits (P:Program):TypeId→Ty→Bool
 | t,.int k=>(match P.underlying t with | some (.int k')=>k' == k | _=>false)&&P.cellsOf t == 1
 | t,.bool=>(match P.underlying t with | some .bool=>true | _=>false)&&P.cellsOf t == 1
 | t,.str=>(match P.underlying t with | some .string=>true | _=>false)&&P.cellsOf t == 1
 | t,.arr n T=>(match P.underlying t with | some (.array m e)=>m == n&&fits P e T | _=>false)&&P.cellsOf t == n*T.sh.size
 | t,.st Ts=>(match P.underlying t with | some (.struct fs)=>fitsAll P fs.toList 0 Ts | _=>false)&&P.cellsOf t == Sh.sizes (Ty.shs Ts)
 | t,.sl T=>(match P.underlying t with | some (.slice e)=>fits P e T&&decide (0<T.sh.size) | _=>false)&&P.cellsOf t == 1
def fitsAll (P:Program):List Field→Nat→List Ty→Bool
 | [],_,[]=>true
 | f::fs,o,T::Ts=>f.offset == o&&fits P f.type T&&fitsAll P fs (o+T.sh.size) Ts
 | _,_,_=>false
end
mutual
def Ty.has:Ty→D→Prop
 | .int k,.int k' n=>k'=k∧(Lit.int k n).wf=true
 | .bool,.bool _=>True
 | .str,.str s=>s.size≤maxLen
 | .arr n T,.arr m s xs=>m=n∧s=T.sh∧xs.length=n∧∀x∈xs,T.has x
 | .st Ts,.st ss xs=>ss=Ty.shs Ts∧Ty.hasAll Ts xs
 | .sl T,.sl s xs=>s=T.sh∧xs.length≤9223372036854775807∧∀x∈xs,T.has x
 | _,_=>False
def Ty.hasAll:List Ty→List D→Prop
 | [],[]=>True
 | T::Ts,x::xs=>T.has x∧Ty.hasAll Ts xs
 | _,_=>False
end
theorem fits_size {P:Program} {t:TypeId} {T:Ty} (h:fits P t T=true):P.cellsOf t=T.sh.size:=by
 cases T <;> simp only [fits,Bool.and_eq_true,beq_iff_eq] at h <;> simp only [Ty.sh,Sh.size] <;> exact h.2
mutual
theorem has_sh:∀(T:Ty) (d:D),T.has d→d.sh=T.sh
 | .int _,d,h | .bool,d,h | .str,d,h=>by cases d <;> simp [Ty.has] at h <;> rfl
 | .arr n T,d,h=>by
  cases d <;> simp only [Ty.has] at h
  obtain ⟨rfl,rfl,-⟩:=h
  rfl
 | .st Ts,d,h=>by
  cases d <;> simp only [Ty.has] at h
  obtain ⟨rfl,-⟩:=h
  rfl
 | .sl T,d,h=>by cases d <;> simp only [Ty.has] at h; rfl
end
section
variable {H:Type} {enc:TypeId×Value→H} {P:Program} {C:Cx} {base:Nat} {sp:Nat→Bool} {held:Bool}
theorem rds_of_blocks {s:Sh} {Q:D→Prop} (hs:∀d,Q d→d.sh=s):∀(n:Nat) (cs:List Value),cs.length=n*s.size→(∀i,i<n→∃d,Q d∧RD C d ((cs.drop (i*s.size)).take s.size)) →
 ∃ds:List D,ds.length=n∧(∀d∈ds,Q d)∧RDs C s ds cs
 | 0,cs,hl,_=>⟨[],rfl,by simp,by simp only [RDs]; exact List.length_eq_zero_iff.1 (by simpa using hl)⟩
 | n+1,cs,hl,h=>by
  obtain ⟨d,hq,hd⟩:=h 0 (by omega)
  obtain ⟨ds,h1,h2,h3⟩:=rds_of_blocks hs n (cs.drop s.size) (by rw [List.length_drop,hl,Nat.succ_mul]; omega) (fun i hi=>by
   obtain ⟨d,hq,hd⟩:=h (i+1) (by omega)
   refine ⟨d,hq,?_⟩
   rw [List.drop_drop,show s.size+i*s.size=(i+1)*s.size by rw [Nat.succ_mul]; omega]
   exact hd)
  refine ⟨d::ds,by simp [h1],by simpa using ⟨hq,h2⟩,?_⟩
  simp only [RDs]
  rw [Nat.zero_mul,List.drop_zero] at hd
  exact ⟨cs.take s.size,cs.drop s.size,(List.take_append_drop _ _).symm,hs d hq,hd,h3⟩
theorem cell_open {w:World} {a:Addr} {v:Value} (h:w.cell? a=some v):a.spot=none∧∃c el fz,w.heap[a.block]? = some (.cells c el fz)∧c[a.off]? = some v:=by
 unfold World.cell? at h
 split at h
 ·rename_i c el fz hc
  split at h
  ·cases h
  ·rename_i hs
   exact ⟨by simpa using hs,c,el,fz,hc,h⟩
 ·cases h
theorem cells_at {w:World} {a:Addr} {n:Nat} {cs:List Value} (hn:0<n) (h:w.cells? base a n=some cs):a.spot=none∧cs.length=n∧CellsAt w a.block a.off cs:=by
 obtain ⟨h1,h2,h3⟩:=World.cells?_some h
 have h0:=h3 0 hn
 rw [List.getElem?_eq_getElem (by omega),Addr.add,if_pos rfl] at h0
 obtain ⟨hsp,c,el,fz,hc,_⟩:=cell_open h0
 refine ⟨hsp,h2,c,el,fz,hc,fun j u hu=>?_⟩
 have hj:j<n:=by
  have:=(List.getElem?_eq_some_iff.1 hu).1
  omega
 have h4:=h3 j hj
 rw [hu] at h4
 unfold World.cell? at h4
 have hb:(a.add j).block=a.block∧(a.add j).off=a.off+j∧(a.add j).spot=none:=by
  unfold Addr.add
  split
  ·rename_i h; subst h; exact ⟨rfl,rfl,hsp⟩
  ·exact ⟨rfl,rfl,rfl⟩
 rw [hb.1,hc,hb.2.1,hb.2.2] at h4
 simpa using h4
theorem rds_of_cells {s:Sh} {Q:D→Prop} (hs:∀d,Q d→d.sh=s) (hk:0<s.size) {b:Nat}:∀(n o:Nat),0<n→(∀i,i<n→∃d cs,Q d∧RD C d cs∧cs.length=s.size∧CellsAt C.w b (o+i*s.size) cs) →
 ∃(ds:List D) (us:List Value),ds.length=n∧(∀d∈ds,Q d)∧RDs C s ds us∧us.length=n*s.size∧CellsAt C.w b o us
 | 0,o,h0,h=>absurd h0 (by omega)
 | n+1,o,_,h=>by
  obtain ⟨d,cs,hq,hd,hl,hc⟩:=h 0 (by omega)
  rw [Nat.zero_mul,Nat.add_zero] at hc
  rcases Nat.eq_zero_or_pos n with hn | hn
  ·subst hn
   exact ⟨[d],cs,rfl,by simpa using hq,by simp only [RDs]; exact ⟨cs,[],by simp,hs d hq,hd,rfl⟩,by omega,hc⟩
  ·obtain ⟨ds,us,h1,h2,h3,h4,h5⟩:=rds_of_cells hs hk n (o+s.size) hn (fun i hi=>by
    obtain ⟨d,cs,hq,hd,hl,hc⟩:=h (i+1) (by omega)
    refine ⟨d,cs,hq,hd,hl,?_⟩
    rw [show o+s.size+i*s.size=o+(i+1)*s.size by rw [Nat.succ_mul]; omega]
    exact hc)
   refine ⟨d::ds,cs++us,by simp [h1],by simpa using ⟨hq,h2⟩,by simp only [RDs]; exact ⟨cs,us,rfl,hs d hq,hd,h3⟩,by rw [List.length_append,hl,h4,Nat.succ_mul]; omega,?_⟩
   obtain ⟨a,el,fz,ha,hc⟩:=hc
   obtain ⟨a',el',fz',ha',hc'⟩:=h5
   obtain ⟨rfl,rfl,rfl⟩:a=a'∧el=el'∧fz=fz':=by rw [ha] at ha'; simpa using ha'
   refine ⟨a,el,fz,ha,fun j u hu=>?_⟩
   by_cases hj:j<cs.length
   ·rw [List.getElem?_append_left hj] at hu; exact hc j u hu
   ·rw [List.getElem?_append_right (by omega)] at hu
    have:=hc' _ u hu
    rwa [show o+s.size+(j-cs.length)=o+j by omega] at this
mutual
theorem read_sound (hI:∀b,b<C.w.heap.size→C.I b):∀(T:Ty) (t:TypeId) (fuel:Nat) (cs:List Value) (x:DataW H×List MemPlace),fits P t T=true→DataW.trod enc P C.w base sp held fuel t cs=some x→∃d,T.has d∧RD C d cs
 | .int k,t,fuel,cs,x,hf,h=>by
  simp only [fits,Bool.and_eq_true] at hf
  replace hf:=hf.1
  split at hf <;> simp at hf
  rename_i k' hu
  subst hf
  obtain ⟨n,rfl,-,hw⟩:=DataW.trod_int hu h
  exact ⟨.int k' n,⟨rfl,hw⟩,rfl⟩
 | .bool,t,fuel,cs,x,hf,h=>by
  simp only [fits,Bool.and_eq_true] at hf
  replace hf:=hf.1
  split at hf <;> simp at hf
  rename_i hu
  obtain ⟨b,rfl,-⟩:=DataW.trod_bool hu h
  exact ⟨.bool b,trivial,rfl⟩
 | .str,t,fuel,cs,x,hf,h=>by
  simp only [fits,Bool.and_eq_true] at hf
  replace hf:=hf.1
  split at hf <;> simp at hf
  rename_i hu
  obtain ⟨s,rfl,-,hw⟩:=DataW.trod_string hu h
  exact ⟨.str s,hw,rfl⟩
 | .arr n T,t,fuel,cs,x,hf,h=>by
  have hsz:=fits_size hf
  simp only [fits,Bool.and_eq_true] at hf
  replace hf:=hf.1
  split at hf <;> simp at hf
  rename_i m e hu
  obtain ⟨rfl,hfe⟩:=hf
  have hse:=fits_size hfe
  obtain ⟨xs,k,-,-,hl,hxl,hx⟩:=DataW.trod_array hu h
  obtain ⟨ds,h1,h2,h3⟩:=rds_of_blocks (C:=C) (s:=T.sh) (Q:=T.has) (has_sh T) m cs (by rw [hl,hsz]; rfl) (fun i hi=>by
   have h4:=hx i hi
   rw [List.getElem?_eq_getElem (by omega),hse] at h4
   exact read_sound hI T e k _ _ hfe h4)
  exact ⟨.arr m T.sh ds,⟨rfl,rfl,h1,h2⟩,by simp only [RD]; exact ⟨h1,h3⟩⟩
 | .st Ts,t,fuel,cs,x,hf,h=>by
  have hsz:=fits_size hf
  simp only [fits,Bool.and_eq_true] at hf
  replace hf:=hf.1
  split at hf
  case h_2=>cases hf
  rename_i fs hu
  obtain ⟨xs,k,-,-,hl,hxl,hx⟩:=DataW.trod_struct hu h
  obtain ⟨ds,h1,h2⟩:=readAll_sound hI Ts fs.toList 0 k cs hf (by rw [hl,hsz]; simp [Ty.sh,Sh.size]) (fun f hfm=>by
   obtain ⟨i,hi,rfl⟩:=List.getElem_of_mem hfm
   have h4:=hx i fs.toList[i] (by rw [←Array.getElem?_toList]; exact List.getElem?_eq_getElem hi)
   rw [List.getElem?_eq_getElem (by rw [hxl,←Array.length_toList]; exact hi)] at h4
   exact ⟨_,h4⟩)
  exact ⟨.st (Ty.shs Ts) ds,⟨rfl,h1⟩,by simp only [RD]; exact h2⟩
 | .sl T,t,fuel,cs,x,hf,h=>by
  simp only [fits,Bool.and_eq_true] at hf
  replace hf:=hf.1
  split at hf <;> simp at hf
  rename_i e hu
  obtain ⟨hfe,hk⟩:=hf
  have hse:=fits_size hfe
  rcases DataW.trod_slice hu h with ⟨rfl,-⟩ | ⟨a,len,cap,elems,rest,n,-,rfl,-,hb,hle,hcap,hel,hx,-⟩
  ·exact ⟨.sl T.sh [],⟨rfl,by simp,by simp⟩,by simp only [RD]; exact ⟨none,0,rfl,Nat.le_refl _,.inl trivial⟩⟩
  ·rcases Nat.eq_zero_or_pos len with h0 | h0
   ·subst h0
    exact ⟨.sl T.sh [],⟨rfl,by simp,by simp⟩,by simp only [RD]; exact ⟨_,cap,rfl,hle,.inl trivial⟩⟩
   ·have hcell:∀i,i<len→∃d cs,T.has d∧RD C d cs∧cs.length=T.sh.size∧(a.add (i*T.sh.size)).spot=none∧CellsAt C.w a.block (a.off+i*T.sh.size) cs:=fun i hi=>by
     have h4:=hx i hi
     rw [List.getElem?_eq_getElem (by omega),hse] at h4
     obtain ⟨cs,hc,hy⟩:=Option.bind_eq_some_iff.1 h4
     obtain ⟨h5,h6,h7⟩:=cells_at hk hc
     obtain ⟨d,hd1,hd2⟩:=read_sound hI T e n _ _ hfe hy
     have hbl:(a.add (i*T.sh.size)).block=a.block∧(a.add (i*T.sh.size)).off=a.off+i*T.sh.size:=by
      unfold Addr.add
      split
      ·rename_i h; rw [h]; exact ⟨rfl,rfl⟩
      ·exact ⟨rfl,rfl⟩
     rw [hbl.1,hbl.2] at h7
     exact ⟨d,cs,hd1,hd2,h6,h5,h7⟩
    obtain ⟨ds,us,h1,h2,h3,h4,h5⟩:=rds_of_cells (C:=C) (s:=T.sh) (Q:=T.has) (has_sh T) hk len a.off h0 (fun i hi=>by
     obtain ⟨d,cs,g1,g2,g3,-,g4⟩:=hcell i hi
     exact ⟨d,cs,g1,g2,g3,g4⟩)
    have hsp:a.spot=none:=by
     obtain ⟨_,_,_,_,_,g,_⟩:=hcell 0 h0
     rw [Nat.zero_mul,Addr.add,if_pos rfl] at g
     exact g
    have hlt:a.block<C.w.heap.size:=by
     obtain ⟨c,el,fz,hc,-⟩:=h5
     exact (Array.getElem?_eq_some_iff.1 hc).1
    refine ⟨.sl T.sh ds,⟨rfl,by rw [h1]; unfold maxLen at hcap; omega,h2⟩,?_⟩
    simp only [RD]
    refine ⟨some a,cap,by rw [h1],by omega,.inr ⟨a.block,a.off,us,?_,hI _ hlt,h3,h5⟩⟩
    cases a
    simp only at hsp
    rw [hsp]
theorem readAll_sound (hI:∀b,b<C.w.heap.size→C.I b):∀(Ts:List Ty) (fs:List Field) (o fuel:Nat) (cs:List Value),fitsAll P fs o Ts=true→cs.length=o+Sh.sizes (Ty.shs Ts) →
 (∀f∈fs,∃x,DataW.trod enc P C.w base sp held fuel f.type ((cs.drop f.offset).take (P.cellsOf f.type))=some x)→∃ds,Ty.hasAll Ts ds∧RDst C (Ty.shs Ts) ds (cs.drop o)
 | [],[],o,fuel,cs,_,hl,_=>⟨[],trivial,by simp only [Ty.shs,RDst]; rw [List.drop_eq_nil_iff]; simp [Ty.shs,Sh.sizes] at hl; omega⟩
 | [],_::_,o,fuel,cs,hf,_,_=>by simp [fitsAll] at hf
 | _::_,[],o,fuel,cs,hf,_,_=>by simp [fitsAll] at hf
 | T::Ts,f::fs,o,fuel,cs,hf,hl,h=>by
  simp only [fitsAll,Bool.and_eq_true,beq_iff_eq] at hf
  obtain ⟨⟨ho,hft⟩,hfs⟩:=hf
  have hse:=fits_size hft
  simp only [Ty.shs,Sh.sizes] at hl
  obtain ⟨x,hx⟩:=h f (by simp)
  obtain ⟨d,hd1,hd2⟩:=read_sound hI T f.type fuel _ x hft hx
  obtain ⟨ds,h1,h2⟩:=readAll_sound hI Ts fs (o+T.sh.size) fuel cs hfs (by omega) (fun g hg=>h g (List.mem_cons_of_mem _ hg))
  refine ⟨d::ds,⟨hd1,h1⟩,?_⟩
  simp only [Ty.shs,RDst]
  rw [hse,ho] at hd2
  refine ⟨_,_,?_,has_sh T d hd1,hd2,h2⟩
  rw [←List.drop_drop,List.take_append_drop]
end
theorem has_agg {W:World} {r:Reach} {T:Ty} {t:TypeId} {v:Value} {d:D} (hf:fits P t T=true) (hd:T.has d) (h:Value.okWide P W r base t v):isAgg v=d.isAgg:=by
 unfold Value.okWide at h
 cases T with
 | int k=>
  simp only [fits,Bool.and_eq_true] at hf
  replace hf:=hf.1
  split at hf <;> simp at hf
  rename_i k' hu
  rw [hu] at h
  cases d <;> simp only [Ty.has] at hd
  cases v <;> first | rfl | (simp [Cell.okWide,Cell.ok,hu] at h; done)
 | bool=>
  simp only [fits,Bool.and_eq_true] at hf
  replace hf:=hf.1
  split at hf <;> simp at hf
  rename_i hu
  rw [hu] at h
  cases d <;> simp only [Ty.has] at hd
  cases v <;> first | rfl | (simp [Cell.okWide,Cell.ok,hu] at h; done)
 | str=>
  simp only [fits,Bool.and_eq_true] at hf
  replace hf:=hf.1
  split at hf <;> simp at hf
  rename_i hu
  rw [hu] at h
  cases d <;> simp only [Ty.has] at hd
  cases v <;> first | rfl | (simp [Cell.okWide,Cell.ok,hu] at h; done)
 | sl T=>
  simp only [fits,Bool.and_eq_true] at hf
  replace hf:=hf.1
  split at hf <;> simp at hf
  rename_i e hu
  rw [hu] at h
  cases d <;> simp only [Ty.has] at hd
  cases v <;> first | rfl | (simp [Cell.okWide,Cell.ok,hu] at h; done)
 | arr n T=>
  simp only [fits,Bool.and_eq_true] at hf
  replace hf:=hf.1
  split at hf
  case h_2=>cases hf
  rename_i hu
  rw [hu] at h
  obtain ⟨cs,rfl,-⟩:=h
  cases d <;> simp only [Ty.has] at hd
  rfl
 | st Ts=>
  simp only [fits,Bool.and_eq_true] at hf
  replace hf:=hf.1
  split at hf
  case h_2=>cases hf
  rename_i hu
  rw [hu] at h
  obtain ⟨cs,rfl,-⟩:=h
  cases d <;> simp only [Ty.has] at hd
  rfl
def fitsL (P:Program):List TypeId→List Ty→Bool
 | [],[]=>true
 | t::ts,T::Ts=>fits P t T&&P.readableRec t&&decide (t<P.types.size)&&fitsL P ts Ts
 | _,_=>false
theorem read_args (hI:∀b,b<C.w.heap.size→C.I b) {r:Reach} {b0:Nat}:∀(ts:List TypeId) (Ts:List Ty) (vs:List Value) (ds:List (DataW H)) (ps:List MemPlace),fitsL P ts Ts=true→DataW.TrodAll enc P C.w base sp held ts vs ds ps →
 (∀(j:Nat) t v,ts[j]? = some t→vs[j]? = some v→Value.okWide P C.w r b0 t v)→∃xs,Ty.hasAll Ts xs∧RVs C xs vs
 | [],[],vs,ds,ps,_,h,_=>by
  obtain ⟨rfl,-,-⟩:=trodAll_nil h
  exact ⟨[],trivial,by simp only [RVs]⟩
 | [],_::_,vs,ds,ps,hf,_,_=>by simp [fitsL] at hf
 | _::_,[],vs,ds,ps,hf,_,_=>by simp [fitsL] at hf
 | t::ts,T::Ts,vs,ds,ps,hf,h,hv=>by
  simp only [fitsL,Bool.and_eq_true] at hf
  obtain ⟨⟨⟨hf1,-⟩,-⟩,hf2⟩:=hf
  obtain ⟨v,vs',d,ds',p,q,rfl,rfl,rfl,⟨fuel,hd⟩,hr⟩:=trodAll_cons h
  obtain ⟨x,hx1,hx2⟩:=read_sound hI T t fuel _ _ hf1 hd
  obtain ⟨xs,h1,h2⟩:=read_args hI ts Ts vs' ds' q hf2 hr (fun j t' v' hj hv'=>hv (j+1) t' v' (by simpa using hj) (by simpa using hv'))
  refine ⟨x::xs,⟨hx1,h1⟩,?_⟩
  simp only [RVs]
  exact ⟨v,vs',rfl,has_agg hf1 hx1 (hv 0 t v rfl rfl),hx2,h2⟩
theorem args_stay {W W':World} (hl:laidOutB P=true) (hb:RowKit.Below W.heap.size W W'):∀(ts:List TypeId) (Ts:List Ty) (vs:List Value) (ds:List (DataW H)) (ps:List MemPlace),fitsL P ts Ts=true→DataW.TrodAll enc P W 0 (fun _=>true) true ts vs ds ps →
 (∀x∈ps,x.block<W.heap.size)→DataW.TrodAll enc P W' 0 (fun b=>decide (b<W.heap.size)) true ts vs ds ps
 | [],[],vs,ds,ps,_,h,_=>by
  obtain ⟨rfl,rfl,rfl⟩:=trodAll_nil h
  rfl
 | [],_::_,vs,ds,ps,hf,_,_=>by simp [fitsL] at hf
 | _::_,[],vs,ds,ps,hf,_,_=>by simp [fitsL] at hf
 | t::ts,T::Ts,vs,ds,ps,hf,h,hp=>by
  simp only [fitsL,Bool.and_eq_true,decide_eq_true_eq] at hf
  obtain ⟨⟨⟨-,hf1⟩,hf3⟩,hf2⟩:=hf
  obtain ⟨v,vs',d,ds',p,q,rfl,rfl,rfl,hd,hr⟩:=trodAll_cons h
  exact ⟨p,q,RowKit.Below.trod hl hf1 hf3 hd hb (fun x hx=>hp x (List.mem_append_left _ hx)),args_stay hl hb ts Ts vs' ds' q hf2 hr (fun x hx=>hp x (List.mem_append_right _ hx)),rfl⟩
def boolOnly (P:Program) (f:Func):Bool:=match f.resultTypes.toList with
 | [t]=>match P.underlying t with
  | some .bool=>true
  | _=>false
 | _=>false
theorem boolOnly_open {f:Func} (h:boolOnly P f=true):∃tb,f.resultTypes = #[tb]∧P.underlying tb=some .bool:=by
 unfold boolOnly at h
 split at h
 ·rename_i t ht
  split at h
  ·rename_i hu
   exact ⟨t,by rw [←Array.toList_inj,ht],hu⟩
  ·cases h
 ·cases h
theorem post_true {f:Func} {s:ChangeSpec} {apart fresh:Bool} {W W':World} {args:Array Value} {ds gs:List (DataW H)} {before:List MemPlace} {Ts:List Ty}
 (hW:DataW.Whole enc P f.params.toList s.vars apart W args.toList ds gs before) (hvars:s.vars=[]) (hs:s.fn H (ds++gs) = { results:=[.lit (.bool true)],args:=ds })
 (hr:boolOnly P f=true) (hl:laidOutB P=true) (hf:fitsL P f.params.toList Ts=true) (hb:RowKit.Below W.heap.size W W') :
 s.post enc P f apart fresh false false W args (.bool true) W':=by
 have hW0:=hW
 obtain ⟨p,q,hA,hV,rfl,hz,hn⟩:=hW
 have hlt:=DataW.TrodAll.lt hA
 obtain ⟨tb,hr,htb⟩:=boolOnly_open hr
 rw [hvars] at hV
 obtain ⟨rfl,rfl⟩:=trodVars_none hV
 refine ⟨ds,[],_,[],p,[],hW0,?_,?_,?_,hb.frame _,fun h=>by cases h⟩
 ·rw [hs,hr]
  exact ⟨[],[],⟨1,by simp [DataW.trod,Value.cells,htb]⟩,rfl,rfl⟩
 ·rw [hs]
  exact args_stay hl hb _ _ _ _ _ hf hA hlt
 ·rw [hs,hvars]
  rfl
end
theorem calls_true {P:Program} {num:Nat→Nat} {O:Oracle} (hO:CallOk P num O) {F:Nat} {xs:List D} (h:ask O F xs=some (.bool true)) {W:World} {vs:List Value} (hv:RVs ⟨W,fun b=>b<W.heap.size,num⟩ xs vs) :
 Calls P (num F) vs.toArray W fun e W'=>e=.returned (.bool true)∧RowKit.Below W.heap.size W W':=by
 unfold ask at h
 obtain ⟨⟨v,bs,nb⟩,h1,h2⟩:=Option.bind_eq_some_iff.1 h
 obtain ⟨hl,-,hcall⟩:=hO F (xs.map .d) [] _ h1 ⟨W,fun b=>b<W.heap.size,num⟩ (fun _=>none) vs rfl ⟨by simp,by simp⟩ (fun b hb=>hb) (RXs_of_RVs hv)
 refine Calls.mono hcall ?_
 rintro e w' ⟨u,C2,φ2,rfl,rfl,st,-,hu⟩
 have hno:∀b,¬ OwnB (fun _=>none) [] b:=by rintro b ⟨i,B,o,hB,_⟩; simp at hB
 have hbs:bs=[]:=List.length_eq_zero_iff.1 hl
 subst hbs
 have hx:RV _ (.bool true) u:=toD_sound st.hr v _ u h2 hu
 refine ⟨?_,st.os,st.tape,st.out,st.size,fun k hk=>st.kept k hk (hno k)⟩
 simp only [RV,RD,D.isAgg] at hx
 obtain ⟨h3,h4⟩:=hx
 cases u <;> simp [Value.cells,isAgg] at h3 h4
 rw [h4]
end Pe

/-
 The numbers of the functions.
-/
namespace Pe
abbrev Lw (d s:Nat):Ins:=⟨some d,.mv (.t s),none,[]⟩
abbrev Ll (d:Nat) (o:Op):Ins:=⟨some d,o,none,[]⟩
abbrev Ls (o:Op):Ins:=⟨none,o,none,[]⟩
abbrev Lx (d s g:Nat) (b:Bool):Ins:=⟨some d,.mv (.t s),some (g,b),[]⟩
abbrev Lg (d:Nat) (o:Op) (g:Nat) (b:Bool):Ins:=⟨some d,o,some (g,b),[]⟩
abbrev F25:Nat:=47
abbrev F3b:Nat:=59
abbrev Fj:Nat:=61
abbrev F37:Nat:=63
abbrev F6:Nat:=64
abbrev F26:Nat:=77
abbrev F27:Nat:=79
abbrev F29:Nat:=82
abbrev F28:Nat:=89
abbrev Fi:Nat:=91
abbrev Fc:Nat:=127
abbrev F3a:Nat:=132
abbrev Fg:Nat:=133
abbrev F36:Nat:=136
abbrev F5:Nat:=137
abbrev F31:Nat:=244
abbrev Ff:Nat:=245
abbrev F39:Nat:=246
abbrev F32:Nat:=247
abbrev F33:Nat:=248
abbrev Fe:Nat:=249
abbrev F38:Nat:=250
abbrev F35:Nat:=251
abbrev F30:Nat:=252
abbrev F4:Nat:=253
abbrev F2z:Nat:=254
abbrev F34:Nat:=255
abbrev F48:Nat:=308
abbrev F4e:Nat:=309
abbrev F4i:Nat:=310
abbrev Fr:Nat:=311
abbrev F8:Nat:=312
abbrev Fx:Nat:=313
abbrev Fb:Nat:=314
abbrev F1s:Nat:=315
abbrev F4l:Nat:=316
abbrev Fa:Nat:=317
abbrev F1n:Nat:=318
abbrev F1c:Nat:=319
abbrev F11:Nat:=320
abbrev F23:Nat:=321
abbrev Ft:Nat:=327
abbrev F3f:Nat:=330
abbrev F3g:Nat:=331
abbrev F3t:Nat:=333
abbrev F1u:Nat:=336
abbrev F1k:Nat:=341
abbrev F1j:Nat:=342
abbrev F15:Nat:=344
abbrev F1i:Nat:=347
abbrev F18:Nat:=348
abbrev F3x:Nat:=349
abbrev F3l:Nat:=350
abbrev F3n:Nat:=351
abbrev F19:Nat:=357
abbrev F1g:Nat:=360
abbrev F1e:Nat:=363
abbrev F1q:Nat:=364
abbrev F1z:Nat:=370
abbrev Fu:Nat:=373
abbrev F12:Nat:=378
abbrev F3w:Nat:=386
abbrev F24:Nat:=387
abbrev F20:Nat:=388
abbrev F4c:Nat:=392
abbrev F9:Nat:=394
abbrev F3p:Nat:=395
abbrev F1x:Nat:=400
abbrev F3e:Nat:=408
abbrev F47:Nat:=409
abbrev F49:Nat:=410
abbrev F4g:Nat:=411
abbrev F17:Nat:=412
abbrev Fm:Nat:=413
abbrev F22:Nat:=414
abbrev Fz:Nat:=415
abbrev F3c:Nat:=416
abbrev F3u:Nat:=417
abbrev F3m:Nat:=418
abbrev F1o:Nat:=419
abbrev F1h:Nat:=420
abbrev F1w:Nat:=421
abbrev F45:Nat:=422
abbrev F7:Nat:=423
abbrev F3s:Nat:=445
abbrev F3q:Nat:=448
abbrev F41:Nat:=450
abbrev F3i:Nat:=451
abbrev F1b:Nat:=453
abbrev F3k:Nat:=454
abbrev F3r:Nat:=455
abbrev F42:Nat:=456
abbrev F3z:Nat:=457
abbrev F1d:Nat:=458
abbrev F1l:Nat:=469
abbrev F3v:Nat:=471
abbrev F43:Nat:=475
abbrev F1v:Nat:=477
abbrev F3h:Nat:=501
abbrev F4f:Nat:=504
abbrev Fy:Nat:=505
abbrev F4b:Nat:=507
abbrev F10:Nat:=508
abbrev Fw:Nat:=509
abbrev F4h:Nat:=510
abbrev F4j:Nat:=511
abbrev F1y:Nat:=521
abbrev Fh:Nat:=530
abbrev F1m:Nat:=531
abbrev F3o:Nat:=532
abbrev F13:Nat:=534
abbrev Fs:Nat:=554
abbrev F4k:Nat:=555
abbrev F3y:Nat:=556
abbrev F16:Nat:=557
abbrev F1t:Nat:=558
abbrev Fv:Nat:=559
abbrev F1a:Nat:=566
abbrev F1r:Nat:=567
abbrev F1p:Nat:=568
abbrev F2j:Nat:=569
abbrev F1f:Nat:=570
abbrev Fq:Nat:=571
abbrev F21:Nat:=576
abbrev F44:Nat:=589
abbrev F2g:Nat:=590
abbrev Fo:Nat:=591
abbrev F3d:Nat:=595
abbrev F40:Nat:=596
abbrev F46:Nat:=607
abbrev F4a:Nat:=608
abbrev F4d:Nat:=609
abbrev Fk:Nat:=619
abbrev F14:Nat:=620
abbrev F2v:Nat:=644
abbrev F2b:Nat:=645
abbrev F0:Nat:=646
abbrev F1:Nat:=647
abbrev F2i:Nat:=653
abbrev F2f:Nat:=658
abbrev Fl:Nat:=659
abbrev F2n:Nat:=694
abbrev F2m:Nat:=695
abbrev F2k:Nat:=696
abbrev F2l:Nat:=697
abbrev F2w:Nat:=698
abbrev F2s:Nat:=699
abbrev F2u:Nat:=700
abbrev F2t:Nat:=701
abbrev F2c:Nat:=702
abbrev F2d:Nat:=703
abbrev F2:Nat:=704
abbrev F3:Nat:=705
abbrev F2h:Nat:=717
abbrev F2x:Nat:=762
abbrev F2q:Nat:=763
abbrev F2y:Nat:=764
abbrev F2o:Nat:=765
abbrev F2p:Nat:=766
abbrev F2r:Nat:=798
abbrev F2a:Nat:=1078
abbrev F3j:Nat:=1443
abbrev F2e:Nat:=1597
def z64:List D:=List.replicate 64 (.int .u8 0)
def z8:List D:=List.replicate 8 (.arr 64 .leaf z64)
end Pe

/-
 Functions of the program in the small form,printed by a program.
-/
namespace Pe
open Go
def Z1y_L0:Cd:=
 .seq (.seq (.region [Lw 6 3,
 Ll 7 (.bin .gtr (.t 6) (.c (.int .i64 0))),
 Lw 8 7,
 Lx 9 0 8 true,
 Lx 10 3 8 true,
 Lg 11 (.bin .sub (.t 10) (.c (.int .i64 1))) 8 true,
 Lg 12 (.idxA none .leaf (.t 9) (.t 11)) 8 true,
 Lg 13 (.load .leaf (.t 12)) 8 true,
 Lg 14 (.bin .eql (.t 13) (.c (.int .i64 0))) 8 true,
 Ll 15 (.pick (.t 8) (.t 14) (.c (.bool false)))] [0,3,15])
 (.cond (.t 15)
 (.skip)
 (.exit 0)))
 (.block 1 (.region [Lw 16 3,
 Ll 17 (.bin .sub (.t 16) (.c (.int .i64 1))),
 Lw 3 17] [0,3]))
def Z1y_B:Cd:=
 .seq (.region [Ll 2 (.mv (.c (.sl .leaf [])))] [0])
 (.seq (.region [Lw 4 0,
 Ll 5 (.len false (.t 4)),
 Lw 3 5] [0,3])
 (.seq (.block 0 (.loop (Z1y_L0)))
 (.seq (.region [Lw 18 0,
 Lw 19 3,
 Lw 20 3,
 Ll 21 (.cut none .leaf (.t 18) none (some (.t 19)) (some (.t 20))),
 Lw 2 21] [2])
 (.ret))))
def Z1y:Fn:=
 { nparams:=1,nblk:=0,results:=[.tmp 2],body:=Z1y_B }
def Z1s_L0:Cd:=
 .seq (.region [Ll 8 (.bin .lss (.t 7) (.c (.int .i64 64)))] [3,6,7,8])
 (.seq (.cond (.t 8)
 (.skip)
 (.exit 0))
 (.seq (.block 1 (.seq (.region [Ll 9 (.idx (some 64) .leaf (.t 6) (.t 7)),
 Lw 5 9] [3,5,6,7])
 (.region [Lw 10 3,
 Lw 11 5,
 Ll 12 (.conv .i64 (.t 11)),
 Ll 13 (.buildSl false 2 .leaf (.int .i64 0) 1 [(0,(.t 12))]),
 Ll 14 (.append .leaf 3 8 (.t 10) (.t 13)),
 Lw 3 14] [3,6,7])))
 (.region [Ll 15 (.bin .add (.t 7) (.c (.int .i64 1))),
 Lw 7 15] [3,6,7])))
def Z1s_B:Cd:=
 .seq (.region [Ll 1 (.box false 0 (.t 0)),
 Ll 2 (.mv (.c (.sl .leaf [])))] [1])
 (.seq (.region [Ll 3 (.nilOwn 1 .leaf)] [1,3])
 (.seq (.seq (.region [Ll 6 (.load (.arr 64 .leaf) (.t 1)),
 Ll 7 (.mv (.c (.int .i64 0)))] [3,6,7])
 (.block 0 (.loop (Z1s_L0))))
 (.seq (.region [Lw 16 3,
 Ll 17 (.call .data [] (.f F1y) [(.t 16)]),
 Lw 2 17] [2])
 (.ret))))
def Z1s:Fn:=
 { nparams:=1,nblk:=4,results:=[.tmp 2],body:=Z1s_B }
def Z1u_B:Cd:=
 .seq (.region [Ll 2 (.mv (.c (.int .i64 0)))] [0])
 (.seq (.region [Lw 3 0,
 Ll 4 (.len false (.t 3)),
 Ll 5 (.bin .sub (.t 4) (.c (.int .i64 1))),
 Lw 2 5] [2])
 (.ret))
def Z1u:Fn:=
 { nparams:=1,nblk:=0,results:=[.tmp 2],body:=Z1u_B }
def Z15_B:Cd:=
 .seq (.region [Ll 2 (.mv (.c (.bool false)))] [0])
 (.seq (.region [Lw 3 0,
 Ll 4 (.bin .eql (.t 3) (.c (.int .i64 2))),
 Lw 5 4,
 Lx 6 0 5 false,
 Lg 7 (.bin .eql (.t 6) (.c (.int .i64 3))) 5 false,
 Ll 8 (.pick (.t 5) (.c (.bool true)) (.t 7)),
 Lw 9 8,
 Lx 10 0 9 false,
 Lg 11 (.bin .eql (.t 10) (.c (.int .i64 5))) 9 false,
 Ll 12 (.pick (.t 9) (.c (.bool true)) (.t 11)),
 Lw 13 12,
 Lx 14 0 13 false,
 Lg 15 (.bin .eql (.t 14) (.c (.int .i64 7))) 13 false,
 Ll 16 (.pick (.t 13) (.c (.bool true)) (.t 15)),
 Lw 2 16] [2])
 (.ret))
def Z15:Fn:=
 { nparams:=1,nblk:=0,results:=[.tmp 2],body:=Z15_B }
def Zo_B:Cd:=
 .seq (.region [Ll 2 (.box false 0 (.t 0)),
 Ll 3 (.mv (.c (.bool false)))] [1,2])
 (.seq (.region [Ll 4 (.load .leaf (.t 1)),
 Ll 5 (.load (.arr 64 .leaf) (.t 2)),
 Ll 6 (.call .flat [] (.t 4) [(.t 5)]),
 Ll 7 (.un .not (.t 6)),
 Lw 3 7] [3])
 (.ret))
def Zo:Fn:=
 { nparams:=2,nblk:=1,results:=[.tmp 3],body:=Zo_B }
def Zm_B:Cd:=
 .seq (.region [Ll 3 (.box false 0 (.t 1)),
 Ll 4 (.mv (.c (.bool false)))] [0,3])
 (.seq (.region [Lw 5 0,
 Ll 6 (.mkFn Fo [] [(.t 3)]),
 Ll 7 (.call .flat [] (.f F2g) [(.t 5),(.t 6)]),
 Ll 8 (.un .not (.t 7)),
 Lw 4 8] [4])
 (.ret))
def Zm:Fn:=
 { nparams:=2,nblk:=1,results:=[.tmp 4],body:=Zm_B }
def Zl_B:Cd:=
 .seq (.region [Ll 3 (.mv (.c (.bool false)))] [0,1])
 (.seq (.region [Ll 4 (.load .leaf (.t 1)),
 Lw 5 0,
 Ll 6 (.call .flat [] (.t 4) [(.t 5)]),
 Ll 7 (.un .not (.t 6)),
 Lw 3 7] [3])
 (.ret))
def Zl:Fn:=
 { nparams:=2,nblk:=0,results:=[.tmp 3],body:=Zl_B }
def Zk_B:Cd:=
 .seq (.region [Ll 3 (.box false 0 (.t 1)),
 Ll 4 (.mv (.c (.bool false)))] [0,3])
 (.seq (.region [Lw 5 0,
 Ll 6 (.mkFn Fl [] [(.t 3)]),
 Ll 7 (.call .flat [] (.f F2f) [(.t 5),(.t 6)]),
 Ll 8 (.un .not (.t 7)),
 Lw 4 8] [4])
 (.ret))
def Zk:Fn:=
 { nparams:=2,nblk:=1,results:=[.tmp 4],body:=Zk_B }
def Z14_B:Cd:=
 .seq (.region [Ll 3 (.mv (.c (.bool false)))] [0,1])
 (.seq (.region [Lw 4 0,
 Ll 5 (.conv .i64 (.t 4)),
 Ll 6 (.load .leaf (.t 1)),
 Ll 7 (.bin .lss (.t 5) (.t 6)),
 Lw 3 7] [3])
 (.ret))
def Z14:Fn:=
 { nparams:=2,nblk:=0,results:=[.tmp 3],body:=Z14_B }
def Z13_B:Cd:=
 .seq (.region [Ll 2 (.box false 0 (.t 0)),
 Ll 3 (.box false 1 (.t 1)),
 Ll 4 (.mv (.c (.bool false)))] [2,3])
 (.seq (.region [Ll 5 (.cut (some 64) .leaf (.t 3) none none none),
 Ll 6 (.mkFn F14 [] [(.t 2)]),
 Ll 7 (.call .flat [] (.f Fk) [(.t 5),(.t 6)]),
 Lw 4 7] [4])
 (.ret))
def Z13:Fn:=
 { nparams:=2,nblk:=2,results:=[.tmp 4],body:=Z13_B }
def Z1a_B:Cd:=
 .seq (.region [Ll 2 (.box false 0 (.t 0)),
 Ll 3 (.mv (.c (.bool false)))] [1,2])
 (.seq (.region [Ll 4 (.load .leaf (.t 1)),
 Ll 5 (.load (.arr 64 .leaf) (.t 2)),
 Ll 6 (.call .flat [] (.f F13) [(.t 4),(.t 5)]),
 Lw 3 6] [3])
 (.ret))
def Z1a:Fn:=
 { nparams:=2,nblk:=1,results:=[.tmp 3],body:=Z1a_B }
def Z19_B:Cd:=
 .seq (.region [Ll 2 (.box false 0 (.t 0)),
 Ll 4 (.mv (.c (.int .i64 0)))] [1,2])
 (.seq (.seq (.region [Ll 5 (.load .leaf (.t 2)),
 Ll 6 (.call .flat [] (.f F15) [(.t 5)]),
 Ll 7 (.un .not (.t 6)),
 Lw 8 7,
 Lx 9 1 8 false,
 Lg 10 (.mkFn F1a [] [(.t 2)]) 8 false,
 Lg 11 (.call .flat [] (.f Fm) [(.t 9),(.t 10)]) 8 false,
 Lg 12 (.un .not (.t 11)) 8 false,
 Ll 13 (.pick (.t 8) (.c (.bool true)) (.t 12))] [13])
 (.cond (.t 13)
 (.seq (.region [Ll 4 (.mv (.c (.int .i64 1)))] [4])
 (.ret))
 (.skip)))
 (.seq (.region [Ll 4 (.mv (.c (.int .i64 0)))] [4])
 (.ret)))
def Z19:Fn:=
 { nparams:=2,nblk:=1,results:=[.tmp 4],body:=Z19_B }
def Z24_B:Cd:=
 .seq (.region [Ll 6 (.mv (.c (.bool false)))] [0,1,2])
 (.seq (.region [Lw 7 1,
 Lw 8 0,
 Ll 9 (.bin .leq (.t 7) (.t 8)),
 Lw 10 9,
 Lx 11 0 10 true,
 Lx 12 2 10 true,
 Lg 13 (.bin .leq (.t 11) (.t 12)) 10 true,
 Ll 14 (.pick (.t 10) (.t 13) (.c (.bool false))),
 Lw 6 14] [6])
 (.ret))
def Z24:Fn:=
 { nparams:=3,nblk:=0,results:=[.tmp 6],body:=Z24_B }
def Z1w_B:Cd:=
 .seq (.region [Ll 2 (.mv (.c (.int .i64 0)))] [0])
 (.seq (.seq (.region [Lw 3 0,
 Ll 4 (.len false (.t 3)),
 Ll 5 (.bin .eql (.t 4) (.c (.int .i64 0)))] [0,5])
 (.cond (.t 5)
 (.seq (.region [Ll 2 (.mv (.c (.int .i64 0)))] [2])
 (.ret))
 (.skip)))
 (.seq (.region [Lw 6 0,
 Lw 7 0,
 Ll 8 (.len false (.t 7)),
 Ll 9 (.bin .sub (.t 8) (.c (.int .i64 1))),
 Ll 10 (.idxA none .leaf (.t 6) (.t 9)),
 Ll 11 (.load .leaf (.t 10)),
 Lw 2 11] [2])
 (.ret)))
def Z1w:Fn:=
 { nparams:=1,nblk:=0,results:=[.tmp 2],body:=Z1w_B }
def Z1j_L0:Cd:=
 .seq (.region [Ll 10 (.bin .lss (.t 9) (.t 8))] [0,2,7,8,9,10])
 (.seq (.cond (.t 10)
 (.skip)
 (.exit 0))
 (.seq (.block 1 (.seq (.seq (.region [Lw 11 7,
 Lw 12 2,
 Ll 13 (.bin .gtr (.t 11) (.t 12))] [0,2,7,8,9,13])
 (.cond (.t 13)
 (.exit 0)
 (.skip)))
 (.region [Lw 14 7,
 Lw 15 0,
 Ll 16 (.bin .mul (.t 14) (.t 15)),
 Lw 7 16] [0,2,7,8,9])))
 (.region [Ll 17 (.bin .add (.t 9) (.c (.int .i64 1))),
 Lw 9 17] [0,2,7,8,9])))
def Z1j_B:Cd:=
 .seq (.region [Ll 6 (.mv (.c (.int .i64 0)))] [0,1,2])
 (.seq (.region [Ll 7 (.mv (.c (.int .i64 1)))] [0,1,2,7])
 (.seq (.seq (.region [Lw 8 1,
 Ll 9 (.mv (.c (.int .i64 0)))] [0,2,7,8,9])
 (.block 0 (.loop (Z1j_L0))))
 (.seq (.region [Lw 18 7,
 Lw 6 18] [6])
 (.ret))))
def Z1j:Fn:=
 { nparams:=3,nblk:=0,results:=[.tmp 6],body:=Z1j_B }
def Z1k_L0:Cd:=
 .seq (.seq (.region [Lw 6 1,
 Ll 7 (.bin .gtr (.t 6) (.c (.int .i64 0)))] [0,1,5,7])
 (.cond (.t 7)
 (.skip)
 (.exit 0)))
 (.seq (.block 1 (.region [Lw 11 5,
 Lw 12 1,
 Lw 13 0,
 Ll 14 (.bin .rem (.t 12) (.t 13)),
 Ll 15 (.buildSl false 1 .leaf (.int .i64 0) 1 [(0,(.t 14))]),
 Ll 16 (.append .leaf 2 8 (.t 11) (.t 15)),
 Lw 5 16] [0,1,5]))
 (.region [Lw 8 1,
 Lw 9 0,
 Ll 10 (.bin .quo (.t 8) (.t 9)),
 Lw 1 10] [0,1,5]))
def Z1k_B:Cd:=
 .seq (.region [Ll 4 (.mv (.c (.sl .leaf [])))] [0,1])
 (.seq (.region [Ll 5 (.nilOwn 0 .leaf)] [0,1,5])
 (.seq (.block 0 (.loop (Z1k_L0)))
 (.seq (.region [Lw 17 5,
 Lw 4 17] [4])
 (.ret))))
def Z1k:Fn:=
 { nparams:=2,nblk:=3,results:=[.tmp 4],body:=Z1k_B }
def Z1m_B:Cd:=
 .seq (.region [Ll 4 (.mv (.c (.int .i64 0)))] [0,1])
 (.seq (.region [Lw 5 1,
 Lw 6 0,
 Ll 7 (.bin .rem (.t 5) (.t 6)),
 Lw 8 0,
 Ll 9 (.bin .add (.t 7) (.t 8)),
 Lw 10 0,
 Ll 11 (.bin .rem (.t 9) (.t 10)),
 Lw 4 11] [4])
 (.ret))
def Z1m:Fn:=
 { nparams:=2,nblk:=0,results:=[.tmp 4],body:=Z1m_B }
def Z1t_B:Cd:=
 .seq (.region [Ll 4 (.mv (.c (.int .i64 0)))] [0,1])
 (.seq (.seq (.region [Lw 5 1,
 Lw 6 0,
 Ll 7 (.len false (.t 6)),
 Ll 8 (.bin .lss (.t 5) (.t 7))] [0,1,8])
 (.cond (.t 8)
 (.seq (.region [Lw 9 0,
 Lw 10 1,
 Ll 11 (.idxA none .leaf (.t 9) (.t 10)),
 Ll 12 (.load .leaf (.t 11)),
 Lw 4 12] [4])
 (.ret))
 (.skip)))
 (.seq (.region [Ll 4 (.mv (.c (.int .i64 0)))] [4])
 (.ret)))
def Z1t:Fn:=
 { nparams:=2,nblk:=0,results:=[.tmp 4],body:=Z1t_B }
def Z1c_L0:Cd:=
 .seq (.region [Ll 20 (.bin .lss (.t 19) (.t 18))] [0,1,2,3,9,18,19,20])
 (.seq (.cond (.t 20)
 (.skip)
 (.exit 0))
 (.seq (.block 1 (.seq (.region [Lw 21 19,
 Lw 10 21] [0,1,2,3,9,10,18,19])
 (.region [Lw 22 9,
 Lw 23 10,
 Lw 24 0,
 Lw 25 1,
 Lw 26 10,
 Ll 27 (.call .flat [] (.f F1t) [(.t 25),(.t 26)]),
 Lw 28 3,
 Lw 29 2,
 Lw 30 10,
 Ll 31 (.call .flat [] (.f F1t) [(.t 29),(.t 30)]),
 Ll 32 (.bin .mul (.t 28) (.t 31)),
 Ll 33 (.bin .add (.t 27) (.t 32)),
 Ll 34 (.call .flat [] (.f F1m) [(.t 24),(.t 33)]),
 Ll 35 (.idxA none .leaf (.t 22) (.t 23)),
 Ls (.store false .leaf (.t 35) (.t 34))] [0,1,2,3,9,18,19])))
 (.region [Ll 36 (.bin .add (.t 19) (.c (.int .i64 1))),
 Lw 19 36] [0,1,2,3,9,18,19])))
def Z1c_B:Cd:=
 .seq (.region [Ll 8 (.mv (.c (.sl .leaf [])))] [0,1,2,3])
 (.seq (.region [Lw 11 1,
 Ll 12 (.len false (.t 11)),
 Lw 13 2,
 Ll 14 (.len false (.t 13)),
 Ll 15 (.maxI (.t 12) (.t 14)),
 Ll 16 (.mkSl 0 .leaf (.int .i64 0) 8 (.t 15) (.t 15)),
 Lw 9 16] [0,1,2,3,9])
 (.seq (.seq (.region [Lw 17 9,
 Ll 18 (.len false (.t 17)),
 Ll 19 (.mv (.c (.int .i64 0)))] [0,1,2,3,9,18,19])
 (.block 0 (.loop (Z1c_L0))))
 (.seq (.region [Lw 37 9,
 Ll 38 (.call .data [] (.f F1y) [(.t 37)]),
 Lw 8 38] [8])
 (.ret))))
def Z1c:Fn:=
 { nparams:=4,nblk:=1,results:=[.tmp 8],body:=Z1c_B }
def Z1q_L0:Cd:=
 .seq (.region [Ll 39 (.bin .lss (.t 38) (.t 37))] [0,2,7,8,9,29,30,31,36,37,38,39])
 (.seq (.cond (.t 39)
 (.skip)
 (.exit 2))
 (.seq (.block 3 (.seq (.region [Lw 40 38,
 Ll 41 (.idxA none .leaf (.t 36) (.t 38)),
 Ll 42 (.load .leaf (.t 41)),
 Lw 10 40,
 Lw 11 42] [0,2,7,8,9,10,11,29,30,31,36,37,38])
 (.region [Lw 43 7,
 Lw 44 8,
 Lw 45 10,
 Ll 46 (.bin .add (.t 44) (.t 45)),
 Ll 47 (.idxA none .leaf (.t 43) (.t 46)),
 Ll 48 (.load .leaf (.t 47)),
 Lw 49 9,
 Lw 50 11,
 Ll 51 (.bin .mul (.t 49) (.t 50)),
 Ll 52 (.bin .add (.t 48) (.t 51)),
 Ll 53 (.idxA none .leaf (.t 43) (.t 46)),
 Ls (.store false .leaf (.t 53) (.t 52))] [0,2,7,8,9,29,30,31,36,37,38])))
 (.region [Ll 54 (.bin .add (.t 38) (.c (.int .i64 1))),
 Lw 38 54] [0,2,7,8,9,29,30,31,36,37,38])))
def Z1q_L1:Cd:=
 .seq (.region [Ll 32 (.bin .lss (.t 31) (.t 30))] [0,2,7,29,30,31,32])
 (.seq (.cond (.t 32)
 (.skip)
 (.exit 0))
 (.seq (.block 1 (.seq (.region [Lw 33 31,
 Ll 34 (.idxA none .leaf (.t 29) (.t 31)),
 Ll 35 (.load .leaf (.t 34)),
 Lw 8 33,
 Lw 9 35] [0,2,7,8,9,29,30,31])
 (.seq (.region [Lw 36 2,
 Ll 37 (.len false (.t 36)),
 Ll 38 (.mv (.c (.int .i64 0)))] [0,2,7,8,9,29,30,31,36,37,38])
 (.block 2 (.loop (Z1q_L0))))))
 (.region [Ll 55 (.bin .add (.t 31) (.c (.int .i64 1))),
 Lw 31 55] [0,2,7,29,30,31])))
def Z1q_L2:Cd:=
 .seq (.region [Ll 59 (.bin .lss (.t 58) (.t 57))] [0,7,56,57,58,59])
 (.seq (.cond (.t 59)
 (.skip)
 (.exit 4))
 (.seq (.block 5 (.seq (.region [Lw 60 58,
 Ll 61 (.idxA none .leaf (.t 56) (.t 58)),
 Ll 62 (.load .leaf (.t 61)),
 Lw 12 60,
 Lw 13 62] [0,7,12,13,56,57,58])
 (.region [Lw 63 7,
 Lw 64 12,
 Lw 65 13,
 Lw 66 0,
 Ll 67 (.bin .rem (.t 65) (.t 66)),
 Ll 68 (.idxA none .leaf (.t 63) (.t 64)),
 Ls (.store false .leaf (.t 68) (.t 67))] [0,7,56,57,58])))
 (.region [Ll 69 (.bin .add (.t 58) (.c (.int .i64 1))),
 Lw 58 69] [0,7,56,57,58])))
def Z1q_B:Cd:=
 .seq (.region [Ll 6 (.mv (.c (.sl .leaf [])))] [0,1,2])
 (.seq (.seq (.region [Lw 14 1,
 Ll 15 (.len false (.t 14)),
 Ll 16 (.bin .eql (.t 15) (.c (.int .i64 0))),
 Lw 17 16,
 Lx 18 2 17 false,
 Lg 19 (.len false (.t 18)) 17 false,
 Lg 20 (.bin .eql (.t 19) (.c (.int .i64 0))) 17 false,
 Ll 21 (.pick (.t 17) (.c (.bool true)) (.t 20))] [0,1,2,21])
 (.cond (.t 21)
 (.seq (.region [Ll 6 (.mv (.c (.sl .leaf [])))] [6])
 (.ret))
 (.skip)))
 (.seq (.region [Lw 22 1,
 Ll 23 (.len false (.t 22)),
 Lw 24 2,
 Ll 25 (.len false (.t 24)),
 Ll 26 (.bin .add (.t 23) (.t 25)),
 Ll 27 (.bin .sub (.t 26) (.c (.int .i64 1))),
 Ll 28 (.mkSl 0 .leaf (.int .i64 0) 8 (.t 27) (.t 27)),
 Lw 7 28] [0,1,2,7])
 (.seq (.seq (.region [Lw 29 1,
 Ll 30 (.len false (.t 29)),
 Ll 31 (.mv (.c (.int .i64 0)))] [0,2,7,29,30,31])
 (.block 0 (.loop (Z1q_L1))))
 (.seq (.seq (.region [Lw 56 7,
 Ll 57 (.len false (.t 56)),
 Ll 58 (.mv (.c (.int .i64 0)))] [0,7,56,57,58])
 (.block 4 (.loop (Z1q_L2))))
 (.seq (.region [Lw 70 7,
 Ll 71 (.call .data [] (.f F1y) [(.t 70)]),
 Lw 6 71] [6])
 (.ret))))))
def Z1q:Fn:=
 { nparams:=3,nblk:=1,results:=[.tmp 6],body:=Z1q_B }
def Z1o_B:Cd:=
 .seq (.region [Ll 6 (.mv (.c (.sl .leaf [])))] [0,1,2])
 (.seq (.region [Lw 7 0,
 Lw 8 1,
 Lw 9 2,
 Ll 10 (.call .plain [] (.f F1c) [(.t 7),(.c (.sl .leaf [])),(.t 8),(.t 9)]),
 Lw 6 10] [6])
 (.ret))
def Z1o:Fn:=
 { nparams:=3,nblk:=0,results:=[.tmp 6],body:=Z1o_B }
def Z1h_L0:Cd:=
 .seq (.region [Ll 9 (.bin .lss (.t 8) (.t 7))] [0,1,5,7,8,9])
 (.seq (.cond (.t 9)
 (.skip)
 (.exit 0))
 (.seq (.block 1 (.region [Lw 10 5,
 Lw 11 1,
 Ll 12 (.bin .mul (.t 10) (.t 11)),
 Lw 13 0,
 Ll 14 (.bin .rem (.t 12) (.t 13)),
 Lw 5 14] [0,1,5,7,8]))
 (.region [Ll 15 (.bin .add (.t 8) (.c (.int .i64 1))),
 Lw 8 15] [0,1,5,7,8])))
def Z1h_B:Cd:=
 .seq (.region [Ll 4 (.mv (.c (.int .i64 0)))] [0,1])
 (.seq (.region [Ll 5 (.mv (.c (.int .i64 1)))] [0,1,5])
 (.seq (.seq (.region [Lw 6 0,
 Ll 7 (.bin .sub (.t 6) (.c (.int .i64 2))),
 Ll 8 (.mv (.c (.int .i64 0)))] [0,1,5,7,8])
 (.block 0 (.loop (Z1h_L0))))
 (.seq (.region [Lw 16 5,
 Lw 4 16] [4])
 (.ret))))
def Z1h:Fn:=
 { nparams:=2,nblk:=0,results:=[.tmp 4],body:=Z1h_B }
def Z1d_L0:Cd:=
 .seq (.region [Ll 60 (.bin .lss (.t 59) (.t 58))] [0,2,8,9,10,11,12,57,58,59,60])
 (.seq (.cond (.t 60)
 (.skip)
 (.exit 2))
 (.seq (.block 3 (.seq (.region [Lw 61 59,
 Ll 62 (.idxA none .leaf (.t 57) (.t 59)),
 Ll 63 (.load .leaf (.t 62)),
 Lw 13 61,
 Lw 14 63] [0,2,8,9,10,11,12,13,14,57,58,59])
 (.region [Lw 64 8,
 Lw 65 11,
 Lw 66 13,
 Ll 67 (.bin .add (.t 65) (.t 66)),
 Lw 68 0,
 Lw 69 8,
 Lw 70 11,
 Lw 71 13,
 Ll 72 (.bin .add (.t 70) (.t 71)),
 Ll 73 (.idxA none .leaf (.t 69) (.t 72)),
 Ll 74 (.load .leaf (.t 73)),
 Lw 75 12,
 Lw 76 14,
 Ll 77 (.bin .mul (.t 75) (.t 76)),
 Ll 78 (.bin .sub (.t 74) (.t 77)),
 Ll 79 (.call .flat [] (.f F1m) [(.t 68),(.t 78)]),
 Ll 80 (.idxA none .leaf (.t 64) (.t 67)),
 Ls (.store false .leaf (.t 80) (.t 79))] [0,2,8,9,10,11,12,57,58,59])))
 (.region [Ll 81 (.bin .add (.t 59) (.c (.int .i64 1))),
 Lw 59 81] [0,2,8,9,10,11,12,57,58,59])))
def Z1d_L1:Cd:=
 .seq (.seq (.region [Lw 37 11,
 Ll 38 (.bin .geq (.t 37) (.c (.int .i64 0)))] [0,2,8,9,10,11,38])
 (.cond (.t 38)
 (.skip)
 (.exit 0)))
 (.seq (.block 1 (.seq (.region [Lw 41 8,
 Lw 42 11,
 Lw 43 2,
 Ll 44 (.len false (.t 43)),
 Ll 45 (.bin .add (.t 42) (.t 44)),
 Ll 46 (.bin .sub (.t 45) (.c (.int .i64 1))),
 Ll 47 (.idxA none .leaf (.t 41) (.t 46)),
 Ll 48 (.load .leaf (.t 47)),
 Lw 49 10,
 Ll 50 (.bin .mul (.t 48) (.t 49)),
 Lw 51 0,
 Ll 52 (.bin .rem (.t 50) (.t 51)),
 Lw 12 52] [0,2,8,9,10,11,12])
 (.seq (.region [Lw 53 9,
 Lw 54 11,
 Lw 55 12,
 Ll 56 (.idxA none .leaf (.t 53) (.t 54)),
 Ls (.store false .leaf (.t 56) (.t 55))] [0,2,8,9,10,11,12])
 (.seq (.region [Lw 57 2,
 Ll 58 (.len false (.t 57)),
 Ll 59 (.mv (.c (.int .i64 0)))] [0,2,8,9,10,11,12,57,58,59])
 (.block 2 (.loop (Z1d_L0)))))))
 (.region [Lw 39 11,
 Ll 40 (.bin .sub (.t 39) (.c (.int .i64 1))),
 Lw 11 40] [0,2,8,9,10,11]))
def Z1d_B:Cd:=
 .seq (.region [Ll 6 (.mv (.c (.sl .leaf []))),
 Ll 7 (.mv (.c (.sl .leaf [])))] [0,1,2])
 (.seq (.region [Lw 15 1,
 Ll 16 (.call .heap [0] (.f F2e) [(.t 15)]),
 Lw 8 16] [0,1,2,8])
 (.seq (.seq (.region [Lw 17 1,
 Ll 18 (.len false (.t 17)),
 Lw 19 2,
 Ll 20 (.len false (.t 19)),
 Ll 21 (.bin .lss (.t 18) (.t 20))] [0,1,2,8,21])
 (.cond (.t 21)
 (.seq (.region [Lw 22 8,
 Ll 6 (.mv (.c (.sl .leaf []))),
 Lw 7 22] [6,7])
 (.ret))
 (.skip)))
 (.seq (.region [Lw 23 1,
 Ll 24 (.len false (.t 23)),
 Lw 25 2,
 Ll 26 (.len false (.t 25)),
 Ll 27 (.bin .sub (.t 24) (.t 26)),
 Ll 28 (.bin .add (.t 27) (.c (.int .i64 1))),
 Ll 29 (.mkSl 1 .leaf (.int .i64 0) 8 (.t 28) (.t 28)),
 Lw 9 29] [0,2,8,9])
 (.seq (.region [Lw 30 0,
 Lw 31 2,
 Ll 32 (.call .flat [] (.f F1w) [(.t 31)]),
 Ll 33 (.call .flat [] (.f F1h) [(.t 30),(.t 32)]),
 Lw 10 33] [0,2,8,9,10])
 (.seq (.seq (.region [Lw 34 9,
 Ll 35 (.len false (.t 34)),
 Ll 36 (.bin .sub (.t 35) (.c (.int .i64 1))),
 Lw 11 36] [0,2,8,9,10,11])
 (.block 0 (.loop (Z1d_L1))))
 (.seq (.region [Lw 82 9,
 Ll 83 (.call .data [] (.f F1y) [(.t 82)]),
 Lw 84 8,
 Ll 85 (.call .data [] (.f F1y) [(.t 84)]),
 Lw 6 83,
 Lw 7 85] [6,7])
 (.ret)))))))
def Z1d:Fn:=
 { nparams:=3,nblk:=2,results:=[.tmp 6,.tmp 7],body:=Z1d_B }
def Z1b_L0:Cd:=
 .seq (.seq (.region [Lw 18 2,
 Ll 19 (.len false (.t 18)),
 Ll 20 (.bin .gtr (.t 19) (.c (.int .i64 0)))] [0,1,2,9,10,11,12,20])
 (.cond (.t 20)
 (.skip)
 (.exit 0)))
 (.block 1 (.seq (.region [Lw 22 0,
 Lw 23 1,
 Lw 24 2,
 Ll 25 (.call .plain [] (.f F1d) [(.t 22),(.t 23),(.t 24)]),
 Lw 21 25,
 Ll 26 (.ext (.t 21) 0),
 Ll 27 (.ext (.t 21) 1),
 Lw 13 26,
 Lw 14 27] [0,2,9,10,11,12,13,14])
 (.seq (.region [Lw 28 2,
 Lw 29 14,
 Lw 1 28,
 Lw 2 29] [0,1,2,9,10,11,12,13])
 (.seq (.region [Lw 30 11,
 Lw 31 0,
 Lw 32 9,
 Lw 33 0,
 Lw 34 13,
 Lw 35 11,
 Ll 36 (.call .plain [] (.f F1q) [(.t 33),(.t 34),(.t 35)]),
 Ll 37 (.call .data [] (.f F1c) [(.t 31),(.t 32),(.t 36),(.c (.int .i64 (-1)))]),
 Lw 9 30,
 Lw 11 37] [0,1,2,9,10,11,12,13])
 (.region [Lw 38 12,
 Lw 39 0,
 Lw 40 10,
 Lw 41 0,
 Lw 42 13,
 Lw 43 12,
 Ll 44 (.call .data [] (.f F1q) [(.t 41),(.t 42),(.t 43)]),
 Ll 45 (.call .data [] (.f F1c) [(.t 39),(.t 40),(.t 44),(.c (.int .i64 (-1)))]),
 Lw 10 38,
 Lw 12 45] [0,1,2,9,10,11,12])))))
def Z1b_B:Cd:=
 .seq (.region [Ll 6 (.mv (.c (.sl .leaf []))),
 Ll 7 (.mv (.c (.sl .leaf []))),
 Ll 8 (.mv (.c (.sl .leaf [])))] [0,1,2])
 (.seq (.region [Ll 16 (.buildSl false 0 .leaf (.int .i64 0) 1 [(0,(.c (.int .i64 1)))]),
 Lw 9 16,
 Ll 10 (.mv (.c (.sl .leaf [])))] [0,1,2,9,10])
 (.seq (.region [Ll 17 (.buildSl false 1 .leaf (.int .i64 0) 1 [(0,(.c (.int .i64 1)))]),
 Ll 11 (.mv (.c (.sl .leaf []))),
 Lw 12 17] [0,1,2,9,10,11,12])
 (.seq (.block 0 (.loop (Z1b_L0)))
 (.seq (.region [Lw 46 0,
 Lw 47 1,
 Ll 48 (.call .flat [] (.f F1w) [(.t 47)]),
 Ll 49 (.call .flat [] (.f F1h) [(.t 46),(.t 48)]),
 Lw 15 49] [0,1,9,10,15])
 (.seq (.region [Lw 50 0,
 Lw 51 1,
 Lw 52 15,
 Ll 53 (.call .plain [] (.f F1o) [(.t 50),(.t 51),(.t 52)]),
 Lw 54 0,
 Lw 55 9,
 Lw 56 15,
 Ll 57 (.call .data [] (.f F1o) [(.t 54),(.t 55),(.t 56)]),
 Lw 58 0,
 Lw 59 10,
 Lw 60 15,
 Ll 61 (.call .data [] (.f F1o) [(.t 58),(.t 59),(.t 60)]),
 Lw 6 53,
 Lw 7 57,
 Lw 8 61] [6,7,8])
 (.ret))))))
def Z1b:Fn:=
 { nparams:=3,nblk:=2,results:=[.tmp 6,.tmp 7,.tmp 8],body:=Z1b_B }
def Z1g_B:Cd:=
 .seq (.region [Ll 6 (.mv (.c (.sl .leaf [])))] [0,1,2])
 (.seq (.region [Lw 11 0,
 Lw 12 1,
 Lw 13 2,
 Ll 14 (.call .plain [] (.f F1b) [(.t 11),(.t 12),(.t 13)]),
 Lw 10 14,
 Ll 15 (.ext (.t 10) 0),
 Ll 16 (.ext (.t 10) 1),
 Ll 17 (.ext (.t 10) 2),
 Lw 7 15,
 Lw 8 16,
 Lw 9 17] [7])
 (.seq (.region [Lw 18 7,
 Lw 6 18] [6])
 (.ret)))
def Z1g:Fn:=
 { nparams:=3,nblk:=0,results:=[.tmp 6],body:=Z1g_B }
def Z1n_B:Cd:=
 .seq (.region [Ll 6 (.mv (.c (.sl .leaf [])))] [0,1,2])
 (.seq (.region [Lw 10 0,
 Lw 11 1,
 Lw 12 2,
 Ll 13 (.call .plain [] (.f F1d) [(.t 10),(.t 11),(.t 12)]),
 Lw 9 13,
 Ll 14 (.ext (.t 9) 0),
 Ll 15 (.ext (.t 9) 1),
 Lw 7 14,
 Lw 8 15] [8])
 (.seq (.region [Lw 16 8,
 Lw 6 16] [6])
 (.ret)))
def Z1n:Fn:=
 { nparams:=3,nblk:=0,results:=[.tmp 6],body:=Z1n_B }
def Z1l_L0:Cd:=
 .seq (.seq (.region [Lw 19 2,
 Ll 20 (.bin .gtr (.t 19) (.c (.int .i64 0)))] [0,2,3,9,10,20])
 (.cond (.t 20)
 (.skip)
 (.exit 0)))
 (.seq (.block 1 (.seq (.seq (.region [Lw 23 2,
 Ll 24 (.bin .and (.t 23) (.c (.int .i64 1))),
 Ll 25 (.bin .eql (.t 24) (.c (.int .i64 1)))] [0,2,3,9,10,25])
 (.cond (.t 25)
 (.region [Lw 26 0,
 Lw 27 0,
 Lw 28 9,
 Lw 29 10,
 Ll 30 (.call .plain [] (.f F1q) [(.t 27),(.t 28),(.t 29)]),
 Lw 31 3,
 Ll 32 (.call .plain [] (.f F1n) [(.t 26),(.t 30),(.t 31)]),
 Lw 9 32] [0,2,3,9,10])
 (.skip)))
 (.region [Lw 33 0,
 Lw 34 0,
 Lw 35 10,
 Lw 36 10,
 Ll 37 (.call .plain [] (.f F1q) [(.t 34),(.t 35),(.t 36)]),
 Lw 38 3,
 Ll 39 (.call .plain [] (.f F1n) [(.t 33),(.t 37),(.t 38)]),
 Lw 10 39] [0,2,3,9,10])))
 (.region [Lw 21 2,
 Ll 22 (.bin .shr (.t 21) (.c (.int .u64 1))),
 Lw 2 22] [0,2,3,9,10]))
def Z1l_B:Cd:=
 .seq (.region [Ll 8 (.mv (.c (.sl .leaf [])))] [0,1,2,3])
 (.seq (.region [Lw 11 0,
 Ll 12 (.buildSl false 0 .leaf (.int .i64 0) 1 [(0,(.c (.int .i64 1)))]),
 Lw 13 3,
 Ll 14 (.call .data [] (.f F1n) [(.t 11),(.t 12),(.t 13)]),
 Lw 15 0,
 Lw 16 1,
 Lw 17 3,
 Ll 18 (.call .plain [] (.f F1n) [(.t 15),(.t 16),(.t 17)]),
 Lw 9 14,
 Lw 10 18] [0,2,3,9,10])
 (.seq (.block 0 (.loop (Z1l_L0)))
 (.seq (.region [Lw 40 9,
 Lw 8 40] [8])
 (.ret))))
def Z1l:Fn:=
 { nparams:=4,nblk:=1,results:=[.tmp 8],body:=Z1l_B }
def Zh_B:Cd:=
 .seq (.region [Ll 3 (.box false 0 (.t 1)),
 Ll 4 (.mv (.c (.bool false)))] [0,3])
 (.seq (.region [Lw 5 0,
 Ll 6 (.call .flat [] (.f F15) [(.t 5)]),
 Lw 7 6,
 Lx 8 0 7 true,
 Lg 9 (.load (.arr 64 .leaf) (.t 3)) 7 true,
 Lg 10 (.call .flat [] (.f F13) [(.t 8),(.t 9)]) 7 true,
 Ll 11 (.pick (.t 7) (.t 10) (.c (.bool false))),
 Lw 4 11] [4])
 (.ret))
def Zh:Fn:=
 { nparams:=2,nblk:=1,results:=[.tmp 4],body:=Zh_B }
def Z1x_L0:Cd:=
 .seq (.region [Ll 9 (.bin .lss (.t 8) (.t 7))] [2,3,6,7,8,9])
 (.seq (.cond (.t 9)
 (.skip)
 (.exit 0))
 (.seq (.block 1 (.seq (.region [Lw 10 8,
 Ll 11 (.idxA none .leaf (.t 6) (.t 8)),
 Ll 12 (.load .leaf (.t 11)),
 Lw 4 10,
 Lw 5 12] [2,3,4,5,6,7,8])
 (.region [Lw 13 4,
 Lw 14 5,
 Ll 15 (.conv .u8 (.t 14)),
 Ll 16 (.idxA (some 64) .leaf (.t 3) (.t 13)),
 Ls (.store false .leaf (.t 16) (.t 15))] [2,3,6,7,8])))
 (.region [Ll 17 (.bin .add (.t 8) (.c (.int .i64 1))),
 Lw 8 17] [2,3,6,7,8])))
def Z1x_B:Cd:=
 .seq (.region [Ll 2 (.box false 0 (.c (.arr 64 .leaf z64)))] [0,2])
 (.seq (.region [Ll 3 (.box false 1 (.c (.arr 64 .leaf z64)))] [0,2,3])
 (.seq (.seq (.region [Lw 6 0,
 Ll 7 (.len false (.t 6)),
 Ll 8 (.mv (.c (.int .i64 0)))] [2,3,6,7,8])
 (.block 0 (.loop (Z1x_L0))))
 (.seq (.region [Ll 18 (.load (.arr 64 .leaf) (.t 3)),
 Ls (.store false (.arr 64 .leaf) (.t 2) (.t 18))] [2])
 (.ret))))
def Z1x:Fn:=
 { nparams:=1,nblk:=2,results:=[.cell 2 (.arr 64 .leaf)],body:=Z1x_B }
def Z1v_B:Cd:=
 .seq (.region [Ll 2 (.mv (.c (.bool false)))] [0])
 (.seq (.region [Lw 3 0,
 Ll 4 (.call .flat [] (.f F1u) [(.t 3)]),
 Ll 5 (.bin .leq (.t 4) (.c (.int .i64 63))),
 Lw 2 5] [2])
 (.ret))
def Z1v:Fn:=
 { nparams:=1,nblk:=0,results:=[.tmp 2],body:=Z1v_B }
def Z23_B:Cd:=
 .seq (.region [Ll 2 (.box false 0 (.c (.arr 64 .leaf z64))),
 Ll 3 (.mv (.c (.int .i64 0)))] [0,2])
 (.seq (.seq (.region [Lw 4 0,
 Ll 5 (.call .flat [] (.f F1v) [(.t 4)]),
 Ll 6 (.un .not (.t 5))] [0,2,6])
 (.cond (.t 6)
 (.seq (.region [Ll 7 (.build false (.arr 64 .leaf z64) []),
 Ls (.store false (.arr 64 .leaf) (.t 2) (.t 7)),
 Ll 3 (.mv (.c (.int .i64 3)))] [2,3])
 (.ret))
 (.skip)))
 (.seq (.region [Lw 8 0,
 Ll 9 (.call .flat [] (.f F1x) [(.t 8)]),
 Ls (.store false (.arr 64 .leaf) (.t 2) (.t 9)),
 Ll 3 (.mv (.c (.int .i64 0)))] [2,3])
 (.ret)))
def Z23:Fn:=
 { nparams:=1,nblk:=1,results:=[.cell 2 (.arr 64 .leaf),.tmp 3],body:=Z23_B }
def Z18_L0:Cd:=
 .seq (.region [Ll 9 (.bin .lss (.t 8) (.t 7))] [3,6,7,8,9])
 (.seq (.cond (.t 9)
 (.skip)
 (.exit 0))
 (.seq (.block 1 (.seq (.region [Ll 10 (.idxA none .leaf (.t 6) (.t 8)),
 Ll 11 (.load .leaf (.t 10)),
 Lw 5 11] [3,5,6,7,8])
 (.region [Lw 12 3,
 Lw 13 5,
 Ll 14 (.call .flat [] (.f F1x) [(.t 13)]),
 Ll 15 (.buildSl false 1 (.arr 64 .leaf) (.arr 64 .leaf z64) 1 [(0,(.t 14))]),
 Ll 16 (.append (.arr 64 .leaf) 2 64 (.t 12) (.t 15)),
 Lw 3 16] [3,6,7,8])))
 (.region [Ll 17 (.bin .add (.t 8) (.c (.int .i64 1))),
 Lw 8 17] [3,6,7,8])))
def Z18_B:Cd:=
 .seq (.region [Ll 2 (.mv (.c (.sl (.arr 64 .leaf) [])))] [0])
 (.seq (.region [Ll 3 (.nilOwn 0 (.arr 64 .leaf))] [0,3])
 (.seq (.seq (.region [Lw 6 0,
 Ll 7 (.len false (.t 6)),
 Ll 8 (.mv (.c (.int .i64 0)))] [3,6,7,8])
 (.block 0 (.loop (Z18_L0))))
 (.seq (.region [Lw 18 3,
 Lw 2 18] [2])
 (.ret))))
def Z18:Fn:=
 { nparams:=1,nblk:=3,results:=[.tmp 2],body:=Z18_B }
def Zi_B:Cd:=
 .seq (.region [Ll 4 (.box false 0 (.t 1)),
 Ll 5 (.box false 1 (.t 2)),
 Ll 6 (.box false 2 (.c (.arr 64 .leaf z64))),
 Ll 7 (.mv (.c (.int .i64 0)))] [0,4,5,6])
 (.seq (.seq (.region [Lw 9 0,
 Ll 10 (.load (.arr 64 .leaf) (.t 4)),
 Ll 11 (.load (.arr 64 .leaf) (.t 5)),
 Ll 12 (.buildSl false 3 (.arr 64 .leaf) (.arr 64 .leaf z64) 2 [(0,(.t 10)),(1,(.t 11))]),
 Ll 13 (.call .flat [] (.f F19) [(.t 9),(.t 12)]),
 Lw 8 13] [0,4,5,6,8])
 (.seq (.region [Lw 14 8,
 Ll 15 (.bin .neq (.t 14) (.c (.int .i64 0)))] [0,4,5,6,8,15])
 (.cond (.t 15)
 (.seq (.region [Ll 16 (.build false (.arr 64 .leaf z64) []),
 Lw 17 8,
 Ls (.store false (.arr 64 .leaf) (.t 6) (.t 16)),
 Lw 7 17] [6,7])
 (.ret))
 (.skip))))
 (.seq (.region [Lw 18 0,
 Ll 19 (.load (.arr 64 .leaf) (.t 4)),
 Ll 20 (.call .plain [] (.f F1s) [(.t 19)]),
 Ll 21 (.load (.arr 64 .leaf) (.t 5)),
 Ll 22 (.call .plain [] (.f F1s) [(.t 21)]),
 Ll 23 (.call .plain [] (.f F1q) [(.t 18),(.t 20),(.t 22)]),
 Ll 24 (.call .flat [] (.f F23) [(.t 23)]),
 Ll 25 (.ext (.t 24) 0),
 Ll 26 (.ext (.t 24) 1),
 Ls (.store false (.arr 64 .leaf) (.t 6) (.t 25)),
 Lw 7 26] [6,7])
 (.ret)))
def Zi:Fn:=
 { nparams:=3,nblk:=4,results:=[.cell 6 (.arr 64 .leaf),.tmp 7],body:=Zi_B }
end Pe

/-
 Functions of the program in the small form,printed by a program.
-/
namespace Pe
open Go
def Z16_B:Cd:=
 .seq (.region [Ll 0 (.mv (.c (.sl .leaf [])))] [])
 (.seq (.region [Ll 1 (.buildSl false 0 .leaf (.int .i64 0) 2 [(0,(.c (.int .i64 0))),(1,(.c (.int .i64 1)))]),
 Lw 0 1] [0])
 (.ret))
def Z16:Fn:=
 { nparams:=0,nblk:=1,results:=[.tmp 0],body:=Z16_B }
def Z1r_L0:Cd:=
 .seq (.seq (.region [Lw 25 8,
 Lw 26 7,
 Ll 27 (.bin .mul (.c (.int .i64 2)) (.t 26)),
 Ll 28 (.bin .lss (.t 25) (.t 27))] [0,1,7,8,28])
 (.cond (.t 28)
 (.skip)
 (.exit 0)))
 (.seq (.block 1 (.seq (.region [Lw 31 0,
 Lw 32 8,
 Ll 33 (.call .plain [] (.f F1k) [(.t 31),(.t 32)]),
 Lw 9 33] [0,1,7,8,9])
 (.seq (.region [Lw 34 0,
 Lw 35 1,
 Lw 36 9,
 Ll 37 (.call .plain [] (.f F1n) [(.t 34),(.t 35),(.t 36)]),
 Ll 38 (.len false (.t 37)),
 Ll 39 (.bin .eql (.t 38) (.c (.int .i64 0)))] [0,1,7,8,9,39])
 (.cond (.t 39)
 (.seq (.region [Lw 40 9,
 Lw 6 40] [6])
 (.ret))
 (.skip)))))
 (.region [Lw 29 8,
 Ll 30 (.bin .add (.t 29) (.c (.int .i64 1))),
 Lw 8 30] [0,1,7,8]))
def Z1r_B:Cd:=
 .seq (.region [Ll 6 (.mv (.c (.sl .leaf [])))] [0,1,2])
 (.seq (.seq (.region [Lw 10 1,
 Ll 11 (.call .flat [] (.f F1u) [(.t 10)]),
 Lw 12 2,
 Ll 13 (.bin .eql (.t 11) (.t 12))] [0,1,2,13])
 (.cond (.t 13)
 (.seq (.region [Lw 14 0,
 Lw 15 1,
 Lw 16 0,
 Lw 17 1,
 Ll 18 (.call .flat [] (.f F1w) [(.t 17)]),
 Ll 19 (.call .flat [] (.f F1h) [(.t 16),(.t 18)]),
 Ll 20 (.call .plain [] (.f F1o) [(.t 14),(.t 15),(.t 19)]),
 Lw 6 20] [6])
 (.ret))
 (.skip)))
 (.seq (.region [Lw 21 0,
 Lw 22 2,
 Ll 23 (.call .flat [] (.f F1j) [(.t 21),(.t 22),(.c (.int .i64 1099511627776))]),
 Lw 7 23] [0,1,7])
 (.seq (.seq (.region [Lw 24 7,
 Lw 8 24] [0,1,7,8])
 (.block 0 (.loop (Z1r_L0))))
 (.seq (.region [Lw 41 1,
 Lw 6 41] [6])
 (.ret)))))
def Z1r:Fn:=
 { nparams:=3,nblk:=0,results:=[.tmp 6],body:=Z1r_B }
def Z1p_L0:Cd:=
 .block 1 (.seq (.region [Lw 12 0,
 Lw 13 1,
 Lw 14 2,
 Ll 15 (.call .plain [] (.f F1d) [(.t 12),(.t 13),(.t 14)]),
 Lw 11 15,
 Ll 16 (.ext (.t 11) 0),
 Ll 17 (.ext (.t 11) 1),
 Lw 9 16,
 Lw 10 17] [0,1,2,8,9,10])
 (.seq (.seq (.region [Lw 18 10,
 Ll 19 (.len false (.t 18)),
 Ll 20 (.bin .gtr (.t 19) (.c (.int .i64 0)))] [0,1,2,8,9,20])
 (.cond (.t 20)
 (.seq (.region [Lw 21 1,
 Lw 22 8,
 Lw 6 21,
 Lw 7 22] [6,7])
 (.ret))
 (.skip)))
 (.seq (.region [Lw 23 9,
 Lw 1 23] [0,1,2,8])
 (.region [Lw 24 8,
 Ll 25 (.bin .add (.t 24) (.c (.int .i64 1))),
 Lw 8 25] [0,1,2,8]))))
def Z1p_B:Cd:=
 .seq (.region [Ll 6 (.mv (.c (.sl .leaf []))),
 Ll 7 (.mv (.c (.int .i64 0)))] [0,1,2])
 (.seq (.region [Ll 8 (.mv (.c (.int .i64 0)))] [0,1,2,8])
 (.block 0 (.loop (Z1p_L0))))
def Z1p:Fn:=
 { nparams:=3,nblk:=0,results:=[.tmp 6,.tmp 7],body:=Z1p_B }
def Zq_L0:Cd:=
 .seq (.seq (.region [Lw 19 6,
 Ll 20 (.bin .geq (.t 19) (.c (.int .i64 0)))] [0,1,6,20])
 (.cond (.t 20)
 (.skip)
 (.exit 0)))
 (.seq (.block 1 (.seq (.region [Lw 23 0,
 Lw 24 6,
 Ll 25 (.idxA none .leaf (.t 23) (.t 24)),
 Ll 26 (.load .leaf (.t 25)),
 Lw 27 1,
 Lw 28 6,
 Ll 29 (.idxA none .leaf (.t 27) (.t 28)),
 Ll 30 (.load .leaf (.t 29)),
 Ll 31 (.call .flat [] (.f F1) [(.t 26),(.t 30)]),
 Lw 7 31] [0,1,6,7])
 (.seq (.region [Lw 32 7,
 Ll 33 (.bin .neq (.t 32) (.c (.int .i64 0)))] [0,1,6,7,33])
 (.cond (.t 33)
 (.seq (.region [Lw 34 7,
 Lw 4 34] [4])
 (.ret))
 (.skip)))))
 (.region [Lw 21 6,
 Ll 22 (.bin .sub (.t 21) (.c (.int .i64 1))),
 Lw 6 22] [0,1,6]))
def Zq_B:Cd:=
 .seq (.region [Ll 4 (.mv (.c (.int .i64 0)))] [0,1])
 (.seq (.seq (.region [Lw 8 0,
 Ll 9 (.len false (.t 8)),
 Lw 10 1,
 Ll 11 (.len false (.t 10)),
 Ll 12 (.call .flat [] (.f F0) [(.t 9),(.t 11)]),
 Lw 5 12] [0,1,5])
 (.seq (.region [Lw 13 5,
 Ll 14 (.bin .neq (.t 13) (.c (.int .i64 0)))] [0,1,5,14])
 (.cond (.t 14)
 (.seq (.region [Lw 15 5,
 Lw 4 15] [4])
 (.ret))
 (.skip))))
 (.seq (.seq (.region [Lw 16 0,
 Ll 17 (.len false (.t 16)),
 Ll 18 (.bin .sub (.t 17) (.c (.int .i64 1))),
 Lw 6 18] [0,1,6])
 (.block 0 (.loop (Zq_L0))))
 (.seq (.region [Ll 4 (.mv (.c (.int .i64 0)))] [4])
 (.ret))))
def Zq:Fn:=
 { nparams:=2,nblk:=0,results:=[.tmp 4],body:=Zq_B }
def Z1f_B:Cd:=
 .seq (.region [Ll 2 (.box false 0 (.t 0)),
 Ll 3 (.box false 1 (.t 1)),
 Ll 4 (.mv (.c (.int .i64 0)))] [2,3])
 (.seq (.region [Ll 5 (.fldA [.leaf,.leaf] (.t 2) 0),
 Ll 6 (.load .leaf (.t 5)),
 Ll 7 (.fldA [.leaf,.leaf] (.t 3) 0),
 Ll 8 (.load .leaf (.t 7)),
 Ll 9 (.call .flat [] (.f Fq) [(.t 6),(.t 8)]),
 Lw 4 9] [4])
 (.ret))
def Z1f:Fn:=
 { nparams:=2,nblk:=2,results:=[.tmp 4],body:=Z1f_B }
def Z1e_L0:Cd:=
 .seq (.region [Ll 36 (.bin .lss (.t 35) (.t 34))] [0,1,5,6,7,34,35,36])
 (.seq (.cond (.t 36)
 (.skip)
 (.exit 2))
 (.seq (.block 3 (.region [Lw 37 0,
 Lw 38 7,
 Lw 39 0,
 Lw 40 1,
 Ll 41 (.call .plain [] (.f F1l) [(.t 37),(.t 38),(.t 39),(.t 40)]),
 Lw 7 41] [0,1,5,6,7,34,35]))
 (.region [Ll 42 (.bin .add (.t 35) (.c (.int .i64 1))),
 Lw 35 42] [0,1,5,6,7,34,35])))
def Z1e_L1:Cd:=
 .seq (.seq (.region [Lw 50 8,
 Ll 51 (.call .flat [] (.f F1u) [(.t 50)]),
 Ll 52 (.bin .gtr (.t 51) (.c (.int .i64 0)))] [0,1,5,6,8,52])
 (.cond (.t 52)
 (.skip)
 (.exit 4)))
 (.block 5 (.seq (.region [Lw 53 0,
 Lw 54 8,
 Lw 55 6,
 Ll 56 (.call .plain [] (.f F1r) [(.t 53),(.t 54),(.t 55)]),
 Lw 9 56] [0,1,5,6,8,9])
 (.seq (.region [Lw 58 0,
 Lw 59 1,
 Lw 60 9,
 Ll 61 (.call .plain [] (.f F1p) [(.t 58),(.t 59),(.t 60)]),
 Lw 57 61,
 Ll 62 (.ext (.t 57) 0),
 Ll 63 (.ext (.t 57) 1),
 Lw 10 62,
 Lw 11 63] [0,5,6,8,9,10,11])
 (.seq (.region [Lw 64 10,
 Lw 1 64] [0,1,5,6,8,9,11])
 (.seq (.region [Lw 66 0,
 Lw 67 8,
 Lw 68 9,
 Ll 69 (.call .plain [] (.f F1p) [(.t 66),(.t 67),(.t 68)]),
 Lw 65 69,
 Ll 70 (.ext (.t 65) 0),
 Ll 71 (.ext (.t 65) 1),
 Lw 8 70] [0,1,5,6,8,9,11])
 (.region [Lw 72 5,
 Lw 73 9,
 Lw 74 11,
 Ll 75 (.build false (.st [.leaf,.leaf] [(.sl .leaf []),(.int .i64 0)]) [(0,(.t 73)),(1,(.t 74))]),
 Ll 76 (.buildSl false 3 (.st [.leaf,.leaf]) (.st [.leaf,.leaf] [(.sl .leaf []),(.int .i64 0)]) 1 [(0,(.t 75))]),
 Ll 77 (.append (.st [.leaf,.leaf]) 4 32 (.t 72) (.t 76)),
 Lw 5 77] [0,1,5,6,8]))))))
def Z1e_L2:Cd:=
 .seq (.seq (.region [Lw 12 1,
 Ll 13 (.call .flat [] (.f F1u) [(.t 12)]),
 Ll 14 (.bin .gtr (.t 13) (.c (.int .i64 0)))] [0,1,5,6,14])
 (.cond (.t 14)
 (.skip)
 (.exit 0)))
 (.seq (.block 1 (.seq (.seq (.region [Lw 17 6,
 Ll 18 (.bin .mul (.c (.int .i64 2)) (.t 17)),
 Lw 19 1,
 Ll 20 (.call .flat [] (.f F1u) [(.t 19)]),
 Ll 21 (.bin .gtr (.t 18) (.t 20))] [0,1,5,6,21])
 (.cond (.t 21)
 (.seq (.region [Lw 22 5,
 Lw 23 0,
 Lw 24 1,
 Lw 25 0,
 Lw 26 1,
 Ll 27 (.call .flat [] (.f F1w) [(.t 26)]),
 Ll 28 (.call .flat [] (.f F1h) [(.t 25),(.t 27)]),
 Ll 29 (.call .plain [] (.f F1o) [(.t 23),(.t 24),(.t 28)]),
 Ll 30 (.build false (.st [.leaf,.leaf] [(.sl .leaf []),(.int .i64 0)]) [(0,(.t 29)),(1,(.c (.int .i64 1)))]),
 Ll 31 (.buildSl false 1 (.st [.leaf,.leaf]) (.st [.leaf,.leaf] [(.sl .leaf []),(.int .i64 0)]) 1 [(0,(.t 30))]),
 Ll 32 (.append (.st [.leaf,.leaf]) 2 32 (.t 22) (.t 31)),
 Lw 5 32] [5])
 (.exit 0))
 (.skip)))
 (.seq (.region [Ll 33 (.call .plain [] (.f F16) []),
 Lw 7 33] [0,1,5,6,7])
 (.seq (.seq (.region [Lw 34 6,
 Ll 35 (.mv (.c (.int .i64 0)))] [0,1,5,6,7,34,35])
 (.block 2 (.loop (Z1e_L0))))
 (.seq (.region [Lw 43 0,
 Lw 44 0,
 Lw 45 7,
 Ll 46 (.call .plain [] (.f F16) []),
 Ll 47 (.call .plain [] (.f F1c) [(.t 44),(.t 45),(.t 46),(.c (.int .i64 (-1)))]),
 Lw 48 1,
 Ll 49 (.call .plain [] (.f F1g) [(.t 43),(.t 47),(.t 48)]),
 Lw 8 49] [0,1,5,6,8])
 (.block 4 (.loop (Z1e_L1))))))))
 (.region [Lw 15 6,
 Ll 16 (.bin .add (.t 15) (.c (.int .i64 1))),
 Lw 6 16] [0,1,5,6]))
def Z1e_B:Cd:=
 .seq (.region [Ll 4 (.mv (.c (.sl (.st [.leaf,.leaf]) [])))] [0,1])
 (.seq (.region [Ll 5 (.nilOwn 0 (.st [.leaf,.leaf]))] [0,1,5])
 (.seq (.seq (.region [Ll 6 (.mv (.c (.int .i64 1)))] [0,1,5,6])
 (.block 0 (.loop (Z1e_L2))))
 (.seq (.region [Lw 78 5,
 Ll 79 (.call .heap [] (.f F2j) [(.t 78),(.f F1f)])] [5])
 (.seq (.region [Lw 80 5,
 Lw 4 80] [4])
 (.ret)))))
def Z1e:Fn:=
 { nparams:=2,nblk:=5,results:=[.tmp 4],body:=Z1e_B }
def Z1i_B:Cd:=
 .seq (.region [Ll 4 (.mv (.c (.bool false)))] [0,1])
 (.seq (.seq (.region [Lw 6 1,
 Ll 7 (.call .flat [] (.f F1w) [(.t 6)]),
 Ll 8 (.bin .neq (.t 7) (.c (.int .i64 1))),
 Lw 9 8,
 Lx 10 1 9 false,
 Lg 11 (.call .flat [] (.f F1u) [(.t 10)]) 9 false,
 Lg 12 (.bin .lss (.t 11) (.c (.int .i64 1))) 9 false,
 Ll 13 (.pick (.t 9) (.c (.bool true)) (.t 12))] [0,1,13])
 (.cond (.t 13)
 (.seq (.region [Ll 4 (.mv (.c (.bool false)))] [4])
 (.ret))
 (.skip)))
 (.seq (.region [Lw 14 0,
 Lw 15 1,
 Ll 16 (.call .plain [] (.f F1e) [(.t 14),(.t 15)]),
 Lw 5 16] [5])
 (.seq (.region [Lw 17 5,
 Ll 18 (.len false (.t 17)),
 Ll 19 (.bin .eql (.t 18) (.c (.int .i64 1))),
 Lw 20 19,
 Lx 21 5 20 true,
 Lg 22 (.idxA none (.st [.leaf,.leaf]) (.t 21) (.c (.int .i64 0))) 20 true,
 Lg 23 (.fldA [.leaf,.leaf] (.t 22) 1) 20 true,
 Lg 24 (.load .leaf (.t 23)) 20 true,
 Lg 25 (.bin .eql (.t 24) (.c (.int .i64 1))) 20 true,
 Ll 26 (.pick (.t 20) (.t 25) (.c (.bool false))),
 Lw 4 26] [4])
 (.ret))))
def Z1i:Fn:=
 { nparams:=2,nblk:=0,results:=[.tmp 4],body:=Z1i_B }
end Pe

namespace Pe
open Go
variable {T:Nat→Option Fn} {A:Oracle}
theorem tmod_in {n p:Int} (hp:0<p):-p<n.tmod p∧n.tmod p<p:=by
 have hp0:p≠0:=by omega
 have e:=Int.tmod_eq_emod (a:=n) (b:=p)
 have g1:=Int.emod_nonneg n hp0
 have g2:=Int.emod_lt_of_pos n hp
 refine ⟨?_,Int.tmod_lt_of_pos n hp⟩
 rw [e]
 split
 ·omega
 ·rename_i hx
  have hx':n%p≠0:=fun h0=>hx (.inr (Int.dvd_of_emod_eq_zero h0))
  omega
theorem tmod_tmod {n p:Int} (hp:0<p):(n.tmod p+p).tmod p=n%p:=by
 have e0:=tmod_in (n:=n) hp
 rw [Int.tmod_eq_emod_of_nonneg (by omega),Int.add_emod_right,Int.tmod_eq_emod]
 split
 ·simp
 ·rw [show ((p.natAbs:Nat):Int)=p by omega,Int.sub_emod,Int.emod_self,Int.sub_zero,Int.emod_emod_of_dvd _ (Int.dvd_refl p),Int.emod_emod_of_dvd _ (Int.dvd_refl p)]
def C_reduce (O:Oracle):Prop:=∀p n:Int,0<p→p<1000000→-9000000000000000000≤n→n≤9000000000000000000→ask O F1m [(D.int .i64 p),(D.int .i64 n)]=some ((D.int .i64 (n%p)))
theorem c_reduce (hT:T F1m=some Z1m):C_reduce (den T A):=by
 intro p n hp hp' hn hn'
 have hp0:p≠0:=by omega
 have e0:=tmod_in (n:=n) hp
 have h1:IntKind.i64.wrap (n.tmod p+p)=n.tmod p+p:=w64 (by omega)
 refine ask_of hT rfl ?_
 simp -implicitDefEqProofs [Z1m,Z1m_B,hp0,h1,tmod_tmod hp]
def cf (l:List Int) (i:Nat):Int:=l.getD i 0
theorem cf_lt {l:List Int} {i:Nat} (h:i<l.length):cf l i=l[i]:=by simp [cf,h]
theorem cf_ge {l:List Int} {i:Nat} (h:l.length≤i):cf l i=0:=by simp [cf,h]
def C_at (O:Oracle):Prop:=∀(l:List Int) (i:Nat),i<9000000000000000000→ask O F1t [(D.sl .leaf (ints .i64 l)),(D.int .i64 i)]=some ((D.int .i64 (cf l i)))
theorem c_at (hT:T F1t=some Z1t):C_at (den T A):=by
 intro l i hi
 refine ask_of hT rfl ?_
 by_cases h:i<l.length
 ·have h1:l[i]? = some l[i]:=List.getElem?_eq_getElem h
  have h2:(i:Int)<(l.length:Int):=by omega
  simp -implicitDefEqProofs [Z1t,Z1t_B,h1,h2,dn_cond,cf_lt h]
 ·have h2:¬ (i:Int)<(l.length:Int):=by omega
  simp -implicitDefEqProofs [Z1t,Z1t_B,h2,dn_cond,cf_ge (Nat.le_of_not_lt h)]
def tlen (l:List Int):Nat→Nat
 | 0=>0
 | n+1=>if cf l n=0 then tlen l n else n+1
def trim (l:List Int):List Int:=l.take (tlen l l.length)
theorem tlen_le (l:List Int):∀n,tlen l n≤n
 | 0=>Nat.le_refl 0
 | n+1=>by
  simp only [tlen]
  split
  ·have:=tlen_le l n; omega
  ·exact Nat.le_refl _
theorem l_trimmed {O:Oracle} {l:List Int} (hl:l.length<1000000):∀(n:Nat),n≤l.length →
 dn O 0 (.loop Z1y_L0) ⟨[(0,(.d (.sl .leaf (ints .i64 l)))),(3,(.d (.int .i64 n)))],[]⟩=some (.exit 0,⟨[(0,(.d (.sl .leaf (ints .i64 l)))),(3,(.d (.int .i64 (tlen l n)))),(15,(.d (.bool false)))],[]⟩)
 | 0,_=>dn_stop (by simp -implicitDefEqProofs [Z1y_L0,dn_cond,tlen])
 | n+1,hn=>by
  have hlt:n<l.length:=by omega
  have h1:l[n]? = some l[n]:=List.getElem?_eq_getElem hlt
  have h2:IntKind.i64.wrap (n:Int)=n:=w64 (by omega)
  have h3:(0:Int)<(n:Int)+1:=by omega
  by_cases h0:l[n]=0
  ·have e:tlen l (n+1)=tlen l n:=by simp [tlen,cf_lt hlt,h0]
   rw [e]
   exact dn_round (by simp -implicitDefEqProofs [Z1y_L0,dn_cond,h1,h2,h3,h0]) (l_trimmed hl n (by omega))
  ·have e:tlen l (n+1)=n+1:=by simp [tlen,cf_lt hlt,h0]
   rw [e]
   exact dn_stop (by simp -implicitDefEqProofs [Z1y_L0,dn_cond,h1,h2,h3,h0])
def C_trimmed (O:Oracle):Prop:=∀l:List Int,l.length<1000000→ask O F1y [(D.sl .leaf (ints .i64 l))]=some ((D.sl .leaf (ints .i64 (trim l))))
theorem c_trimmed (hT:T F1y=some Z1y):C_trimmed (den T A):=by
 intro l hl
 refine ask_of hT rfl ?_
 have ht:=tlen_le l l.length
 simp -implicitDefEqProofs [Z1y,Z1y_B,l_trimmed hl l.length (Nat.le_refl _),ht,trim]
def upd (f:Nat→Int):Nat→Nat→List Int→List Int
 | 0,_,l=>l
 | m+1,i,l=>upd f m (i+1) (l.set i (f i))
theorem upd_length (f:Nat→Int):∀(m i:Nat) (l:List Int),(upd f m i l).length=l.length
 | 0,_,_=>rfl
 | m+1,i,l=>by rw [upd,upd_length f m]; simp
theorem upd_get (f:Nat→Int):∀(m i:Nat) (l:List Int) (j:Nat),(upd f m i l)[j]? = if i≤j∧j<i+m∧j<l.length then some (f j) else l[j]?
 | 0,i,l,j=>by rw [upd,if_neg (by omega)]
 | m+1,i,l,j=>by
  rw [upd,upd_get f m,List.length_set]
  by_cases h1:i+1≤j∧j<i+1+m∧j<l.length
  ·rw [if_pos h1,if_pos (by omega)]
  ·rw [if_neg h1]
   by_cases h2:j=i
   ·subst h2
    by_cases h3:j<l.length
    ·rw [if_pos (by omega),List.getElem?_set_self h3]
    ·rw [if_neg (by omega),List.getElem?_eq_none (by simpa using h3),List.getElem?_eq_none (by omega)]
   ·rw [List.getElem?_set_ne (Ne.symm h2),if_neg (by omega)]
theorem upd_all (f:Nat→Int) (n:Nat) (l:List Int) (hl:l.length=n):upd f n 0 l=(List.range n).map f:=by
 apply List.ext_getElem?
 intro j
 rw [upd_get,List.getElem?_map]
 by_cases hj:j<n
 ·rw [if_pos (by omega),List.getElem?_range hj]; rfl
 ·rw [if_neg (by omega),List.getElem?_eq_none (by omega),List.getElem?_eq_none (by simpa using hj)]; rfl
def Small (b:Int) (l:List Int):Prop:=∀x∈l,-b≤x∧x≤b
theorem Small.le {b:Int} {l:List Int} (h:Small b l) (hb:0≤b) (i:Nat):-b≤cf l i∧cf l i≤b:=by
 rw [Pe.cf,List.getD_eq_getElem?_getD]
 cases hq:l[i]? with
 | none=>simp; omega
 | some x=>exact h x (List.mem_of_getElem? hq)
def lin (p:Int) (a b:List Int) (k:Int) (i:Nat):Int:=(cf a i+k*cf b i)%p
def comb (p:Int) (a b:List Int) (k:Int):List Int:=trim ((List.range (max a.length b.length)).map (lin p a b k))
theorem mul_small {x y b c:Int} (hx:-b≤x∧x≤b) (hy:-c≤y∧y≤c) (_hb:0≤b):-(b*c)≤x*y∧x*y≤b*c:=by
 have hc:0≤c:=by omega
 have h1:0≤(b-x)*(c+y):=Int.mul_nonneg (by omega) (by omega)
 have h2:0≤(b+x)*(c-y):=Int.mul_nonneg (by omega) (by omega)
 have h3:0≤(b-x)*(c-y):=Int.mul_nonneg (by omega) (by omega)
 have h4:0≤(b+x)*(c+y):=Int.mul_nonneg (by omega) (by omega)
 have e1:(b-x)*(c+y)=b*c+b*y-x*c-x*y:=by simp only [Int.sub_mul,Int.mul_add]; omega
 have e2:(b+x)*(c-y)=b*c-b*y+x*c-x*y:=by simp only [Int.add_mul,Int.mul_sub]; omega
 have e3:(b-x)*(c-y)=b*c-b*y-x*c+x*y:=by simp only [Int.sub_mul,Int.mul_sub]; omega
 have e4:(b+x)*(c+y)=b*c+b*y+x*c+x*y:=by simp only [Int.add_mul,Int.mul_add]; omega
 constructor <;> omega
theorem l_combine {O:Oracle} (hat:C_at O) (hred:C_reduce O) {p k:Int} {a b:List Int} (hp:0<p∧p<1000000) (ha:Small 1000000 a) (hb:Small 1000000 b) (hk:-1000000≤k∧k≤1000000) {n:Nat} (hn:n<1000000) :
 ∀(m i:Nat) (cur:List Int),i+m=n→cur.length=n →
 dn O 0 (.loop Z1c_L0) ⟨[(0,(.d (.int .i64 p))),(1,(.d (.sl .leaf (ints .i64 a)))),(2,(.d (.sl .leaf (ints .i64 b)))),(3,(.d (.int .i64 k))),(9,.sl 0 [] 0 n (some n)),(18,(.d (.int .i64 n))),(19,(.d (.int .i64 i)))],[.sl false .leaf (ints .i64 cur)]⟩ =
  some (.exit 0,⟨[(0,(.d (.int .i64 p))),(1,(.d (.sl .leaf (ints .i64 a)))),(2,(.d (.sl .leaf (ints .i64 b)))),(3,(.d (.int .i64 k))),(9,.sl 0 [] 0 n (some n)),(18,(.d (.int .i64 n))),(19,(.d (.int .i64 n))),(20,(.d (.bool false)))],[.sl false .leaf (ints .i64 (upd (lin p a b k) m i cur))]⟩)
 | 0,i,cur,hi,hc=>by
  have:i=n:=by omega
  subst this
  exact dn_stop (by simp -implicitDefEqProofs [Z1c_L0,dn_cond,upd])
 | m+1,i,cur,hi,hc=>by
  have h1:(i:Int)<(n:Int):=by omega
  have hin:i<n:=by omega
  have e1:=hat a i (by omega)
  have e2:=hat b i (by omega)
  have ga:=ha.le (by omega) i
  have gb:=hb.le (by omega) i
  have gm:=mul_small hk gb (by omega)
  have w1:IntKind.i64.wrap (k*cf b i)=k*cf b i:=w64 (by omega)
  have w2:IntKind.i64.wrap (cf a i+k*cf b i)=cf a i+k*cf b i:=w64 (by omega)
  have e3:=hred p (cf a i+k*cf b i) hp.1 hp.2 (by omega) (by omega)
  have w3:IntKind.i64.wrap ((i:Int)+1)=((i+1:Nat):Int):=by rw [w64 (by omega)]; omega
  have hcur:cur[i]? = some cur[i]:=List.getElem?_eq_getElem (by omega)
  refine dn_round ?_ (l_combine hat hred hp ha hb hk hn m (i+1) (cur.set i (lin p a b k i)) (by omega) (by simpa using hc))
  simp -implicitDefEqProofs [Z1c_L0,dn_cond,h1,hin,e1,e2,w1,w2,e3,w3,hcur,lin]
def C_combine (O:Oracle):Prop:=∀(p k:Int) (a b:List Int),0<p→p<1000000→Small 1000000 a→Small 1000000 b→-1000000≤k→k≤1000000→a.length<1000000→b.length<1000000 →
 ask O F1c [(D.int .i64 p),(D.sl .leaf (ints .i64 a)),(D.sl .leaf (ints .i64 b)),(D.int .i64 k)]=some ((D.sl .leaf (ints .i64 (comb p a b k))))
theorem c_combine (hT:T F1c=some Z1c) (hat:C_at (den T A)) (hred:C_reduce (den T A)) (htr:C_trimmed (den T A)):C_combine (den T A):=by
 intro p k a b hp hp' ha hb hk hk' hla hlb
 have hl:=l_combine hat hred ⟨hp,hp'⟩ ha hb ⟨hk,hk'⟩ (n:=max a.length b.length) (by omega) (max a.length b.length) 0 (List.replicate (max a.length b.length) 0) (by omega) (by simp)
 rw [upd_all _ _ _ (by simp)] at hl
 have e1:=htr ((List.range (max a.length b.length)).map (lin p a b k)) (by simp; omega)
 have emax:(if a.length<b.length then (b.length:Int) else (a.length:Int))=((max a.length b.length:Nat):Int):=by
  split <;> omega
 have h64:max a.length b.length*8≤1099511627776:=by omega
 refine ask_of hT rfl ?_
 unfold comb
 generalize max a.length b.length=n at *
 rw [show ((0:Nat):Int)=0 from rfl] at hl
 have htk:((List.range n).map (lin p a b k)).take n=(List.range n).map (lin p a b k):=List.take_of_length_le (by simp)
 simp -implicitDefEqProofs [Z1c,Z1c_B,emax,h64,hl,e1,htk]
end Pe

namespace Pe
open Go
variable {T:Nat→Option Fn} {A:Oracle}
def addTo (x:Int) (b:List Int) (i:Nat):Nat→Nat→List Int→List Int
 | 0,_,cur=>cur
 | m+1,k,cur=>addTo x b i m (k+1) (cur.set (i+k) (cf cur (i+k)+x*cf b k))
theorem addTo_length (x:Int) (b:List Int) (i:Nat):∀(m k:Nat) (cur:List Int),(addTo x b i m k cur).length=cur.length
 | 0,_,_=>rfl
 | m+1,k,cur=>by rw [addTo,addTo_length]; simp
theorem cf_set (l:List Int) (i:Nat) (x:Int) (j:Nat):cf (l.set i x) j=if j=i∧i<l.length then x else cf l j:=by
 unfold cf
 rw [List.getD_eq_getElem?_getD,List.getD_eq_getElem?_getD,List.getElem?_set]
 by_cases h:i=j
 ·subst h
  by_cases h2:i<l.length
  ·simp [h2]
  ·simp [h2]
 ·rw [if_neg h,if_neg (by omega)]
theorem addTo_cf (x:Int) (b:List Int) (i:Nat):∀(m k:Nat) (cur:List Int) (j:Nat),i+k+m≤cur.length→cf (addTo x b i m k cur) j=cf cur j+if i+k≤j∧j<i+k+m then x*cf b (j-i) else 0
 | 0,k,cur,j,_=>by rw [addTo,if_neg (by omega)]; omega
 | m+1,k,cur,j,h=>by
  rw [addTo,addTo_cf x b i m (k+1) _ j (by rw [List.length_set]; omega),cf_set]
  by_cases hj:j=i+k
  ·subst hj
   rw [if_pos ⟨rfl,by omega⟩,if_neg (by omega),if_pos (by omega),show i+k-i=k by omega]
   omega
  ·rw [if_neg (by omega)]
   by_cases h2:i+k+1≤j∧j<i+k+1+m
   ·rw [if_pos (by omega),if_pos (by omega)]
   ·rw [if_neg (by omega),if_neg (by omega)]
theorem Small.of_cf {B:Int} (_hB:0≤B) {l:List Int} (h:∀j,-B≤cf l j∧cf l j≤B):Small B l:=by
 intro x hx
 obtain ⟨j,hj,rfl⟩:=List.getElem_of_mem hx
 have:=h j
 rwa [cf_lt hj] at this
theorem l_times0 {O:Oracle} {p x:Int} {b:List Int} {i la nb:Nat} {a:List Int} (hx:-1000≤x∧x≤1000) (hb:Small 1000 b) (hi:i<10000) (hbl:b.length<10000) {n:Nat} (hn:i+b.length≤n) (hn':n<1000000) :
 ∀(m k:Nat) (cur:List Int),k+m=b.length→cur.length=n→(∀j,i+k≤j→-9000000000000≤cf cur j∧cf cur j≤9000000000000) →
 dn O 0 (.loop Z1q_L0) ⟨[(0,(.d (.int .i64 p))),(2,(.d (.sl .leaf (ints .i64 b)))),(7,.sl 0 [] 0 n (some n)),(8,(.d (.int .i64 i))),(9,(.d (.int .i64 x))),(29,(.d (.sl .leaf (ints .i64 a)))),(30,(.d (.int .i64 la))),(31,(.d (.int .i64 nb))),(36,(.d (.sl .leaf (ints .i64 b)))),(37,(.d (.int .i64 b.length))),(38,(.d (.int .i64 k)))],[.sl false .leaf (ints .i64 cur)]⟩ =
  some (.exit 2,⟨[(0,(.d (.int .i64 p))),(2,(.d (.sl .leaf (ints .i64 b)))),(7,.sl 0 [] 0 n (some n)),(8,(.d (.int .i64 i))),(9,(.d (.int .i64 x))),(29,(.d (.sl .leaf (ints .i64 a)))),(30,(.d (.int .i64 la))),(31,(.d (.int .i64 nb))),(36,(.d (.sl .leaf (ints .i64 b)))),(37,(.d (.int .i64 b.length))),(38,(.d (.int .i64 b.length))),(39,(.d (.bool false)))],[.sl false .leaf (ints .i64 (addTo x b i m k cur))]⟩)
 | 0,k,cur,hk,hc,hs=>by
  have:k=b.length:=by omega
  subst this
  exact dn_stop (by simp -implicitDefEqProofs [Z1q_L0,dn_cond,addTo])
 | m+1,k,cur,hk,hc,hs=>by
  have h1:(k:Int)<(b.length:Int):=by omega
  have hkl:k<b.length:=by omega
  have hbk:b[k]=cf b k:=(cf_lt hkl).symm
  have w1:IntKind.i64.wrap ((i:Int)+(k:Int))=((i+k:Nat):Int):=by rw [w64 (by omega)]; omega
  have hik:i+k<n:=by omega
  have t1:(0:Int)≤(i:Int)+(k:Int):=by omega
  have t2:((i:Int)+(k:Int)).toNat=i+k:=by omega
  have hikc:i+k<cur.length:=by omega
  have hck:cur[i+k]=cf cur (i+k):=(cf_lt hikc).symm
  have gb:=hb.le (by omega) k
  have gc:=hs (i+k) (by omega)
  have gm:=mul_small hx gb (by omega)
  have w2:IntKind.i64.wrap (x*cf b k)=x*cf b k:=w64 (by omega)
  have w3:IntKind.i64.wrap (cf cur (i+k)+x*cf b k)=cf cur (i+k)+x*cf b k:=w64 (by omega)
  have w4:IntKind.i64.wrap ((k:Int)+1)=((k+1:Nat):Int):=by rw [w64 (by omega)]; omega
  refine dn_round ?_ (l_times0 hx hb hi hbl hn hn' m (k+1) (cur.set (i+k) (cf cur (i+k)+x*cf b k)) (by omega) (by simpa using hc) (fun j hj=>by rw [cf_set,if_neg (by omega)]; exact hs j (by omega)))
  simp -implicitDefEqProofs [Z1q_L0,dn_cond,hkl,hbk,w1,t1,t2,hik,hikc,hck,w2,w3,w4]
def rowsL (a b:List Int):Nat→Nat→List Int→List Int
 | 0,_,cur=>cur
 | m+1,i,cur=>rowsL a b m (i+1) (addTo (cf a i) b i b.length 0 cur)
theorem rowsL_length (a b:List Int):∀(m i:Nat) (cur:List Int),(rowsL a b m i cur).length=cur.length
 | 0,_,_=>rfl
 | m+1,i,cur=>by rw [rowsL,rowsL_length,addTo_length]
theorem addTo_bound {x:Int} {b:List Int} {i:Nat} {cur:List Int} {M:Int} (hx:-1000≤x∧x≤1000) (hb:Small 1000 b) (hl:i+b.length≤cur.length) (h:∀j,-M≤cf cur j∧cf cur j≤M) (j:Nat) :
 -(M+1000000)≤cf (addTo x b i b.length 0 cur) j∧cf (addTo x b i b.length 0 cur) j≤M+1000000:=by
 rw [addTo_cf _ _ _ _ _ _ _ (by omega)]
 have h1:=h j
 have h2:=mul_small hx (hb.le (by omega) (j-i)) (by omega)
 split <;> omega
theorem l_times1 {O:Oracle} {p:Int} {a b:List Int} (ha:Small 1000 a) (hb:Small 1000 b) (hal:a.length<10000) (hbl:b.length<10000) (hb0:0<b.length) {n:Nat} (hn:n=a.length+b.length-1) :
 ∀(m i:Nat) (cur:List Int),i+m=a.length→cur.length=n→(∀j,-((i:Int)*1000000)≤cf cur j∧cf cur j≤(i:Int)*1000000) →
 dn O 0 (.loop Z1q_L1) ⟨[(0,(.d (.int .i64 p))),(2,(.d (.sl .leaf (ints .i64 b)))),(7,.sl 0 [] 0 n (some n)),(29,(.d (.sl .leaf (ints .i64 a)))),(30,(.d (.int .i64 a.length))),(31,(.d (.int .i64 i)))],[.sl false .leaf (ints .i64 cur)]⟩ =
  some (.exit 0,⟨[(0,(.d (.int .i64 p))),(2,(.d (.sl .leaf (ints .i64 b)))),(7,.sl 0 [] 0 n (some n)),(29,(.d (.sl .leaf (ints .i64 a)))),(30,(.d (.int .i64 a.length))),(31,(.d (.int .i64 a.length))),(32,(.d (.bool false)))],[.sl false .leaf (ints .i64 (rowsL a b m i cur))]⟩):=by
 intro m
 induction m with
 | zero=>
  intro i cur hi hc hs
  have:i=a.length:=by omega
  subst this
  exact dn_stop (by simp -implicitDefEqProofs [Z1q_L1,dn_cond,rowsL])
 | succ m ih=>
  intro i cur hi hc hs
  have hil:i<a.length:=by omega
  have hai:a[i]=cf a i:=(cf_lt hil).symm
  have gx:=ha.le (by omega) i
  have q1:i<10000:=by omega
  have q2:i+b.length≤n:=by omega
  have q3:n<1000000:=by omega
  have q4:∀j,i+0≤j→-9000000000000≤cf cur j∧cf cur j≤9000000000000:=fun j _=>by
   have h9:=hs j
   omega
  have h0:=l_times0 (O:=O) (p:=p) (a:=a) (la:=a.length) (nb:=i) gx hb q1 hbl q2 q3 b.length 0 cur (Nat.zero_add _) hc q4
  have e0:((0:Nat):Int)=0:=rfl
  rw [e0] at h0
  have w4:IntKind.i64.wrap ((i:Int)+1)=((i+1:Nat):Int):=(w64 (x:=(i:Int)+1) (by omega)).trans (by omega)
  have hnew:∀j,-(((i+1:Nat):Int)*1000000)≤cf (addTo (cf a i) b i b.length 0 cur) j∧cf (addTo (cf a i) b i b.length 0 cur) j≤((i+1:Nat):Int)*1000000:=by
   intro j
   have:=addTo_bound (x:=cf a i) (b:=b) (i:=i) (cur:=cur) gx hb (by omega) hs j
   omega
  refine dn_round ?_ (ih (i+1) (addTo (cf a i) b i b.length 0 cur) (by omega) (by rw [addTo_length]; exact hc) hnew)
  simp -implicitDefEqProofs [Z1q_L1,dn_cond,hil,hai,h0,w4]
theorem l_times2 {O:Oracle} {p:Int} {out:List Int} (hp:0<p) {n:Nat} (hn:n<1000000) (hout:out.length=n) (hpos:∀j,-9000000000000000≤cf out j∧cf out j≤9000000000000000) :
 ∀(m i:Nat) (cur:List Int),i+m=n→cur.length=n→(∀j,i≤j→cf cur j=cf out j) →
 dn O 0 (.loop Z1q_L2) ⟨[(0,(.d (.int .i64 p))),(7,.sl 0 [] 0 n (some n)),(56,.sl 0 [] 0 n (some n)),(57,(.d (.int .i64 n))),(58,(.d (.int .i64 i)))],[.sl false .leaf (ints .i64 cur)]⟩ =
  some (.exit 4,⟨[(0,(.d (.int .i64 p))),(7,.sl 0 [] 0 n (some n)),(56,.sl 0 [] 0 n (some n)),(57,(.d (.int .i64 n))),(58,(.d (.int .i64 n))),(59,(.d (.bool false)))],[.sl false .leaf (ints .i64 (upd (fun j=>(cf out j).tmod p) m i cur))]⟩)
 | 0,i,cur,hi,hc,hs=>by
  have:i=n:=by omega
  subst this
  exact dn_stop (by simp -implicitDefEqProofs [Z1q_L2,dn_cond,upd])
 | m+1,i,cur,hi,hc,hs=>by
  have hp0:p≠0:=by omega
  have hin:i<n:=by omega
  have hic:i<cur.length:=by omega
  have hci:cur[i]=cf out i:=by rw [←cf_lt hic]; exact hs i (by omega)
  have w4:IntKind.i64.wrap ((i:Int)+1)=((i+1:Nat):Int):=by rw [w64 (by omega)]; omega
  refine dn_round ?_ (l_times2 hp hn hout hpos m (i+1) (cur.set i ((cf out i).tmod p)) (by omega) (by simpa using hc) (fun j hj=>by rw [cf_set,if_neg (by omega)]; exact hs j (by omega)))
  simp -implicitDefEqProofs [Z1q_L2,dn_cond,hin,hic,hci,hp0,w4]
def conv (a b:List Int):Nat→Nat→Int
 | 0,_=>0
 | m+1,j=>conv a b m j+if m≤j then cf a m*cf b (j-m) else 0
theorem rowsL_conv (a b:List Int):∀(m i:Nat) (cur:List Int) (j:Nat),i+m=a.length→a.length+b.length≤cur.length+1→0<b.length→(cf cur j=conv a b i j)→(∀j',cf cur j'=conv a b i j')→cf (rowsL a b m i cur) j=conv a b (i+m) j
 | 0,i,cur,j,_,_,_,h,_=>h
 | m+1,i,cur,j,hi,hl,hb,h,hall=>by
  have step:∀j',cf (addTo (cf a i) b i b.length 0 cur) j'=conv a b (i+1) j':=by
   intro j'
   rw [addTo_cf _ _ _ _ _ _ _ (by omega),hall j',conv]
   by_cases h1:i+0≤j'∧j'<i+0+b.length
   ·rw [if_pos h1,if_pos (by omega)]
   ·rw [if_neg h1]
    by_cases h2:i≤j'
    ·rw [if_pos h2,cf_ge (l:=b) (by omega),Int.mul_zero]
    ·rw [if_neg h2]
  rw [rowsL,show i+(m+1)=(i+1)+m by omega]
  exact rowsL_conv a b m (i+1) _ j (by omega) (by rw [addTo_length]; exact hl) hb (step j) step
def Can (p:Int) (l:List Int):Prop:=∀x∈l,0≤x∧x<p
theorem Can.small {p:Int} {l:List Int} (h:Can p l) {b:Int} (hp:p≤b):Small b l:=fun x hx=>by have:=h x hx; omega
theorem Can.le {p:Int} {l:List Int} (h:Can p l) (hp:0<p) (i:Nat):0≤cf l i∧cf l i<p:=by
 by_cases hi:i<l.length
 ·rw [cf_lt hi]; exact h _ (List.getElem_mem hi)
 ·rw [cf_ge (by omega)]; omega
theorem conv_nonneg {p:Int} {a b:List Int} (hp:0<p) (ha:Can p a) (hb:Can p b):∀m j,0≤conv a b m j
 | 0,j=>by simp [conv]
 | m+1,j=>by
  have:=conv_nonneg hp ha hb m j
  rw [conv]
  split
  ·have:=Int.mul_nonneg (ha.le hp m).1 (hb.le hp (j-m)).1
   omega
  ·omega
def mul (p:Int) (a b:List Int):List Int:=trim ((List.range (a.length+b.length-1)).map fun j=>conv a b a.length j%p)
theorem tlen_zero {l:List Int}:∀n,(∀j,j<n→cf l j=0)→tlen l n=0
 | 0,_=>rfl
 | n+1,h=>by
  rw [tlen,if_pos (h n (by omega))]
  exact tlen_zero n fun j hj=>h j (by omega)
theorem conv_nil (a:List Int):∀m j,conv a [] m j=0
 | 0,_=>rfl
 | m+1,j=>by rw [conv,conv_nil a m j,cf_ge (l:=[]) (by simp)]; simp
theorem cf_map_range (f:Nat→Int) (n j:Nat) (hj:j<n):cf ((List.range n).map f) j=f j:=by
 rw [cf_lt (by simpa using hj)]; simp
theorem mul_nil_left (p:Int) (b:List Int):mul p [] b=[]:=by
 unfold mul trim
 rw [tlen_zero,List.take_zero]
 intro j hj
 rw [cf_map_range _ _ _ (by simpa using hj)]
 simp [conv]
theorem mul_nil_right (p:Int) (a:List Int):mul p a []=[]:=by
 unfold mul trim
 rw [tlen_zero,List.take_zero]
 intro j hj
 rw [cf_map_range _ _ _ (by simpa using hj),conv_nil]
 simp
def C_times (O:Oracle):Prop:=∀(p:Int) (a b:List Int),0<p→p<1000→Can p a→Can p b→a.length<10000→b.length<10000 →
 ask O F1q [(D.int .i64 p),(D.sl .leaf (ints .i64 a)),(D.sl .leaf (ints .i64 b))]=some ((D.sl .leaf (ints .i64 (mul p a b))))
theorem c_times (hT:T F1q=some Z1q) (htr:C_trimmed (den T A)):C_times (den T A):=by
 intro p a b hp hp' ha hb hal hbl
 refine ask_of hT rfl ?_
 by_cases h1:a=[]
 ·subst h1
  rw [mul_nil_left]
  simp -implicitDefEqProofs [Z1q,Z1q_B,dn_cond,ints_nil]
 ·by_cases h2:b=[]
  ·subst h2
   have hal0:a.length≠0:=by simpa using h1
   rw [mul_nil_right]
   simp -implicitDefEqProofs [Z1q,Z1q_B,dn_cond,ints_nil,h1]
  ·have g1:0<a.length:=List.length_pos_iff.2 h1
   have g2:0<b.length:=List.length_pos_iff.2 h2
   have l1:=l_times1 (O:=den T A) (p:=p) (ha.small (b:=1000) (by omega)) (hb.small (b:=1000) (by omega)) hal hbl g2 rfl a.length 0 (List.replicate (a.length+b.length-1) 0) (Nat.zero_add _) (by simp) (fun j=>by
    have:cf (List.replicate (a.length+b.length-1) 0) j=0:=by
     by_cases hj:j<a.length+b.length-1
     ·rw [cf_lt (by simpa using hj)]; simp
     ·exact cf_ge (by simp; omega)
    rw [this]; simp)
   have hz:∀j,cf (List.replicate (a.length+b.length-1) (0:Int)) j=0:=fun j=>by
    by_cases hj:j<a.length+b.length-1
    ·rw [cf_lt (by simpa using hj)]; simp
    ·exact cf_ge (by simp; omega)
   have hrl:(rowsL a b a.length 0 (List.replicate (a.length+b.length-1) 0)).length=a.length+b.length-1:=by rw [rowsL_length]; simp
   have hrc:∀j,cf (rowsL a b a.length 0 (List.replicate (a.length+b.length-1) 0)) j=conv a b a.length j:=fun j=>by
    have:=rowsL_conv a b a.length 0 (List.replicate (a.length+b.length-1) 0) j (Nat.zero_add _) (by simp; omega) g2 (by rw [hz]; rfl) (fun j'=>by rw [hz]; rfl)
    rwa [Nat.zero_add] at this
   have hcb:∀m j,conv a b m j≤(m:Int)*1000000:=by
    intro m
    induction m with
    | zero=>intro j; simp [conv]
    | succ m ih=>
     intro j
     have h3:=ih j
     have h4:=mul_small ((ha.small (b:=1000) (by omega)).le (by omega) m) ((hb.small (b:=1000) (by omega)).le (by omega) (j-m)) (by omega)
     rw [conv]
     split <;> omega
   have l2:=l_times2 (O:=den T A) (p:=p) (out:=rowsL a b a.length 0 (List.replicate (a.length+b.length-1) 0)) hp (n:=a.length+b.length-1) (by omega) hrl (fun j=>by
    rw [hrc]
    have h3:=conv_nonneg hp ha hb a.length j
    have h4:=hcb a.length j
    omega) (a.length+b.length-1) 0 (rowsL a b a.length 0 (List.replicate (a.length+b.length-1) 0)) (Nat.zero_add _) hrl (fun _ _=>rfl)
   rw [upd_all _ _ _ hrl] at l2
   have hfun:(fun j=>(cf (rowsL a b a.length 0 (List.replicate (a.length+b.length-1) 0)) j).tmod p)=fun j=>conv a b a.length j%p:=by
    funext j
    rw [hrc,Int.tmod_eq_emod_of_nonneg (conv_nonneg hp ha hb a.length j)]
   rw [hfun] at l2
   have e0:((0:Nat):Int)=0:=rfl
   rw [e0] at l1 l2
   have e1:=htr ((List.range (a.length+b.length-1)).map fun j=>conv a b a.length j%p) (by simp; omega)
   have n1:a.length≠0:=by omega
   have n2:b.length≠0:=by omega
   have w1:IntKind.i64.wrap ((a.length:Int)+(b.length:Int))=(a.length:Int)+(b.length:Int):=w64 (by omega)
   have w2:IntKind.i64.wrap ((a.length:Int)+(b.length:Int)-1)=((a.length+b.length-1:Nat):Int):=(w64 (x:=(a.length:Int)+(b.length:Int)-1) (by omega)).trans (by omega)
   have h8:(a.length+b.length-1)*8≤1099511627776:=by omega
   unfold mul
   generalize a.length+b.length-1=n at *
   have htk:((List.range n).map fun j=>conv a b a.length j%p).take n=(List.range n).map fun j=>conv a b a.length j%p:=List.take_of_length_le (by simp)
   simp -implicitDefEqProofs [Z1q,Z1q_B,dn_cond,h1,h2,w1,w2,h8,l1,l2,e1,htk]
end Pe

namespace Pe
open Go
variable {T:Nat→Option Fn} {A:Oracle}
def ipow (p n:Int):Nat→Int
 | 0=>1
 | m+1=>ipow p n m*n%p
def inv (p n:Int):Int:=ipow p n (p-2).toNat
theorem ipow_in {p n:Int} (hp:1<p):∀m,0≤ipow p n m∧ipow p n m<p
 | 0=>by simp [ipow]; omega
 | m+1=>⟨Int.emod_nonneg _ (by omega),Int.emod_lt_of_pos _ (by omega)⟩
theorem l_inverse {O:Oracle} {p n:Int} (hp:1<p) (hp':p<1000) (hn:0≤n∧n<p) {k:Nat} (hk:(k:Int)=p-2):∀(m i:Nat),i+m=k →
 dn O 0 (.loop Z1h_L0) ⟨[(0,(.d (.int .i64 p))),(1,(.d (.int .i64 n))),(5,(.d (.int .i64 (ipow p n i)))),(7,(.d (.int .i64 k))),(8,(.d (.int .i64 i)))],[]⟩=some (.exit 0,⟨[(0,(.d (.int .i64 p))),(1,(.d (.int .i64 n))),(5,(.d (.int .i64 (ipow p n k)))),(7,(.d (.int .i64 k))),(8,(.d (.int .i64 k))),(9,(.d (.bool false)))],[]⟩)
 | 0,i,hi=>by
  have:i=k:=by omega
  subst this
  exact dn_stop (by simp -implicitDefEqProofs [Z1h_L0,dn_cond])
 | m+1,i,hi=>by
  have hik:i<k:=by omega
  have g:=ipow_in (n:=n) hp i
  have hp0:p≠0:=by omega
  have gm:=mul_small (x:=ipow p n i) (y:=n) (b:=1000) (c:=1000) (by omega) (by omega) (by omega)
  have w1:IntKind.i64.wrap (ipow p n i*n)=ipow p n i*n:=w64 (by omega)
  have w2:(ipow p n i*n).tmod p=ipow p n (i+1):=Int.tmod_eq_emod_of_nonneg (Int.mul_nonneg g.1 hn.1)
  have w4:IntKind.i64.wrap ((i:Int)+1)=((i+1:Nat):Int):=(w64 (x:=(i:Int)+1) (by omega)).trans (by omega)
  refine dn_round ?_ (l_inverse hp hp' hn hk m (i+1) (by omega))
  simp -implicitDefEqProofs [Z1h_L0,dn_cond,hik,hp0,w1,w2,w4]
def C_inverse (O:Oracle):Prop:=∀p n:Int,1<p→p<1000→0≤n→n<p→ask O F1h [(D.int .i64 p),(D.int .i64 n)]=some ((D.int .i64 (inv p n)))
theorem c_inverse (hT:T F1h=some Z1h):C_inverse (den T A):=by
 intro p n hp hp' hn hn'
 have hk:(((p-2).toNat:Nat):Int)=p-2:=by omega
 have hl:=l_inverse (O:=den T A) hp hp' ⟨hn,hn'⟩ hk (p-2).toNat 0 (by omega)
 have w1:IntKind.i64.wrap (p-2)=(((p-2).toNat:Nat):Int):=(w64 (x:=p-2) (by omega)).trans (by omega)
 have e0:((0:Nat):Int)=0:=rfl
 rw [e0] at hl
 have e1:ipow p n 0=1:=rfl
 rw [e1] at hl
 refine ask_of hT rfl ?_
 unfold inv
 generalize (p-2).toNat=k at *
 simp -implicitDefEqProofs [Z1h,Z1h_B,w1,hl]
def C_degree (O:Oracle):Prop:=∀l:List Int,l.length<1000000→ask O F1u [(D.sl .leaf (ints .i64 l))]=some ((D.int .i64 ((l.length:Int)-1)))
theorem c_degree (hT:T F1u=some Z1u):C_degree (den T A):=by
 intro l hl
 have w1:IntKind.i64.wrap ((l.length:Int)-1)=(l.length:Int)-1:=w64 (by omega)
 refine ask_of hT rfl ?_
 simp -implicitDefEqProofs [Z1u,Z1u_B,w1]
def lead (l:List Int):Int:=cf l (l.length-1)
def C_lead (O:Oracle):Prop:=∀l:List Int,l.length<1000000→ask O F1w [(D.sl .leaf (ints .i64 l))]=some ((D.int .i64 (lead l)))
theorem c_lead (hT:T F1w=some Z1w):C_lead (den T A):=by
 intro l hl
 refine ask_of hT rfl ?_
 by_cases h:l=[]
 ·subst h
  simp -implicitDefEqProofs [Z1w,Z1w_B,dn_cond,ints_nil,lead,cf]
 ·have h1:0<l.length:=List.length_pos_iff.2 h
  have w1:IntKind.i64.wrap ((l.length:Int)-1)=((l.length-1:Nat):Int):=(w64 (x:=(l.length:Int)-1) (by omega)).trans (by omega)
  have h2:l.length-1<l.length:=by omega
  have h3:l[l.length-1]? = some (lead l):=by
   rw [List.getElem?_eq_getElem h2]; exact congrArg some (cf_lt h2).symm
  have h4:(l.length:Int)≠0:=by omega
  simp -implicitDefEqProofs [Z1w,Z1w_B,dn_cond,h,w1,h3]
def C_within (O:Oracle):Prop:=∀n a b:Int,ask O F24 [(D.int .i64 n),(D.int .i64 a),(D.int .i64 b)]=some ((D.bool (decide (a≤n∧n≤b))))
theorem c_within (hT:T F24=some Z24):C_within (den T A):=by
 intro n a b
 refine ask_of hT rfl ?_
 by_cases h:a≤n <;> simp -implicitDefEqProofs [Z24,Z24_B,h]
def isP (p:Int):Bool:=decide (p=2∨p=3∨p=5∨p=7)
def C_isPrime (O:Oracle):Prop:=∀p:Int,ask O F15 [(D.int .i64 p)]=some ((D.bool (isP p)))
theorem c_isPrime (hT:T F15=some Z15):C_isPrime (den T A):=by
 intro p
 refine ask_of hT rfl ?_
 by_cases h2:p=2
 ·simp -implicitDefEqProofs [Z15,Z15_B,h2,isP]
 ·by_cases h3:p=3
  ·simp -implicitDefEqProofs [Z15,Z15_B,h3,isP]
  ·by_cases h5:p=5
   ·simp -implicitDefEqProofs [Z15,Z15_B,h5,isP]
   ·simp -implicitDefEqProofs [Z15,Z15_B,h2,h3,h5,isP]
def C_scale (O:Oracle):Prop:=∀(p k:Int) (a:List Int),0<p→p<1000000→Small 1000000 a→-1000000≤k→k≤1000000→a.length<1000000 →
 ask O F1o [(D.int .i64 p),(D.sl .leaf (ints .i64 a)),(D.int .i64 k)]=some ((D.sl .leaf (ints .i64 (comb p [] a k))))
theorem c_scale (hT:T F1o=some Z1o) (hc:C_combine (den T A)):C_scale (den T A):=by
 intro p k a hp hp' ha hk hk' hl
 have e1:=hc p k [] a hp hp' (by intro x hx; simp at hx) ha hk hk' (by simp) hl
 rw [ints_nil] at e1
 refine ask_of hT rfl ?_
 simp -implicitDefEqProofs [Z1o,Z1o_B,e1]
def C_letter (O:Oracle):Prop:=ask O F16 []=some ((D.sl .leaf (ints .i64 ([0,1]))))
theorem c_letter (hT:T F16=some Z16):C_letter (den T A):=by
 refine ask_of hT rfl ?_
 simp -implicitDefEqProofs [Z16,Z16_B,ints,List.replicate]
end Pe

namespace Pe
open Go
variable {T:Nat→Option Fn} {A:Oracle}
def subTo (p q:Int) (b:List Int) (i:Nat):Nat→Nat→List Int→List Int
 | 0,_,cur=>cur
 | m+1,k,cur=>subTo p q b i m (k+1) (cur.set (i+k) ((cf cur (i+k)-q*cf b k)%p))
theorem subTo_length (p q:Int) (b:List Int) (i:Nat):∀(m k:Nat) (cur:List Int),(subTo p q b i m k cur).length=cur.length
 | 0,_,_=>rfl
 | m+1,k,cur=>by rw [subTo,subTo_length]; simp
theorem subTo_cf (p q:Int) (b:List Int) (i:Nat):∀(m k:Nat) (cur:List Int) (j:Nat),i+k+m≤cur.length→cf (subTo p q b i m k cur) j=if i+k≤j∧j<i+k+m then (cf cur j-q*cf b (j-i))%p else cf cur j
 | 0,k,cur,j,_=>by rw [subTo,if_neg (by omega)]
 | m+1,k,cur,j,h=>by
  rw [subTo,subTo_cf p q b i m (k+1) _ j (by rw [List.length_set]; omega),cf_set]
  by_cases hj:j=i+k
  ·subst hj
   rw [if_neg (by omega),if_pos ⟨rfl,by omega⟩,if_pos (by omega),show i+k-i=k by omega]
  ·have e:(if j=i+k∧i+k<cur.length then (cf cur (i+k)-q*cf b k)%p else cf cur j)=cf cur j:=if_neg fun h=>hj h.1
   rw [e]
   by_cases h2:i+k+1≤j∧j<i+k+1+m
   ·rw [if_pos (by omega),if_pos (by omega)]
   ·rw [if_neg (by omega),if_neg (by omega)]
theorem Can.of_cf {p:Int} {l:List Int} (h:∀j,j<l.length→0≤cf l j∧cf l j<p):Can p l:=by
 intro x hx
 obtain ⟨j,hj,rfl⟩:=List.getElem_of_mem hx
 have:=h j hj
 rwa [cf_lt hj] at this
theorem subTo_can {p q:Int} {b:List Int} {i:Nat} (hp:0<p) {m k:Nat} {cur:List Int} (hl:i+k+m≤cur.length) (hc:Can p cur):Can p (subTo p q b i m k cur):=by
 apply Can.of_cf
 intro j hj
 rw [subTo_cf _ _ _ _ _ _ _ _ hl]
 split
 ·exact ⟨Int.emod_nonneg _ (by omega),Int.emod_lt_of_pos _ hp⟩
 ·exact hc.le hp j
theorem l_divide0 {O:Oracle} (hred:C_reduce O) {p q by_:Int} {b quo:List Int} {i la nq:Nat} {cp:Option Nat} (hp:0<p) (hp':p<1000) (hq:0≤q∧q<p) (hb:Can p b) (hi:i<10000) (hbl:b.length<10000) (hn:i+b.length≤la) (hn':la<1000000) :
 ∀(m k:Nat) (cur:List Int),k+m=b.length→cur.length=la→Can p cur →
 dn O 0 (.loop Z1d_L0) ⟨[(0,(.d (.int .i64 p))),(2,(.d (.sl .leaf (ints .i64 b)))),(8,.sl 0 [] 0 la cp),(9,.sl 1 [] 0 nq (some nq)),(10,(.d (.int .i64 by_))),(11,(.d (.int .i64 i))),(12,(.d (.int .i64 q))),(57,(.d (.sl .leaf (ints .i64 b)))),(58,(.d (.int .i64 b.length))),(59,(.d (.int .i64 k)))],[.sl false .leaf (ints .i64 cur),.sl false .leaf (ints .i64 quo)]⟩ =
  some (.exit 2,⟨[(0,(.d (.int .i64 p))),(2,(.d (.sl .leaf (ints .i64 b)))),(8,.sl 0 [] 0 la cp),(9,.sl 1 [] 0 nq (some nq)),(10,(.d (.int .i64 by_))),(11,(.d (.int .i64 i))),(12,(.d (.int .i64 q))),(57,(.d (.sl .leaf (ints .i64 b)))),(58,(.d (.int .i64 b.length))),(59,(.d (.int .i64 b.length))),(60,(.d (.bool false)))],[.sl false .leaf (ints .i64 (subTo p q b i m k cur)),.sl false .leaf (ints .i64 quo)]⟩):=by
 intro m
 induction m with
 | zero=>
  intro k cur hk hc hcan
  have:k=b.length:=by omega
  subst this
  exact dn_stop (by simp -implicitDefEqProofs [Z1d_L0,dn_cond,subTo])
 | succ m ih=>
  intro k cur hk hc hcan
  have hkl:k<b.length:=by omega
  have hbk:b[k]=cf b k:=(cf_lt hkl).symm
  have hik:i+k<la:=by omega
  have hikc:i+k<cur.length:=by omega
  have hck:cur[i+k]=cf cur (i+k):=(cf_lt hikc).symm
  have t1:(0:Int)≤(i:Int)+(k:Int):=by omega
  have t2:((i:Int)+(k:Int)).toNat=i+k:=by omega
  have w1:IntKind.i64.wrap ((i:Int)+(k:Int))=((i+k:Nat):Int):=(w64 (x:=(i:Int)+(k:Int)) (by omega)).trans (by omega)
  have gb:=hb.le hp k
  have gc:=hcan.le hp (i+k)
  have gm:=mul_small (x:=q) (y:=cf b k) (b:=1000) (c:=1000) (by omega) (by omega) (by omega)
  have w2:IntKind.i64.wrap (q*cf b k)=q*cf b k:=w64 (by omega)
  have w3:IntKind.i64.wrap (cf cur (i+k)-q*cf b k)=cf cur (i+k)-q*cf b k:=w64 (by omega)
  have w4:IntKind.i64.wrap ((k:Int)+1)=((k+1:Nat):Int):=(w64 (x:=(k:Int)+1) (by omega)).trans (by omega)
  have e3:=hred p (cf cur (i+k)-q*cf b k) hp (by omega) (by omega) (by omega)
  have hcan':Can p (cur.set (i+k) ((cf cur (i+k)-q*cf b k)%p)):=by
   intro x hx
   rcases List.mem_or_eq_of_mem_set hx with h | h
   ·exact hcan x h
   ·subst h; exact ⟨Int.emod_nonneg _ (by omega),Int.emod_lt_of_pos _ hp⟩
  refine dn_round ?_ (ih (k+1) (cur.set (i+k) ((cf cur (i+k)-q*cf b k)%p)) (by omega) (by simpa using hc) hcan')
  simp -implicitDefEqProofs [Z1d_L0,dn_cond,hkl,hbk,w1,t1,t2,hik,hikc,hck,w2,w3,w4,e3]
def dv (p by_:Int) (b:List Int):Nat→List Int×List Int→List Int×List Int
 | 0,r=>r
 | c+1,(cur,quo)=>
  let q:=cf cur (c+b.length-1)*by_%p
  dv p by_ b c (subTo p q b c b.length 0 cur,quo.set c q)
theorem l_divide1 {O:Oracle} (hred:C_reduce O) {p by_:Int} {b:List Int} {la nq:Nat} {cp:Option Nat} (hp:0<p) (hp':p<1000) (hby:0≤by_∧by_<p) (hb:Can p b) (hb0:0<b.length) (hn:nq+b.length=la+1) (hn':la<10000) :
 ∀(c:Nat) (cur quo:List Int),c≤nq→cur.length=la→quo.length=nq→Can p cur →
 dn O 0 (.loop Z1d_L1) ⟨[(0,(.d (.int .i64 p))),(2,(.d (.sl .leaf (ints .i64 b)))),(8,.sl 0 [] 0 la cp),(9,.sl 1 [] 0 nq (some nq)),(10,(.d (.int .i64 by_))),(11,(.d (.int .i64 ((c:Int)-1))))],[.sl false .leaf (ints .i64 cur),.sl false .leaf (ints .i64 quo)]⟩ =
  some (.exit 0,⟨[(0,(.d (.int .i64 p))),(2,(.d (.sl .leaf (ints .i64 b)))),(8,.sl 0 [] 0 la cp),(9,.sl 1 [] 0 nq (some nq)),(10,(.d (.int .i64 by_))),(11,(.d (.int .i64 (-1)))),(38,(.d (.bool false)))],[.sl false .leaf (ints .i64 (dv p by_ b c (cur,quo)).1),.sl false .leaf (ints .i64 (dv p by_ b c (cur,quo)).2)]⟩):=by
 intro c
 induction c with
 | zero=>
  intro cur quo hc h1 h2 hcan
  exact dn_stop (by simp -implicitDefEqProofs [Z1d_L1,dn_cond,dv])
 | succ c ih=>
  intro cur quo hc h1 h2 hcan
  have hp0:p≠0:=by omega
  have t0:(((c+1:Nat):Int)-1)=(c:Int):=by omega
  rw [t0]
  have hil:c+b.length-1<cur.length:=by omega
  have hil2:c+b.length-1<la:=by omega
  have hci:cur[c+b.length-1]=cf cur (c+b.length-1):=(cf_lt hil).symm
  have gc:=hcan.le hp (c+b.length-1)
  have w1:IntKind.i64.wrap ((c:Int)+(b.length:Int))=(c:Int)+(b.length:Int):=w64 (by omega)
  have w2:IntKind.i64.wrap ((c:Int)+(b.length:Int)-1)=((c+b.length-1:Nat):Int):=(w64 (x:=(c:Int)+(b.length:Int)-1) (by omega)).trans (by omega)
  have gm:=mul_small (x:=cf cur (c+b.length-1)) (y:=by_) (b:=1000) (c:=1000) (by omega) (by omega) (by omega)
  have w3:IntKind.i64.wrap (cf cur (c+b.length-1)*by_)=cf cur (c+b.length-1)*by_:=w64 (by omega)
  have w4:(cf cur (c+b.length-1)*by_).tmod p=cf cur (c+b.length-1)*by_%p:=Int.tmod_eq_emod_of_nonneg (Int.mul_nonneg gc.1 hby.1)
  have w5:IntKind.i64.wrap ((c:Int)-1)=(c:Int)-1:=w64 (by omega)
  have hcq:c<quo.length:=by omega
  have hcn:c<nq:=by omega
  have hq:0≤cf cur (c+b.length-1)*by_%p∧cf cur (c+b.length-1)*by_%p<p:=⟨Int.emod_nonneg _ hp0,Int.emod_lt_of_pos _ hp⟩
  have l0:=l_divide0 (by_:=by_) (quo:=quo.set c (cf cur (c+b.length-1)*by_%p)) (nq:=nq) (cp:=cp) hred hp hp' hq hb (i:=c) (by omega) (by omega) (la:=la) (by omega) (by omega) b.length 0 cur (Nat.zero_add _) h1 hcan
  have e0:((0:Nat):Int)=0:=rfl
  rw [e0] at l0
  have ih':=ih (subTo p (cf cur (c+b.length-1)*by_%p) b c b.length 0 cur) (quo.set c (cf cur (c+b.length-1)*by_%p)) (by omega) (by rw [subTo_length]; exact h1) (by simpa using h2) (subTo_can hp (by omega) hcan)
  refine dn_round ?_ ih'
  simp -implicitDefEqProofs [Z1d_L1,dn_cond,hp0,w1,w2,hil,hil2,hci,w3,w4,w5,hcq,hcn,l0]
end Pe

namespace Gq
class CR (α:Type) extends Zero α,One α,Add α,Mul α,Neg α,Sub α where
 add_zero:∀a:α,a+0=a
 add_comm:∀a b:α,a+b=b+a
 add_assoc:∀a b c:α,a+b+c=a+(b+c)
 mul_one:∀a:α,a*1=a
 mul_comm:∀a b:α,a*b=b*a
 mul_assoc:∀a b c:α,a*b*c=a*(b*c)
 mul_add:∀a b c:α,a*(b+c)=a*b+a*c
 add_neg:∀a:α,a + -a=0
 sub_eq:∀a b:α,a-b=a + -b
section
variable {α:Type} [CR α]
theorem add_zero (a:α):a+0=a:=CR.add_zero a
theorem add_comm (a b:α):a+b=b+a:=CR.add_comm a b
theorem add_assoc (a b c:α):a+b+c=a+(b+c):=CR.add_assoc a b c
theorem mul_one (a:α):a*1=a:=CR.mul_one a
theorem mul_comm (a b:α):a*b=b*a:=CR.mul_comm a b
theorem mul_assoc (a b c:α):a*b*c=a*(b*c):=CR.mul_assoc a b c
theorem mul_add (a b c:α):a*(b+c)=a*b+a*c:=CR.mul_add a b c
theorem add_neg (a:α):a + -a=0:=CR.add_neg a
theorem sub_eq (a b:α):a-b=a + -b:=CR.sub_eq a b
end
instance:CR Int where
 add_zero:=Int.add_zero
 add_comm:=Int.add_comm
 add_assoc:=Int.add_assoc
 mul_one:=Int.mul_one
 mul_comm:=Int.mul_comm
 mul_assoc:=Int.mul_assoc
 mul_add:=Int.mul_add
 add_neg:=Int.add_right_neg
 sub_eq:=fun _ _=>Int.sub_eq_add_neg
section
variable {α:Type} [CR α]
def pw (a:α):Nat→α
 | 0=>1
 | n+1=>pw a n*a
instance (priority:=100):HPow α Nat α:=⟨pw⟩
theorem pow_zero (a:α):a^0=1:=rfl
theorem pow_succ (a:α) (n:Nat):a^(n+1)=a^n*a:=rfl
theorem zero_add (a:α):0+a=a:=by rw [add_comm,add_zero]
theorem neg_add (a:α):-a+a=0:=by rw [add_comm,add_neg]
theorem one_mul (a:α):1*a=a:=by rw [mul_comm,mul_one]
theorem add_mul (a b c:α):(a+b)*c=a*c+b*c:=by rw [mul_comm,mul_add,mul_comm c,mul_comm c]
theorem add_left_comm (a b c:α):a+(b+c)=b+(a+c):=by rw [←add_assoc,add_comm a,add_assoc]
theorem mul_left_comm (a b c:α):a*(b*c)=b*(a*c):=by rw [←mul_assoc,mul_comm a,mul_assoc]
theorem add_cancel {a b c:α} (h:a+b=a+c):b=c:=by
 have:-a+(a+b)=-a+(a+c):=by rw [h]
 rwa [←add_assoc,←add_assoc,neg_add,zero_add,zero_add] at this
theorem mul_zero (a:α):a*0=0:=by
 apply add_cancel (a:=a*0)
 rw [←mul_add,add_zero,add_zero]
theorem zero_mul (a:α):0*a=0:=by rw [mul_comm,mul_zero]
theorem neg_of {a b:α} (h:a+b=0):b=-a:=add_cancel (a:=a) (by rw [h,add_neg])
theorem neg_mul (a b:α):-a*b=-(a*b):=neg_of (by rw [←add_mul,add_neg,zero_mul])
theorem neg_neg (a:α):- -a=a:=(neg_of (neg_add a)).symm
theorem neg_zero:-(0:α)=0:=(neg_of (add_zero 0)).symm
theorem neg_add_neg (a b:α):-(a+b)=-a + -b:=by
 apply (neg_of _).symm
 rw [add_assoc,add_left_comm b,←add_assoc,add_neg,zero_add,add_neg]
def nc:Nat→α
 | 0=>0
 | n+1=>nc n+1
theorem nc_add (m n:Nat):nc (m+n)=(nc m+nc n:α):=by
 induction n with
 | zero=>exact (add_zero _).symm
 | succ n ih=>rw [←Nat.add_assoc,nc,nc,ih,add_assoc]
theorem nc_mul (m n:Nat):nc (m*n)=(nc m*nc n:α):=by
 induction n with
 | zero=>exact (mul_zero _).symm
 | succ n ih=>rw [Nat.mul_succ,nc_add,nc,ih,mul_add,mul_one]
def ic:Int→α
 | .ofNat n=>nc n
 | .negSucc n=>-nc (n+1)
theorem ic_zero:ic 0=(0:α):=rfl
theorem ic_one:ic 1=(1:α):=zero_add 1
theorem ic_sub (m n:Nat):ic ((m:Int)-n)=(nc m + -nc n:α):=by
 by_cases h:n≤m
 ·obtain ⟨k,rfl⟩:=Nat.exists_eq_add_of_le h
  have:((n+k:Nat):Int)-n=(k:Nat):=by omega
  rw [this]
  show nc k=_
  rw [nc_add,add_comm (nc n),add_assoc,add_neg,add_zero]
 ·obtain ⟨k,rfl⟩:=Nat.exists_eq_add_of_le (show m+1≤n by omega)
  have:(m:Int)-((m+1+k:Nat):Int)=Int.negSucc k:=by omega
  rw [this]
  show -nc (k+1)=_
  rw [show m+1+k=m+(k+1) by omega,nc_add m,neg_add_neg,←add_assoc,add_neg,zero_add]
theorem int_sub (j:Int):∃m n:Nat,j=(m:Int)-n:=by
 cases j with
 | ofNat m=>exact ⟨m,0,by simp⟩
 | negSucc n=>exact ⟨0,n+1,by omega⟩
theorem ic_add (j k:Int):ic (j+k)=(ic j+ic k:α):=by
 obtain ⟨a,b,rfl⟩:=int_sub j
 obtain ⟨c,d,rfl⟩:=int_sub k
 rw [show ((a:Int)-b)+((c:Int)-d)=((a+c:Nat):Int)-((b+d:Nat):Int) by omega,ic_sub,ic_sub,ic_sub,nc_add,nc_add,neg_add_neg,add_assoc,add_assoc,add_left_comm (nc c)]
theorem ic_neg (j:Int):ic (-j)=(-ic j:α):=neg_of (by rw [←ic_add,Int.add_right_neg]; rfl)
theorem ic_mul (j k:Int):ic (j*k)=(ic j*ic k:α):=by
 obtain ⟨a,b,rfl⟩:=int_sub j
 obtain ⟨c,d,rfl⟩:=int_sub k
 have e:((a:Int)-b)*((c:Int)-d)=((a*c+b*d:Nat):Int)-((a*d+b*c:Nat):Int):=by
  simp only [Int.sub_mul,Int.mul_sub,Int.natCast_add,Int.natCast_mul]; omega
 rw [e,ic_sub,ic_sub,ic_sub,nc_add,nc_add,nc_mul,nc_mul,nc_mul,nc_mul,add_mul,mul_add,mul_add,neg_mul,neg_mul,mul_comm (nc a) (-nc d),neg_mul,mul_comm (nc b) (-nc d),neg_mul,neg_neg,neg_add_neg,mul_comm (nc d) (nc a),mul_comm (nc d) (nc b)]
 simp only [add_assoc,add_left_comm,add_comm]
inductive RE where
 | zero | one
 | i (k:Int)
 | v (n:Nat)
 | add (a b:RE) | mul (a b:RE) | sub (a b:RE)
 | neg (a:RE)
 | pow (a:RE) (n:Nat)
def RE.ev (env:List α):RE→α
 | .zero=>0
 | .one=>1
 | .i k=>ic k
 | .v n=>(env[n]?).getD 0
 | .add a b=>a.ev env+b.ev env
 | .mul a b=>a.ev env*b.ev env
 | .sub a b=>a.ev env-b.ev env
 | .neg a=>-a.ev env
 | .pow a n=>pw (a.ev env) n
abbrev Mon:=List Nat
def insV (n:Nat):Mon→Mon
 | []=>[n]
 | m::r=>if Nat.ble n m then n::m::r else m::insV n r
def mulM:Mon→Mon→Mon
 | [],b=>b
 | n::a,b=>insV n (mulM a b)
def ltM:Mon→Mon→Bool
 | [],[]=>false
 | [],_::_=>true
 | _::_,[]=>false
 | a::r,b::s=>if Nat.beq a b then ltM r s else Nat.blt a b
def eqM:Mon→Mon→Bool
 | [],[]=>true
 | a::r,b::s=>Nat.beq a b&&eqM r s
 | _,_=>false
abbrev Pl:=List (Mon×Int)
def addT (m:Mon) (k:Int):Pl→Pl
 | []=>if k=0 then [] else [(m,k)]
 | (m',k')::r=>if eqM m m' then (if k+k'=0 then r else (m,k+k')::r) else if ltM m m' then (if k=0 then (m',k')::r else (m,k)::(m',k')::r) else (m',k')::addT m k r
def addP:Pl→Pl→Pl
 | [],b=>b
 | (m,k)::a,b=>addT m k (addP a b)
def mulT (m:Mon) (k:Int):Pl→Pl
 | []=>[]
 | (m',k')::r=>addT (mulM m m') (k*k') (mulT m k r)
def mulP:Pl→Pl→Pl
 | [],_=>[]
 | (m,k)::a,b=>addP (mulT m k b) (mulP a b)
def powP (a:Pl):Nat→Pl
 | 0=>[([],1)]
 | n+1=>mulP (powP a n) a
def RE.nf:RE→Pl
 | .zero=>[]
 | .one=>[([],1)]
 | .i k=>addT [] k []
 | .v n=>[([n],1)]
 | .add a b=>addP a.nf b.nf
 | .mul a b=>mulP a.nf b.nf
 | .sub a b=>addP a.nf (mulT [] (-1) b.nf)
 | .neg a=>mulT [] (-1) a.nf
 | .pow a n=>powP a.nf n
def eqP:Pl→Pl→Bool
 | [],[]=>true
 | (m,k)::a,(m',k')::b=>eqM m m'&&decide (k=k')&&eqP a b
 | _,_=>false
def evM (env:List α):Mon→α
 | []=>1
 | n::m=>(env[n]?).getD 0*evM env m
def evP (env:List α):Pl→α
 | []=>0
 | (m,k)::r=>ic k*evM env m+evP env r
theorem eqM_eq:∀{a b:Mon},eqM a b=true→a=b
 | [],[],_=>rfl
 | x::a,y::b,h=>by
  simp only [eqM,Bool.and_eq_true] at h
  rw [Nat.eq_of_beq_eq_true h.1,eqM_eq h.2]
theorem eqP_eq:∀{a b:Pl},eqP a b=true→a=b
 | [],[],_=>rfl
 | (m,k)::a,(m',k')::b,h=>by
  simp only [eqP,Bool.and_eq_true,decide_eq_true_eq] at h
  rw [eqM_eq h.1.1,h.1.2,eqP_eq h.2]
theorem insV_ev (env:List α) (n:Nat):∀m,evM env (insV n m)=(env[n]?).getD 0*evM env m
 | []=>rfl
 | m::r=>by
  unfold insV
  split
  ·rfl
  ·rw [evM,evM,insV_ev env n r,mul_left_comm]
theorem mulM_ev (env:List α):∀a b,evM env (mulM a b)=evM env a*evM env b
 | [],b=>(one_mul _).symm
 | n::a,b=>by rw [mulM,insV_ev,mulM_ev env a b,evM,mul_assoc]
theorem addT_ev (env:List α) (m:Mon) (k:Int):∀r,evP env (addT m k r)=ic k*evM env m+evP env r
 | []=>by
  unfold addT
  split
  ·rename_i h; rw [h,ic_zero,zero_mul,zero_add]
  ·rfl
 | (m',k')::r=>by
  unfold addT
  split
  ·rename_i h
   obtain rfl:=eqM_eq h
   split
   ·rename_i h2
    rw [evP,←add_assoc,←add_mul,←ic_add,h2,ic_zero,zero_mul,zero_add]
   ·rw [evP,evP,ic_add,add_mul,add_assoc]
  ·split
   ·split
    ·rename_i h; rw [h,ic_zero,zero_mul,zero_add]
    ·rfl
   ·rw [evP,addT_ev env m k r,evP,add_left_comm]
theorem addP_ev (env:List α):∀a b,evP env (addP a b)=evP env a+evP env b
 | [],b=>(zero_add _).symm
 | (m,k)::a,b=>by rw [addP,addT_ev,addP_ev env a b,evP,add_assoc]
theorem mulT_ev (env:List α) (m:Mon) (k:Int):∀r,evP env (mulT m k r)=ic k*evM env m*evP env r
 | []=>(mul_zero _).symm
 | (m',k')::r=>by
  rw [mulT,addT_ev,mulT_ev env m k r,evP,mul_add,mulM_ev,ic_mul,mul_assoc,mul_assoc,mul_left_comm (ic k')]
  simp only [mul_assoc]
theorem mulP_ev (env:List α):∀a b,evP env (mulP a b)=evP env a*evP env b
 | [],b=>(zero_mul _).symm
 | (m,k)::a,b=>by rw [mulP,addP_ev,mulT_ev,mulP_ev env a b,evP,add_mul]
theorem one_ev (env:List α):evP env [([],1)]=1:=by simp only [evP,evM,ic_one,mul_one,add_zero]
theorem powP_ev (env:List α) (a:Pl):∀n,evP env (powP a n)=pw (evP env a) n
 | 0=>one_ev env
 | n+1=>by rw [powP,mulP_ev,powP_ev env a n]; rfl
theorem mul_neg (a b:α):a * -b=-(a*b):=by rw [mul_comm,neg_mul,mul_comm]
theorem neg_ev (env:List α) (a:Pl):evP env (mulT [] (-1) a)=-evP env a:=by
 rw [mulT_ev,evM,mul_one,ic_neg,ic_one,neg_mul,one_mul]
theorem nf_ev (env:List α):∀e:RE,evP env e.nf=e.ev env
 | .zero=>rfl
 | .one=>one_ev env
 | .i k=>by rw [RE.nf,addT_ev,evM,mul_one,evP,add_zero]; rfl
 | .v n=>by simp only [RE.nf,evP,evM,ic_one,one_mul,mul_one,add_zero]; rfl
 | .add a b=>by rw [RE.nf,addP_ev,nf_ev env a,nf_ev env b]; rfl
 | .mul a b=>by rw [RE.nf,mulP_ev,nf_ev env a,nf_ev env b]; rfl
 | .sub a b=>by rw [RE.nf,addP_ev,neg_ev,nf_ev env a,nf_ev env b,←sub_eq]; rfl
 | .neg a=>by rw [RE.nf,neg_ev,nf_ev env a]; rfl
 | .pow a n=>by rw [RE.nf,powP_ev,nf_ev env a]; rfl
class Ix {α:Type} (env:List α) (x:α) (n:outParam Nat):Prop where
 h:env[n]? = some x
instance (priority:=1000) {l:List α} {x:α}:Ix (x::l) x 0:=⟨rfl⟩
instance (priority:=500) {l:List α} {x y:α} {n:Nat} [h:Ix l x n]:Ix (y::l) x (n+1):=⟨by simpa using h.h⟩
class Rf (env:List α) (x:α) (e:outParam RE):Prop where
 h:e.ev env=x
variable {env:List α} {x y:α} {a b:RE}
instance:Rf env (0:α) .zero:=⟨rfl⟩
instance:Rf env (1:α) .one:=⟨rfl⟩
instance {k:Int}:Rf env (ic k:α) (.i k):=⟨rfl⟩
instance [h:Rf env x a] [h':Rf env y b]:Rf env (x+y) (.add a b):=⟨by rw [RE.ev,h.h,h'.h]⟩
instance [h:Rf env x a] [h':Rf env y b]:Rf env (x*y) (.mul a b):=⟨by rw [RE.ev,h.h,h'.h]⟩
instance [h:Rf env x a] [h':Rf env y b]:Rf env (x-y) (.sub a b):=⟨by rw [RE.ev,h.h,h'.h]⟩
instance [h:Rf env x a]:Rf env (-x) (.neg a):=⟨by rw [RE.ev,h.h]⟩
instance {n:Nat} [h:Rf env x a]:Rf env (x^n) (.pow a n):=⟨by rw [RE.ev,h.h]; rfl⟩
instance (priority:=10) {n:Nat} [h:Ix env x n]:Rf env x (.v n):=⟨by rw [RE.ev,h.h]; rfl⟩
theorem ring_of (env:List α) {x y:α} {a b:RE} [h:Rf env x a] [h':Rf env y b] (e:eqP a.nf b.nf=true):x=y:=by
 rw [←h.h,←h'.h,←nf_ev,←nf_ev,eqP_eq e]
end
end Gq

namespace Gq
section
variable {R:Type} [CR R]
def quoS (m:R):Setoid R where
 r a b:=∃c,a=b+m*c
 iseqv:={
  refl:=fun a=>⟨0,by rw [mul_zero,add_zero]⟩
  symm:=fun {a b} ⟨c,h⟩=>⟨-c,by rw [h]; exact ring_of [b,m,c] rfl⟩
  trans:=fun {a b c} ⟨u,h⟩ ⟨v,h'⟩=>⟨u+v,by rw [h,h']; exact ring_of [c,m,u,v] rfl⟩ }
def Quo (m:R):Type:=Quotient (quoS m)
variable {m:R}
def Quo.mk (m:R) (a:R):Quo m:=Quotient.mk (quoS m) a
theorem Quo.eq {a b:R}:Quo.mk m a=Quo.mk m b↔∃c,a=b+m*c:=⟨fun h=>Quotient.exact h,fun h=>Quotient.sound h⟩
theorem Quo.ind {P:Quo m→Prop} (h:∀a,P (Quo.mk m a)) (x:Quo m):P x:=Quotient.ind h x
instance:Zero (Quo m):=⟨Quo.mk m 0⟩
instance:One (Quo m):=⟨Quo.mk m 1⟩
instance:Add (Quo m):=⟨Quotient.lift₂ (fun a b=>Quo.mk m (a+b)) (fun a b a' b' ⟨c,h⟩ ⟨d,h'⟩=>Quo.eq.2 ⟨c+d,by rw [h,h']; exact ring_of [a',b',c,d,m] rfl⟩)⟩
instance:Mul (Quo m):=⟨Quotient.lift₂ (fun a b=>Quo.mk m (a*b)) (fun a b a' b' ⟨c,h⟩ ⟨d,h'⟩=>Quo.eq.2 ⟨c*b'+a'*d+m*c*d,by rw [h,h']; exact ring_of [a',b',c,d,m] rfl⟩)⟩
instance:Neg (Quo m):=⟨Quotient.lift (fun a=>Quo.mk m (-a)) (fun a a' ⟨c,h⟩=>Quo.eq.2 ⟨-c,by rw [h]; exact ring_of [a',c,m] rfl⟩)⟩
instance:Sub (Quo m):=⟨fun a b=>a + -b⟩
theorem Quo.mk_add (a b:R):Quo.mk m (a+b)=Quo.mk m a+Quo.mk m b:=rfl
theorem Quo.mk_mul (a b:R):Quo.mk m (a*b)=Quo.mk m a*Quo.mk m b:=rfl
theorem Quo.mk_neg (a:R):Quo.mk m (-a)=-Quo.mk m a:=rfl
theorem Quo.mk_zero:Quo.mk m 0=0:=rfl
theorem Quo.mk_one:Quo.mk m 1=1:=rfl
instance:CR (Quo m) where
 add_zero:=Quo.ind fun a=>congrArg (Quo.mk m) (add_zero a)
 add_comm:=Quo.ind fun a=>Quo.ind fun b=>congrArg (Quo.mk m) (add_comm a b)
 add_assoc:=Quo.ind fun a=>Quo.ind fun b=>Quo.ind fun c=>congrArg (Quo.mk m) (add_assoc a b c)
 mul_one:=Quo.ind fun a=>congrArg (Quo.mk m) (mul_one a)
 mul_comm:=Quo.ind fun a=>Quo.ind fun b=>congrArg (Quo.mk m) (mul_comm a b)
 mul_assoc:=Quo.ind fun a=>Quo.ind fun b=>Quo.ind fun c=>congrArg (Quo.mk m) (mul_assoc a b c)
 mul_add:=Quo.ind fun a=>Quo.ind fun b=>Quo.ind fun c=>congrArg (Quo.mk m) (mul_add a b c)
 add_neg:=Quo.ind fun a=>congrArg (Quo.mk m) (add_neg a)
 sub_eq:=fun _ _=>rfl
theorem Quo.mk_sub (a b:R):Quo.mk m (a-b)=Quo.mk m a-Quo.mk m b:=by rw [sub_eq,mk_add,mk_neg,←sub_eq]
theorem Quo.mk_pow (a:R):∀n,Quo.mk m (pw a n)=pw (Quo.mk m a) n
 | 0=>rfl
 | n+1=>by rw [pw,pw,mk_mul,mk_pow a n]
end
theorem sub_self {α:Type} [CR α] (a:α):a-a=0:=by rw [sub_eq,add_neg]
theorem eq_of_sub {α:Type} [CR α] {a b:α} (h:a-b=0):a=b:=by
 have:a=(a-b)+b:=ring_of [a,b] rfl
 rw [this,h,zero_add]
class Fd (K:Type) extends CR K where
 one_ne:(1:K)≠0
 inv:K→K
 mul_inv:∀a:K,a≠0→a*inv a=1
theorem Fd.mul_ne {K:Type} [Fd K] {a b:K} (ha:a≠0) (hb:b≠0):a*b≠0:=fun h=>by
 have:(inv a*inv b)*(a*b)=1:=by
  rw [show (inv a*inv b)*(a*b)=(a*inv a)*(b*inv b) from ring_of [a,b,inv a,inv b] rfl,Fd.mul_inv a ha,Fd.mul_inv b hb,mul_one]
 rw [h,mul_zero] at this
 exact Fd.one_ne this.symm
theorem Fd.zero_or {K:Type} [Fd K] {a b:K} (h:a*b=0):a=0∨b=0:=by
 by_cases ha:a=0
 ·exact .inl ha
 ·by_cases hb:b=0
  ·exact .inr hb
  ·exact absurd h (Fd.mul_ne ha hb)
theorem Fd.inv_ne {K:Type} [Fd K] {a:K} (ha:a≠0):inv a≠0:=fun h=>by
 have:=Fd.mul_inv a ha
 rw [h,mul_zero] at this
 exact Fd.one_ne this.symm
class IsP (p:Int):Prop where
 h:p=2∨p=3∨p=5∨p=7
theorem IsP.pos {p:Int} [h:IsP p]:0<p:=by have:=h.h; omega
theorem IsP.le {p:Int} [h:IsP p]:p≤7:=by have:=h.h; omega
theorem IsP.ge {p:Int} [h:IsP p]:2≤p:=by have:=h.h; omega
abbrev Zp (p:Int):Type:=Quo p
abbrev zp (p:Int) (n:Int):Zp p:=Quo.mk p n
theorem zp_eq {p a b:Int}:zp p a=zp p b↔a%p=b%p:=by
 rw [Quo.eq]
 constructor
 ·rintro ⟨c,rfl⟩
  rw [Int.add_mul_emod_self_left]
 ·intro h
  obtain ⟨c,hc⟩:=Int.dvd_of_emod_eq_zero (Int.emod_eq_emod_iff_emod_sub_eq_zero.1 h)
  exact ⟨c,by omega⟩
theorem zp_mod (p a:Int):zp p (a%p)=zp p a:=zp_eq.2 (Int.emod_emod_of_dvd _ (Int.dvd_refl p))
theorem zp_add (p a b:Int):zp p (a+b)=zp p a+zp p b:=rfl
theorem zp_mul (p a b:Int):zp p (a*b)=zp p a*zp p b:=rfl
theorem zp_neg (p a:Int):zp p (-a)=-zp p a:=rfl
theorem zp_sub (p a b:Int):zp p (a-b)=zp p a-zp p b:=rfl
theorem zp_zero (p:Int):zp p 0=0:=rfl
theorem zp_one (p:Int):zp p 1=1:=rfl
def rep {p:Int}:Zp p→Int:=Quotient.lift (fun a:Int=>a%p) fun a b h=>by
 have:=zp_eq.1 (Quotient.sound (s:=quoS p) h)
 exact this
theorem rep_mk (p a:Int):rep (zp p a)=a%p:=rfl
theorem zp_rep {p:Int}:∀x:Zp p,zp p (rep x)=x:=Quo.ind fun a=>zp_mod p a
theorem rep_in {p:Int} [IsP p] (x:Zp p):0≤rep x∧rep x<p:=by
 rw [←zp_rep x,rep_mk]
 have:=IsP.pos (p:=p)
 exact ⟨Int.emod_nonneg _ (by omega),Int.emod_lt_of_pos _ (by omega)⟩
theorem rep_inj {p:Int} {x y:Zp p} (h:rep x=rep y):x=y:=by rw [←zp_rep x,←zp_rep y,h]
theorem rep_zp {p a:Int} (h:0≤a∧a<p):rep (zp p a)=a:=by rw [rep_mk,Int.emod_eq_of_lt h.1 h.2]
theorem rep_zero {p:Int}:rep (0:Zp p)=0:=by show (0:Int)%p=0; simp
theorem rep_eq_zero {p:Int} {x:Zp p}:rep x=0↔x=0:=⟨fun h=>rep_inj (by rw [h,rep_zero]),fun h=>by rw [h,rep_zero]⟩
theorem rep_one {p:Int} [IsP p]:rep (1:Zp p)=1:=by
 have:=IsP.ge (p:=p)
 exact rep_zp (a:=1) (by omega)
def zinv (p a:Int):Int:=(a^(p-2).toNat)%p
theorem zinv_ok (p:Int) [h:IsP p] (a:Int) (h0:0<a) (h1:a<p):a*zinv p a%p=1:=by
 rcases h.h with rfl | rfl | rfl | rfl
 ·obtain rfl:a=1:=by omega
  decide
 ·have:a=1∨a=2:=by omega
  rcases this with rfl | rfl <;> decide
 ·have:a=1∨a=2∨a=3∨a=4:=by omega
  rcases this with rfl | rfl | rfl | rfl <;> decide
 ·have:a=1∨a=2∨a=3∨a=4∨a=5∨a=6:=by omega
  rcases this with rfl | rfl | rfl | rfl | rfl | rfl <;> decide
instance {p:Int} [IsP p]:Fd (Zp p) where
 one_ne:=fun h=>by
  have:=congrArg rep h
  rw [rep_one,rep_zero] at this
  omega
 inv:=fun x=>zp p (zinv p (rep x))
 mul_inv:=fun x hx=>by
  have h0:=rep_in x
  have h1:rep x≠0:=fun h=>hx (rep_eq_zero.1 h)
  have h2:zp p (rep x*zinv p (rep x))=1:=by
   rw [←zp_mod,zinv_ok p _ (by omega) h0.2]; rfl
  have h3:zp p (rep x)*zp p (zinv p (rep x))=1:=h2
  rwa [zp_rep] at h3
section
variable {K:Type} [CR K]
def cv:Nat→(Nat→K)→(Nat→K)→K
 | 0,f,g=>f 0*g 0
 | n+1,f,g=>f 0*g (n+1)+cv n (fun i=>f (i+1)) g
theorem cv_right:∀(n:Nat) (f g:Nat→K),cv (n+1) f g=cv n f (fun i=>g (i+1))+f (n+1)*g 0
 | 0,f,g=>rfl
 | n+1,f,g=>by rw [cv,cv_right n,cv]; simp only [add_assoc]
theorem cv_comm:∀(n:Nat) (f g:Nat→K),cv n f g=cv n g f
 | 0,f,g=>mul_comm _ _
 | n+1,f,g=>by rw [cv,cv_right,cv_comm n,add_comm,mul_comm (f 0)]
theorem cv_add:∀(n:Nat) (f f' g:Nat→K),cv n (fun i=>f i+f' i) g=cv n f g+cv n f' g
 | 0,f,f',g=>add_mul _ _ _
 | n+1,f,f',g=>by rw [cv,cv_add n,cv,cv,add_mul]; exact ring_of [f 0*g (n+1),f' 0*g (n+1),cv n (fun i=>f (i+1)) g,cv n (fun i=>f' (i+1)) g] rfl
theorem cv_smul (k:K):∀(n:Nat) (f g:Nat→K),cv n (fun i=>k*f i) g=k*cv n f g
 | 0,f,g=>mul_assoc _ _ _
 | n+1,f,g=>by rw [cv,cv_smul k n,cv,mul_add,mul_assoc]
theorem cv_add_right (n:Nat) (f g g':Nat→K):cv n f (fun i=>g i+g' i)=cv n f g+cv n f g':=by rw [cv_comm,cv_add,cv_comm n g,cv_comm n g']
theorem cv_assoc:∀(n:Nat) (f g h:Nat→K),cv n (fun i=>cv i f g) h=cv n f (fun i=>cv i g h)
 | 0,f,g,h=>mul_assoc _ _ _
 | n+1,f,g,h=>by
  rw [cv,cv]
  show f 0*g 0*h (n+1)+cv n (fun i=>f 0*g (i+1)+cv i (fun i=>f (i+1)) g) h=f 0*cv (n+1) g h+cv n (fun i=>f (i+1)) (fun i=>cv i g h)
  rw [cv_add,cv_smul,cv_assoc n,cv,mul_add,mul_assoc,add_assoc]
theorem cv_zero {g:Nat→K}:∀(n:Nat) {f:Nat→K},(∀i,f i=0)→cv n f g=0
 | 0,f,h=>by rw [cv,h,zero_mul]
 | n+1,f,h=>by rw [cv,h,zero_mul,cv_zero n (fun i=>h _),add_zero]
theorem cv_fin {g:Nat→K} {b:Nat} (hg:∀i,b≤i→g i=0):∀(a n:Nat) {f:Nat→K},(∀i,a≤i→f i=0)→a+b≤n+1→cv n f g=0
 | 0,n,f,hf,_=>cv_zero n fun i=>hf i (Nat.zero_le i)
 | a+1,0,f,hf,h=>by
  have:b=0:=by omega
  subst this
  rw [cv,hg 0 (Nat.le_refl _),mul_zero]
 | a+1,n+1,f,hf,h=>by rw [cv,hg (n+1) (by omega),mul_zero,cv_fin hg a n (fun i hi=>hf _ (by omega)) (by omega),add_zero]
structure Pol (K:Type) [CR K] where
 c:Nat→K
 fin:∃n,∀i,n≤i→c i=0
theorem Pol.ext {a b:Pol K} (h:∀i,a.c i=b.c i):a=b:=by
 obtain ⟨f,hf⟩:=a
 obtain ⟨g,hg⟩:=b
 have:f=g:=funext h
 subst this
 rfl
def one':Nat→K:=fun i=>if i=0 then 1 else 0
instance:Zero (Pol K):=⟨⟨fun _=>0,0,fun _ _=>rfl⟩⟩
instance:One (Pol K):=⟨⟨one',1,fun i hi=>if_neg (by omega)⟩⟩
instance:Add (Pol K):=⟨fun a b=>⟨fun i=>a.c i+b.c i,by
 obtain ⟨n,hn⟩:=a.fin
 obtain ⟨m,hm⟩:=b.fin
 exact ⟨max n m,fun i hi=>by rw [hn i (by omega),hm i (by omega),add_zero]⟩⟩⟩
instance:Neg (Pol K):=⟨fun a=>⟨fun i=>-a.c i,by
 obtain ⟨n,hn⟩:=a.fin
 exact ⟨n,fun i hi=>by rw [hn i hi,neg_zero]⟩⟩⟩
instance:Sub (Pol K):=⟨fun a b=>a + -b⟩
instance:Mul (Pol K):=⟨fun a b=>⟨fun i=>cv i a.c b.c,by
 obtain ⟨n,hn⟩:=a.fin
 obtain ⟨m,hm⟩:=b.fin
 exact ⟨n+m,fun i hi=>cv_fin hm n i hn (by omega)⟩⟩⟩
theorem Pol.c_zero (i:Nat):(0:Pol K).c i=0:=rfl
theorem Pol.c_one (i:Nat):(1:Pol K).c i=if i=0 then 1 else 0:=rfl
theorem Pol.c_add (a b:Pol K) (i:Nat):(a+b).c i=a.c i+b.c i:=rfl
theorem Pol.c_neg (a:Pol K) (i:Nat):(-a).c i=-a.c i:=rfl
theorem Pol.c_mul (a b:Pol K) (i:Nat):(a*b).c i=cv i a.c b.c:=rfl
theorem cv_one (n:Nat) (f:Nat→K):cv n one' f=f n:=by
 cases n with
 | zero=>exact one_mul _
 | succ n=>
  have e:cv n (fun i=>one' (i+1)) f=0:=cv_zero n (f:=fun i=>one' (i+1)) (fun i=>if_neg (Nat.succ_ne_zero i))
  rw [cv,e,add_zero]
  exact one_mul _
instance:CR (Pol K) where
 add_zero:=fun a=>Pol.ext fun i=>add_zero _
 add_comm:=fun a b=>Pol.ext fun i=>add_comm _ _
 add_assoc:=fun a b c=>Pol.ext fun i=>add_assoc _ _ _
 mul_one:=fun a=>Pol.ext fun i=>by rw [Pol.c_mul,cv_comm]; exact cv_one i a.c
 mul_comm:=fun a b=>Pol.ext fun i=>cv_comm _ _ _
 mul_assoc:=fun a b c=>Pol.ext fun i=>cv_assoc _ _ _ _
 mul_add:=fun a b c=>Pol.ext fun i=>cv_add_right _ _ _ _
 add_neg:=fun a=>Pol.ext fun i=>add_neg _
 sub_eq:=fun _ _=>rfl
theorem Pol.c_sub (a b:Pol K) (i:Nat):(a-b).c i=a.c i-b.c i:=by rw [sub_eq,c_add,c_neg,←sub_eq]
def Pol.C (k:K):Pol K:=⟨fun i=>if i=0 then k else 0,1,fun i hi=>if_neg (by omega)⟩
def Pol.X:Pol K:=⟨fun i=>if i=1 then 1 else 0,2,fun i hi=>if_neg (by omega)⟩
theorem Pol.c_C (k:K) (i:Nat):(Pol.C k).c i=if i=0 then k else 0:=rfl
theorem Pol.c_X (i:Nat):(Pol.X:Pol K).c i=if i=1 then 1 else 0:=rfl
theorem Pol.c_Cmul (k:K) (a:Pol K) (i:Nat):(Pol.C k*a).c i=k*a.c i:=by
 rw [c_mul]
 cases i with
 | zero=>rfl
 | succ n=>
  have e:cv n (fun i=>(Pol.C k).c (i+1)) a.c=0:=cv_zero n (f:=fun i=>(Pol.C k).c (i+1)) (fun i=>by rw [c_C,if_neg (Nat.succ_ne_zero i)])
  rw [cv,e,add_zero]; rfl
theorem Pol.c_Xmul (a:Pol K) (i:Nat):(Pol.X*a).c i=if i=0 then 0 else a.c (i-1):=by
 rw [c_mul]
 cases i with
 | zero=>exact zero_mul _
 | succ n=>
  have e:(fun i=>(Pol.X:Pol K).c (i+1))=one':=funext fun i=>by
   rw [c_X]; unfold one'
   by_cases h:i=0
   ·rw [if_pos h,if_pos (by omega)]
   ·rw [if_neg h,if_neg (by omega)]
  rw [cv,e,cv_one,c_X,if_neg (by omega),zero_mul,zero_add,if_neg (by omega)]; rfl
theorem Pol.C_zero:Pol.C (0:K)=0:=Pol.ext fun i=>by rw [c_C,c_zero]; split <;> rfl
theorem Pol.C_one:Pol.C (1:K)=1:=rfl
theorem Pol.C_add (a b:K):Pol.C (a+b)=Pol.C a+Pol.C b:=Pol.ext fun i=>by
 rw [c_add,c_C,c_C,c_C]; split
 ·rfl
 ·rw [add_zero]
theorem Pol.C_mul (a b:K):Pol.C (a*b)=Pol.C a*Pol.C b:=Pol.ext fun i=>by
 rw [c_Cmul,c_C,c_C]; split
 ·rfl
 ·rw [mul_zero]
theorem Pol.C_neg (a:K):Pol.C (-a)=-Pol.C a:=neg_of (by rw [←C_add,add_neg,C_zero])
def Pol.lt (a:Pol K) (n:Nat):Prop:=∀i,n≤i→a.c i=0
theorem Pol.lt.mono {a:Pol K} {n m:Nat} (h:a.lt n) (hnm:n≤m):a.lt m:=fun i hi=>h i (by omega)
theorem Pol.lt_zero {a:Pol K}:a.lt 0↔a=0:=⟨fun h=>Pol.ext fun i=>h i (Nat.zero_le i),fun h=>by rw [h]; exact fun _ _=>rfl⟩
theorem Pol.lt_add {a b:Pol K} {n:Nat} (ha:a.lt n) (hb:b.lt n):(a+b).lt n:=fun i hi=>by rw [c_add,ha i hi,hb i hi,add_zero]
theorem Pol.lt_neg {a:Pol K} {n:Nat} (ha:a.lt n):(-a).lt n:=fun i hi=>by rw [c_neg,ha i hi,neg_zero]
theorem Pol.lt_sub {a b:Pol K} {n:Nat} (ha:a.lt n) (hb:b.lt n):(a-b).lt n:=by rw [sub_eq]; exact lt_add ha (lt_neg hb)
theorem Pol.lt_mul {a b:Pol K} {n m:Nat} (ha:a.lt n) (hb:b.lt m):(a*b).lt (n+m-1):=fun i hi=>cv_fin hb n i ha (by omega)
theorem Pol.lt_Cmul {a:Pol K} {n:Nat} (k:K) (ha:a.lt n):(C k*a).lt n:=fun i hi=>by rw [c_Cmul,ha i hi,mul_zero]
theorem Pol.lt_one:(1:Pol K).lt 1:=fun i hi=>if_neg (by omega)
theorem Pol.lt_C (k:K):(C k).lt 1:=fun i hi=>if_neg (by omega)
theorem Pol.lt_X:(X:Pol K).lt 2:=fun i hi=>if_neg (by omega)
theorem Pol.eq_C {a:Pol K} (h:a.lt 1):a=C (a.c 0):=Pol.ext fun i=>by
 rw [c_C]; split
 ·rename_i h0; rw [h0]
 ·exact h i (by omega)
theorem Pol.len_ex (a:Pol K):∃n,a.lt n∧∀m,a.lt m→n≤m:=by
 obtain ⟨n,hn⟩:=a.fin
 have h:∀k,∀n,n≤k→a.lt n→∃n,a.lt n∧∀m,a.lt m→n≤m:=by
  intro k
  induction k with
  | zero=>exact fun n hk hn=>⟨n,hn,fun m _=>by omega⟩
  | succ k ih=>
   intro n hk hn
   by_cases h:∃m,m<n∧a.lt m
   ·obtain ⟨m,h1,h2⟩:=h
    exact ih m (by omega) h2
   ·exact ⟨n,hn,fun m hm=>by
     rcases Nat.lt_or_ge m n with h1 | h1
     ·exact absurd ⟨m,h1,hm⟩ h
     ·exact h1⟩
 exact h n n (Nat.le_refl n) hn
noncomputable def Pol.len (a:Pol K):Nat:=Classical.choose a.len_ex
theorem Pol.lt_len (a:Pol K):a.lt a.len:=(Classical.choose_spec a.len_ex).1
theorem Pol.len_le {a:Pol K} {n:Nat} (h:a.lt n):a.len≤n:=(Classical.choose_spec a.len_ex).2 n h
theorem Pol.lt_iff {a:Pol K} {n:Nat}:a.lt n↔a.len≤n:=⟨len_le,fun h=>a.lt_len.mono h⟩
theorem Pol.len_zero_iff {a:Pol K}:a.len=0↔a=0:=by rw [←lt_zero,lt_iff]; omega
theorem Pol.len_zero:(0:Pol K).len=0:=len_zero_iff.2 rfl
theorem Pol.len_pos {a:Pol K} (h:a≠0):0<a.len:=by
 have:a.len≠0:=fun h'=>h (len_zero_iff.1 h')
 omega
noncomputable def Pol.ld (a:Pol K):K:=a.c (a.len-1)
theorem Pol.ld_ne {a:Pol K} (h:a≠0):a.ld≠0:=fun h0=>by
 have hp:=len_pos h
 have:a.lt (a.len-1):=fun i hi=>by
  rcases Nat.lt_or_ge i a.len with h1 | h1
  ·rw [show i=a.len-1 by omega]; exact h0
  ·exact a.lt_len i h1
 have:=len_le this
 omega
theorem Pol.len_eq {a:Pol K} {n:Nat} (h:a.lt (n+1)) (h':a.c n≠0):a.len=n+1:=by
 have h1:=len_le h
 rcases Nat.lt_or_ge n a.len with h2 | h2
 ·omega
 ·exact absurd (a.lt_len n h2) h'
theorem cv_top {g:Nat→K} {b:Nat} (hg:∀i,b+1≤i→g i=0):∀(a:Nat) {f:Nat→K},(∀i,a+1≤i→f i=0)→cv (a+b) f g=f a*g b
 | 0,f,hf=>by
  rw [Nat.zero_add]
  cases b with
  | zero=>rfl
  | succ b=>rw [cv,cv_zero b (fun i=>hf _ (by omega)),add_zero]
 | a+1,f,hf=>by
  rw [show a+1+b=(a+b)+1 by omega,cv,hg (a+b+1) (by omega),mul_zero,zero_add,cv_top hg a (fun i hi=>hf _ (by omega))]
end
section
variable {K:Type} [Fd K]
theorem Pol.len_mul {a b:Pol K} (ha:a≠0) (hb:b≠0):(a*b).len+1=a.len+b.len:=by
 have h1:=len_pos ha
 have h2:=len_pos hb
 have e:(a*b).c ((a.len-1)+(b.len-1))=a.ld*b.ld:=by
  rw [c_mul]
  exact cv_top (f:=a.c) (fun i hi=>b.lt_len i (by omega)) _ (fun i hi=>a.lt_len i (by omega))
 have l:=len_eq (a:=a*b) (n:=(a.len-1)+(b.len-1)) ((lt_mul a.lt_len b.lt_len).mono (by omega)) (by rw [e]; exact Fd.mul_ne (ld_ne ha) (ld_ne hb))
 omega
theorem Pol.ld_mul {a b:Pol K} (ha:a≠0) (hb:b≠0):(a*b).ld=a.ld*b.ld:=by
 have h1:=len_pos ha
 have h2:=len_pos hb
 have e:(a*b).c ((a.len-1)+(b.len-1))=a.ld*b.ld:=by
  rw [c_mul]
  exact cv_top (f:=a.c) (fun i hi=>b.lt_len i (by omega)) _ (fun i hi=>a.lt_len i (by omega))
 have l:=len_mul ha hb
 unfold ld at *
 rw [←e]; congr 1; omega
theorem Pol.mul_ne {a b:Pol K} (ha:a≠0) (hb:b≠0):a*b≠0:=fun h=>by
 have l:=len_mul ha hb
 have h1:=len_pos ha
 have h2:=len_pos hb
 rw [h,len_zero] at l
 omega
theorem Pol.zero_or {a b:Pol K} (h:a*b=0):a=0∨b=0:=by
 by_cases ha:a=0
 ·exact .inl ha
 ·by_cases hb:b=0
  ·exact .inr hb
  ·exact absurd h (mul_ne ha hb)
theorem Pol.mul_cancel {a b c:Pol K} (ha:a≠0) (h:a*b=a*c):b=c:=by
 have:a*(b-c)=0:=by
  rw [show a*(b-c)=a*b-a*c from ring_of [a,b,c] rfl,h,sub_self]
 exact eq_of_sub ((zero_or this).resolve_left ha)
theorem Pol.one_ne:(1:Pol K)≠0:=fun h=>Fd.one_ne (K:=K) (congrArg (fun f=>Pol.c f 0) h)
theorem Pol.len_one:(1:Pol K).len=1:=len_eq lt_one Fd.one_ne
theorem Pol.ld_one:(1:Pol K).ld=1:=by unfold ld; rw [len_one]; rfl
theorem Pol.len_X:(X:Pol K).len=2:=len_eq lt_X Fd.one_ne
theorem Pol.X_ne:(X:Pol K)≠0:=fun h=>by have:=len_X (K:=K); rw [h,len_zero] at this; omega
theorem Pol.len_C {k:K} (h:k≠0):(C k).len=1:=len_eq (lt_C k) h
theorem Pol.C_ne {k:K} (h:k≠0):C k≠0:=fun h'=>by have:=len_C h; rw [h',len_zero] at this; omega
theorem Pol.len_Cmul {k:K} (h:k≠0) (a:Pol K):(C k*a).len=a.len:=by
 by_cases ha:a=0
 ·rw [ha,mul_zero]
 ·have:=len_mul (C_ne h) ha
  rw [len_C h] at this
  omega
def Pol.mo (k:K) (n:Nat):Pol K:=⟨fun i=>if i=n then k else 0,n+1,fun i hi=>if_neg (by omega)⟩
theorem cv_mo (k:K) (g:Nat→K):∀(n j:Nat),cv (n+j) (fun i=>if i=n then k else 0) g=k*g j
 | 0,0=>rfl
 | 0,j+1=>by
  rw [Nat.zero_add,cv,cv_zero j (fun i=>if_neg (by omega)),add_zero]; rfl
 | n+1,j=>by
  have e:(fun i=>if i+1=n+1 then k else 0)=(fun i=>if i=n then k else 0):=funext fun i=>by
   by_cases h:i=n
   ·rw [if_pos h,if_pos (by omega)]
   ·rw [if_neg h,if_neg (by omega)]
  rw [show n+1+j=(n+j)+1 by omega,cv,if_neg (by omega),zero_mul,zero_add,e,cv_mo k g n j]
theorem Pol.c_momul (k:K) (n:Nat) (a:Pol K) (i:Nat) (h:n≤i):(mo k n*a).c i=k*a.c (i-n):=by
 obtain ⟨j,rfl⟩:=Nat.exists_eq_add_of_le h
 rw [c_mul,Nat.add_sub_cancel_left]
 exact cv_mo k a.c n j
theorem Pol.div_ex (b:Pol K) (hb:b≠0):∀(n:Nat) (a:Pol K),a.lt n→∃q r:Pol K,a=q*b+r∧r.len<b.len
 | 0,a,h=>⟨0,0,by rw [lt_zero.1 h,zero_mul,add_zero],by rw [len_zero]; exact len_pos hb⟩
 | n+1,a,h=>by
  rcases Nat.lt_or_ge n (b.len-1) with h1 | h1
  ·exact ⟨0,a,by rw [zero_mul,zero_add],by have:=len_le h; omega⟩
  ·have hp:=len_pos hb
   have key:(a-mo (a.c n*Fd.inv b.ld) (n-(b.len-1))*b).lt n:=fun i hi=>by
    rw [c_sub,c_momul _ _ _ _ (by omega)]
    by_cases h2:i=n
    ·subst h2
     rw [show i-(i-(b.len-1))=b.len-1 by omega]
     have:=Fd.mul_inv b.ld (ld_ne hb)
     show a.c i-a.c i*Fd.inv b.ld*b.ld=0
     rw [mul_assoc,mul_comm (Fd.inv b.ld),this,mul_one,sub_self]
    ·rw [h i (by omega),b.lt_len _ (by omega),mul_zero,sub_self]
   obtain ⟨q,r,h2,h3⟩:=div_ex b hb n _ key
   refine ⟨mo (a.c n*Fd.inv b.ld) (n-(b.len-1))+q,r,?_,h3⟩
   revert h2
   generalize mo (a.c n*Fd.inv b.ld) (n-(b.len-1))=t
   intro h2
   have:a=(a-t*b)+t*b:=ring_of [a,t,b] rfl
   rw [this,h2]
   exact ring_of [q,b,r,t] rfl
theorem Pol.div_unique {b q r q' r':Pol K} (h:q*b+r=q'*b+r') (hr:r.len<b.len) (hr':r'.len<b.len):q=q'∧r=r':=by
 have e:(q-q')*b=r'-r:=by
  have:(q-q')*b=(q*b+r)-(q'*b+r):=ring_of [q,q',b,r] rfl
  rw [this,h]
  exact ring_of [q',b,r,r'] rfl
 have hb:b≠0:=fun h0=>by rw [h0,len_zero] at hr; omega
 by_cases hq:q-q'=0
 ·have hq':=eq_of_sub hq
  rw [hq,zero_mul] at e
  exact ⟨hq',(eq_of_sub e.symm).symm⟩
 ·have l:=len_mul hq hb
  rw [e] at l
  have h1:=len_le (lt_sub (Pol.lt_iff.2 (show r'.len≤b.len-1 by omega)) (Pol.lt_iff.2 (show r.len≤b.len-1 by omega)))
  have:=len_pos hq
  omega
open Classical in
noncomputable def Pol.qr (a b:Pol K):Pol K×Pol K:=
 if hb:b=0 then (0,a) else ((Classical.choose (div_ex b hb a.len a a.lt_len)),Classical.choose (Classical.choose_spec (div_ex b hb a.len a a.lt_len)))
noncomputable instance:Div (Pol K):=⟨fun a b=>(Pol.qr a b).1⟩
noncomputable instance:Mod (Pol K):=⟨fun a b=>(Pol.qr a b).2⟩
theorem Pol.div_mod (a b:Pol K):a=(a/b)*b+a%b:=by
 show a=(qr a b).1*b+(qr a b).2
 unfold qr
 split
 ·rename_i h; rw [h,mul_zero,zero_add]
 ·rename_i h; exact (Classical.choose_spec (Classical.choose_spec (div_ex b h a.len a a.lt_len))).1
theorem Pol.len_mod (a:Pol K) {b:Pol K} (h:b≠0):(a%b).len<b.len:=by
 show (qr a b).2.len<_
 unfold qr
 rw [dif_neg h]
 exact (Classical.choose_spec (Classical.choose_spec (div_ex b h a.len a a.lt_len))).2
theorem Pol.div_mod_eq {a b q r:Pol K} (h:a=q*b+r) (hr:r.len<b.len):a/b=q∧a%b=r:=by
 have hb:b≠0:=fun h0=>by rw [h0,len_zero] at hr; omega
 exact div_unique ((div_mod a b).symm.trans h) (len_mod a hb) hr
end
end Gq

namespace Pe
open Go Gq
abbrev Fp (p:Int):Type:=Pol (Zp p)
noncomputable def row {p:Int} (a:Fp p):List Int:=(List.range a.len).map fun i=>rep (a.c i)
def pad (l:List Int):List Int:=(List.range 64).map (cf l)
section
variable {p:Int}
@[simp] theorem row_length (a:Fp p):(row a).length=a.len:=by simp [row]
theorem row_cf (a:Fp p) (i:Nat):cf (row a) i=rep (a.c i):=by
 rcases Nat.lt_or_ge i a.len with h | h
 ·exact cf_map_range _ _ _ h
 ·rw [cf_ge (by rw [row_length]; exact h),a.lt_len i h,rep_zero]
theorem row_can [IsP p] (a:Fp p):Can p (row a):=Can.of_cf fun j _=>by rw [row_cf]; exact rep_in _
theorem row_small [IsP p] (a:Fp p) {b:Int} (hb:7≤b):Small b (row a):=(row_can a).small (by have:=IsP.le (p:=p); omega)
theorem row_zero:row (0:Fp p)=[]:=by
 apply List.eq_nil_of_length_eq_zero
 rw [row_length,Pol.len_zero]
theorem row_nil {a:Fp p}:row a=[]↔a=0:=by rw [←List.length_eq_zero_iff,row_length,Pol.len_zero_iff]
theorem tlen_spec (l:List Int):∀n,(∀i,tlen l n≤i→i<n→cf l i=0)∧(tlen l n=0∨cf l (tlen l n-1)≠0)
 | 0=>⟨fun i _ h=>absurd h (Nat.not_lt_zero i),.inl rfl⟩
 | n+1=>by
  have ih:=tlen_spec l n
  unfold tlen
  by_cases h:cf l n=0
  ·rw [if_pos h]
   refine ⟨fun i h1 h2=>?_,ih.2⟩
   by_cases hi:i=n
   ·rw [hi,h]
   ·exact ih.1 i h1 (by omega)
  ·rw [if_neg h]
   exact ⟨fun i h1 h2=>by omega,.inr h⟩
theorem trim_row {l:List Int} {f:Fp p} (h:∀i,cf l i=rep (f.c i)):trim l=row f:=by
 have ht:=tlen_spec l l.length
 have hl:=tlen_le l l.length
 have e:tlen l l.length=f.len:=by
  apply Nat.le_antisymm
  ·rcases ht.2 with h0 | h0
   ·omega
   ·rw [h] at h0
    rcases Nat.lt_or_ge (tlen l l.length-1) f.len with h1 | h1
    ·omega
    ·exact absurd (by rw [f.lt_len _ h1,rep_zero]) h0
  ·apply Pol.len_le
   intro i hi
   apply rep_eq_zero.1
   rw [←h]
   rcases Nat.lt_or_ge i l.length with h1 | h1
   ·exact ht.1 i hi h1
   ·exact cf_ge h1
 apply List.ext_getElem
 ·rw [row_length,←e]; unfold trim; rw [List.length_take]; omega
 ·intro i h1 h2
  have e1:(trim l)[i]=cf l i:=by
   unfold trim at h1 ⊢
   rw [List.getElem_take,cf_lt]
  have e2:(row f)[i]=cf (row f) i:=(cf_lt h2).symm
  rw [e1,e2,row_cf,h]
def polOf (p:Int) (l:List Int):Fp p:=⟨fun i=>zp p (cf l i),l.length,fun i hi=>by rw [cf_ge hi]; rfl⟩
theorem polOf_c (l:List Int) (i:Nat):(polOf p l).c i=zp p (cf l i):=rfl
theorem polOf_lt (l:List Int):(polOf p l).lt l.length:=fun i hi=>by rw [polOf_c,cf_ge hi]; rfl
theorem polOf_row (a:Fp p):polOf p (row a)=a:=Pol.ext fun i=>by rw [polOf_c,row_cf,zp_rep]
theorem trim_polOf [IsP p] {l:List Int} (h:Can p l):trim l=row (polOf p l):=trim_row fun i=>by
 have h1:=h.le IsP.pos i
 rw [polOf_c,rep_zp h1]
theorem row_inj {a b:Fp p} (h:row a=row b):a=b:=by rw [←polOf_row a,←polOf_row b,h]
theorem pad_nil:pad []=List.replicate 64 0:=by decide +kernel
@[simp] theorem z64_eq:z64=ints .u8 (pad []):=by rw [pad_nil]; unfold ints z64; rw [List.map_replicate]
theorem pad_length (l:List Int):(pad l).length=64:=by simp [pad]
theorem pad_cf {l:List Int} (h:l.length≤64) (i:Nat):cf (pad l) i=cf l i:=by
 rcases Nat.lt_or_ge i 64 with h1 | h1
 ·exact cf_map_range _ _ _ h1
 ·rw [cf_ge (by rw [pad_length]; exact h1),cf_ge (by omega)]
theorem pad_get (l:List Int) (i:Nat) (h:i<64):(pad l)[i]? = some (cf l i):=by
 rw [pad,List.getElem?_map,List.getElem?_range h]; rfl
theorem pad_eq {l m:List Int} (hl:m.length=64) (h:∀i,i<64→cf l i=cf m i):pad l=m:=by
 apply List.ext_getElem
 ·rw [pad_length,hl]
 ·intro i h1 h2
  rw [←cf_lt h2,←h i (by omega)]
  simp [pad]
theorem row_comb [IsP p] (a b:Fp p) (k:Int):comb p (row a) (row b) k=row (a+Pol.C (zp p k)*b):=by
 apply trim_row
 intro i
 have e:rep ((a+Pol.C (zp p k)*b).c i)=(rep (a.c i)+k*rep (b.c i))%p:=by
  rw [Pol.c_add,Pol.c_Cmul,←rep_mk]
  congr 1
  rw [zp_add,zp_mul,zp_rep,zp_rep]
 rw [e]
 rcases Nat.lt_or_ge i (max a.len b.len) with h | h
 ·rw [cf_map_range _ _ _ (by simpa using h)]
  unfold lin
  rw [row_cf,row_cf]
 ·rw [cf_ge (by simpa using h),a.lt_len i (by omega),b.lt_len i (by omega)]
  simp [rep_zero]
def cvs {K:Type} [CR K] (f g:Nat→K):Nat→Nat→K
 | 0,_=>0
 | m+1,j=>cvs f g m j+if m≤j then f m*g (j-m) else 0
theorem cvs_left {K:Type} [CR K] (f g:Nat→K):∀m j,cvs f g (m+1) j=f 0*g j+if j=0 then 0 else cvs (fun i=>f (i+1)) g m (j-1)
 | 0,j=>by
  show 0+(if 0≤j then f 0*g (j-0) else 0)=_
  rw [if_pos (Nat.zero_le j),Nat.sub_zero,Gq.zero_add]
  split <;> exact (Gq.add_zero _).symm
 | m+1,j=>by
  rw [cvs,cvs_left f g m j]
  by_cases h:j=0
  ·subst h
   rw [if_pos rfl,if_neg (by omega),if_pos rfl,Gq.add_zero]
  ·rw [if_neg h,if_neg h,cvs]
   rw [Gq.add_assoc]
   congr 2
   by_cases h2:m+1≤j
   ·rw [if_pos h2,if_pos (by omega),show j-(m+1)=j-1-m by omega]
   ·rw [if_neg h2,if_neg (by omega)]
theorem cvs_cv {K:Type} [CR K] (g:Nat→K):∀(j m:Nat) (f:Nat→K),j<m→cvs f g m j=cv j f g
 | 0,0,f,h=>by omega
 | 0,m+1,f,_=>by rw [cvs_left,if_pos rfl,Gq.add_zero]; rfl
 | j+1,0,f,h=>by omega
 | j+1,m+1,f,h=>by rw [cvs_left,if_neg (by omega),cv,Nat.add_sub_cancel,cvs_cv g j m _ (by omega)]
theorem cvs_more {K:Type} [CR K] (f g:Nat→K) {m:Nat} (h:∀i,m≤i→f i=0) (j:Nat):∀k,cvs f g (m+k) j=cvs f g m j
 | 0=>rfl
 | k+1=>by
  rw [←Nat.add_assoc,cvs,cvs_more f g h j k,h (m+k) (by omega),Gq.zero_mul]
  split <;> exact Gq.add_zero _
theorem zp_conv (l m:List Int):∀n j,zp p (conv l m n j)=cvs (polOf p l).c (polOf p m).c n j
 | 0,j=>rfl
 | n+1,j=>by
  rw [conv,cvs,←zp_conv l m n j]
  split
  ·rfl
  ·rfl
theorem row_mul [IsP p] (a b:Fp p):mul p (row a) (row b)=row (a*b):=by
 apply trim_row
 intro i
 have e:∀i,conv (row a) (row b) (row a).length i%p=rep ((a*b).c i):=fun i=>by
  rw [←rep_mk,zp_conv,polOf_row,polOf_row,row_length,Pol.c_mul]
  congr 1
  rw [←cvs_more a.c b.c a.lt_len i (i+1),cvs_cv]
  omega
 rcases Nat.lt_or_ge i (a.len+b.len-1) with h | h
 ·rw [cf_map_range _ _ _ (by simpa using h),e]
 ·rw [cf_ge (by simpa using h),Pol.lt_mul a.lt_len b.lt_len i h,rep_zero]
end
end Pe

namespace Pe
open Go Gq
variable {T:Nat→Option Fn} {A:Oracle}
theorem inv_ok (p:Int) [h:IsP p] (a:Int) (h0:0<a) (h1:a<p):a*inv p a%p=1:=by
 rcases h.h with rfl | rfl | rfl | rfl
 ·obtain rfl:a=1:=by omega
  decide
 ·have:a=1∨a=2:=by omega
  rcases this with rfl | rfl <;> decide
 ·have:a=1∨a=2∨a=3∨a=4:=by omega
  rcases this with rfl | rfl | rfl | rfl <;> decide
 ·have:a=1∨a=2∨a=3∨a=4∨a=5∨a=6:=by omega
  rcases this with rfl | rfl | rfl | rfl | rfl | rfl <;> decide
theorem inv_in (p:Int) [IsP p] (a:Int):0≤inv p a∧inv p a<p:=by
 have:=IsP.ge (p:=p)
 exact ipow_in (by omega) _
@[simp] theorem row_take {p:Int} (a:Fp p):(row a).take a.len=row a:=List.take_of_length_le (by simp)
def K_combine (O:Oracle):Prop:=∀(p:Int) [IsP p] (k:Int) (a b:Fp p),-1000000≤k→k≤1000000→a.len<1000000→b.len<1000000 →
 ask O F1c [(D.int .i64 p),(D.sl .leaf (ints .i64 (row a))),(D.sl .leaf (ints .i64 (row b))),(D.int .i64 k)]=some (D.sl .leaf (ints .i64 (row (a+Pol.C (zp p k)*b))))
theorem k_combine {O:Oracle} (h:C_combine O):K_combine O:=fun p i k a b h1 h2 h3 h4=>by
 have h5:=IsP.pos (p:=p)
 have h6:=IsP.le (p:=p)
 rw [h p k (row a) (row b) h5 (by omega) (row_small a (by omega)) (row_small b (by omega)) h1 h2 (by simpa using h3) (by simpa using h4),row_comb]
def K_times (O:Oracle):Prop:=∀(p:Int) [IsP p] (a b:Fp p),a.len<10000→b.len<10000 →
 ask O F1q [(D.int .i64 p),(D.sl .leaf (ints .i64 (row a))),(D.sl .leaf (ints .i64 (row b)))]=some (D.sl .leaf (ints .i64 (row (a*b))))
theorem k_times {O:Oracle} (h:C_times O):K_times O:=fun p i a b h1 h2=>by
 have h5:=IsP.pos (p:=p)
 have h6:=IsP.le (p:=p)
 rw [h p (row a) (row b) h5 (by omega) (row_can a) (row_can b) (by simpa using h1) (by simpa using h2),row_mul]
def K_scale (O:Oracle):Prop:=∀(p:Int) [IsP p] (k:Int) (a:Fp p),-1000000≤k→k≤1000000→a.len<1000000 →
 ask O F1o [(D.int .i64 p),(D.sl .leaf (ints .i64 (row a))),(D.int .i64 k)]=some (D.sl .leaf (ints .i64 (row (Pol.C (zp p k)*a))))
theorem k_scale {O:Oracle} (h:C_scale O):K_scale O:=fun p i k a h1 h2 h3=>by
 have h5:=IsP.pos (p:=p)
 have h6:=IsP.le (p:=p)
 have e:=row_comb (0:Fp p) a k
 rw [row_zero,Gq.zero_add] at e
 rw [h p k (row a) h5 (by omega) (row_small a (by omega)) h1 h2 (by simpa using h3),e]
theorem cv_low {K:Type} [CR K] {g:Nat→K}:∀{i:Nat} {f:Nat→K},(∀j,j≤i→f j=0)→cv i f g=0
 | 0,f,h=>by rw [cv,h 0 (Nat.le_refl 0),Gq.zero_mul]
 | i+1,f,h=>by rw [cv,h 0 (Nat.zero_le _),Gq.zero_mul,cv_low (fun j hj=>h (j+1) (by omega)),Gq.add_zero]
theorem c_momul' {K:Type} [Fd K] (k:K) (n:Nat) (a:Pol K) (i:Nat):(Pol.mo k n*a).c i=if n≤i then k*a.c (i-n) else 0:=by
 split
 ·rename_i h; exact Pol.c_momul k n a i h
 ·rename_i h
  rw [Pol.c_mul]
  exact cv_low fun j hj=>if_neg (by omega)
section
variable {p:Int} [IsP p]
theorem polOf_subTo (q:Int) (b:Fp p) (c:Nat) (cur:List Int) (h:c+b.len≤cur.length):polOf p (subTo p q (row b) c b.len 0 cur)=polOf p cur-Pol.mo (zp p q) c*b:=Pol.ext fun j=>by
 rw [Pol.c_sub,c_momul',polOf_c,polOf_c,subTo_cf _ _ _ _ _ _ _ _ (by omega)]
 by_cases h1:c+0≤j∧j<c+0+b.len
 ·rw [if_pos h1,if_pos (by omega),zp_mod,zp_sub,zp_mul,row_cf,zp_rep]
 ·rw [if_neg h1]
  split
  ·rw [b.lt_len _ (by omega),Gq.mul_zero,sub_eq,neg_zero,Gq.add_zero]
  ·rw [sub_eq,neg_zero,Gq.add_zero]
theorem polOf_set (q:Int) (c:Nat) (quo:List Int) (h:c<quo.length) (h0:cf quo c=0):polOf p (quo.set c q)=polOf p quo+Pol.mo (zp p q) c:=Pol.ext fun j=>by
 rw [Pol.c_add,polOf_c,polOf_c,cf_set]
 show _=_+(if j=c then zp p q else 0)
 by_cases h1:j=c
 ·subst h1
  rw [if_pos ⟨rfl,h⟩,if_pos rfl,h0,zp_zero,Gq.zero_add]
 ·rw [if_neg (by omega),if_neg h1,Gq.add_zero]
theorem dv_spec (b:Fp p) (hb:b≠0):∀(c:Nat) (cur quo:List Int),c+b.len≤cur.length+1→c≤quo.length→Can p cur→(∀j,j<c→cf quo j=0)→(∀j,c+b.len-1≤j→cf cur j=0)→Can p quo →
 let r:=dv p (inv p (rep b.ld)) (row b) c (cur,quo)
 polOf p r.1+polOf p r.2*b=polOf p cur+polOf p quo*b∧(∀j,b.len-1≤j→cf r.1 j=0)∧Can p r.1∧Can p r.2
 | 0,cur,quo,_,_,hcan,_,h,hq=>⟨rfl,fun j hj=>h j (by omega),hcan,hq⟩
 | c+1,cur,quo,hl,hlq,hcan,hq0,h,hq=>by
  have hp:=IsP.pos (p:=p)
  have hbl:=Pol.len_pos hb
  have hr:=rep_in b.ld
  have hld:rep b.ld≠0:=fun h0=>Pol.ld_ne hb (rep_eq_zero.1 h0)
  generalize hqd:cf cur (c+b.len-1)*inv p (rep b.ld)%p=q
  have hqin:0≤q∧q<p:=by subst hqd; exact ⟨Int.emod_nonneg _ (by omega),Int.emod_lt_of_pos _ hp⟩
  have hlen:c+b.len≤cur.length:=by omega
  have e:dv p (inv p (rep b.ld)) (row b) (c+1) (cur,quo)=dv p (inv p (rep b.ld)) (row b) c (subTo p q (row b) c b.len 0 cur,quo.set c q):=by
   rw [dv]; simp only [row_length,hqd]
  rw [e]
  have key:(cf cur (c+b.len-1)-q*rep b.ld)%p=0:=by
   have h1:=inv_ok p (rep b.ld) (by omega) hr.2
   have h2:q*rep b.ld%p=cf cur (c+b.len-1)%p:=by
    subst hqd
    rw [Int.mul_emod,Int.emod_emod_of_dvd _ (Int.dvd_refl p),←Int.mul_emod,Int.mul_assoc,Int.mul_comm (inv p _),Int.mul_emod,h1,Int.mul_one,Int.emod_emod_of_dvd _ (Int.dvd_refl p)]
   rw [Int.sub_emod,h2,←Int.sub_emod,Int.sub_self,Int.zero_emod]
  have ih:=dv_spec b hb c (subTo p q (row b) c b.len 0 cur) (quo.set c q) (by rw [subTo_length]; omega) (by simp; omega) (subTo_can hp (by omega) hcan)
   (fun j hj=>by rw [cf_set,if_neg (by omega)]; exact hq0 j (by omega))
   (fun j hj=>by
    rw [subTo_cf _ _ _ _ _ _ _ _ (by omega)]
    by_cases hj2:j=c+b.len-1
    ·subst hj2
     rw [if_pos (by omega),row_cf,show c+b.len-1-c=b.len-1 by omega]; exact key
    ·rw [if_neg (by omega)]; exact h j (by omega))
   (fun x hx=>by
    rcases List.mem_or_eq_of_mem_set hx with h1 | h1
    ·exact hq x h1
    ·subst h1; exact hqin)
  refine ⟨?_,ih.2⟩
  rw [ih.1,polOf_subTo q b c cur hlen,polOf_set q c quo (by omega) (hq0 c (by omega))]
  exact ring_of [polOf p cur,Pol.mo (zp p q) c,b,polOf p quo] rfl
def C_clone (O:Oracle):Prop:=∀l:List Int,l.length<1000000→O F2e [(.d (.sl .leaf (ints .i64 l)))] []=some (.sl 0 [] 0 l.length none,[],[.sl false .leaf (ints .i64 l)])
def K_divide (O:Oracle):Prop:=∀(p:Int) [IsP p] (a b:Fp p),b≠0→a.len<5000→b.len<5000 →
 ask O F1d [(D.int .i64 p),(D.sl .leaf (ints .i64 (row a))),(D.sl .leaf (ints .i64 (row b)))]=some (.tup [(D.sl .leaf (ints .i64 (row (a/b)))),(D.sl .leaf (ints .i64 (row (a%b))))])
end
section
variable {p:Int}
theorem ld_row (b:Fp p):lead (row b)=rep b.ld:=by unfold lead Pol.ld; rw [row_cf,row_length]
end
section
variable {p:Int} [IsP p]
theorem k_divide (hT:T F1d=some Z1d) (hcl:C_clone (den T A)) (htr:C_trimmed (den T A)) (hld:C_lead (den T A)) (hinv:C_inverse (den T A)) (hred:C_reduce (den T A)):K_divide (den T A):=by
 intro p ip a b hb ha hbl
 have hp:=IsP.ge (p:=p)
 have hp7:=IsP.le (p:=p)
 have e1:=hcl (row a) (by simpa using (show a.len<1000000 by omega))
 rw [row_length] at e1
 have hb0:=Pol.len_pos hb
 refine ask_of hT rfl ?_
 by_cases hlt:a.len<b.len
 ·obtain ⟨h1,h2⟩:=Pol.div_mod_eq (a:=a) (b:=b) (q:=0) (r:=a) (by rw [Gq.zero_mul,Gq.zero_add]) hlt
  rw [h1,h2,row_zero]
  have h3:(a.len:Int)<(b.len:Int):=by omega
  simp -implicitDefEqProofs [Z1d,Z1d_B,dn_cond,e1,h3,ints_nil,row_take]
 ·have h3:¬ (a.len:Int)<(b.len:Int):=by omega
  have hr:=rep_in b.ld
  have e2:=hld (row b) (by simpa using (show b.len<1000000 by omega))
  rw [ld_row] at e2
  have e3:=hinv p (rep b.ld) (by omega) (by omega) hr.1 hr.2
  have w1:IntKind.i64.wrap ((a.len:Int)-b.len)=(a.len:Int)-b.len:=w64 (by omega)
  have w2:IntKind.i64.wrap ((a.len:Int)-b.len+1)=((a.len-b.len+1:Nat):Int):=(w64 (x:=(a.len:Int)-b.len+1) (by omega)).trans (by omega)
  have w3:IntKind.i64.wrap (((a.len-b.len+1:Nat):Int)-1)=((a.len-b.len+1:Nat):Int)-1:=w64 (by omega)
  have h8:(a.len-b.len+1)*8≤1099511627776:=by omega
  have l1:=l_divide1 (O:=den T A) (by_:=inv p (rep b.ld)) (b:=row b) (la:=a.len) (nq:=a.len-b.len+1) (cp:=none) hred (by omega) (by omega) (inv_in p _) (row_can b) (by rw [row_length]; omega) (by rw [row_length]; omega) (by omega)
   (a.len-b.len+1) (row a) (List.replicate (a.len-b.len+1) 0) (Nat.le_refl _) (row_length a) (by simp) (row_can a)
  have hz:∀n j,cf (List.replicate n (0:Int)) j=0:=fun n j=>by
   by_cases hj:j<n
   ·rw [cf_lt (by simpa using hj)]; simp
   ·exact cf_ge (by simp; omega)
  have sp:=dv_spec b hb (a.len-b.len+1) (row a) (List.replicate (a.len-b.len+1) 0) (by rw [row_length]; omega) (by simp) (row_can a) (fun j _=>hz _ j) (fun j hj=>by rw [cf_ge]; rw [row_length]; omega) (fun x hx=>by
   obtain rfl:=(List.mem_replicate.1 hx).2; omega)
  have hl1:∀(c:Nat) (x y:List Int),(dv p (inv p (rep b.ld)) (row b) c (x,y)).1.length=x.length∧(dv p (inv p (rep b.ld)) (row b) c (x,y)).2.length=y.length:=by
   intro c
   induction c with
   | zero=>exact fun x y=>⟨rfl,rfl⟩
   | succ c ih=>
    intro x y
    rw [dv]
    obtain ⟨i1,i2⟩:=ih (subTo p (cf x (c+(row b).length-1)*inv p (rep b.ld)%p) (row b) c (row b).length 0 x) (y.set c (cf x (c+(row b).length-1)*inv p (rep b.ld)%p))
    exact ⟨by rw [i1,subTo_length],by rw [i2,List.length_set]⟩
  obtain ⟨l2,l3⟩:=hl1 (a.len-b.len+1) (row a) (List.replicate (a.len-b.len+1) 0)
  generalize dv p (inv p (rep b.ld)) (row b) (a.len-b.len+1) (row a,List.replicate (a.len-b.len+1) 0)=r at *
  obtain ⟨s1,s2,s3,s4⟩:=sp
  have z0:polOf p (List.replicate (a.len-b.len+1) 0)=0:=Pol.ext fun j=>by rw [polOf_c,hz]; rfl
  rw [z0,Gq.zero_mul,Gq.add_zero,polOf_row,Gq.add_comm] at s1
  have hrl:(polOf p r.1).len<b.len:=by
   have:(polOf p r.1).lt (b.len-1):=fun i hi=>by rw [polOf_c,s2 i hi]; rfl
   have:=Pol.len_le this
   omega
  obtain ⟨h1,h2⟩:=Pol.div_mod_eq s1.symm hrl
  rw [h1,h2,←trim_polOf s3,←trim_polOf s4]
  have t1:=htr r.1 (by rw [l2,row_length]; omega)
  have t2:=htr r.2 (by rw [l3,List.length_replicate]; omega)
  have k1:r.1.take a.len=r.1:=List.take_of_length_le (by rw [l2,row_length]; omega)
  have k2:r.2.take (a.len-b.len+1)=r.2:=List.take_of_length_le (by rw [l3,List.length_replicate]; omega)
  rw [List.length_replicate] at l3
  rw [row_length] at l2
  generalize a.len-b.len+1=n at *
  simp -implicitDefEqProofs [Z1d,Z1d_B,dn_cond,e1,h3,w1,w2,w3,h8,e2,e3,l1,t1,t2,l2,l3,k1,k2]
end
end Pe

/-
 Functions of the program in the small form,printed by a program.
-/
namespace Pe
open Go
def Z2i_L0:Cd:=
 .seq (.region [Ll 9 (.bin .lss (.t 8) (.t 7))] [0,1,7,8,9])
 (.seq (.cond (.t 9)
 (.skip)
 (.exit 0))
 (.seq (.block 1 (.seq (.region [Lw 10 8,
 Lw 5 10] [0,1,5,7,8])
 (.seq (.region [Lw 11 1,
 Lw 12 0,
 Lw 13 5,
 Ll 14 (.idxA none (.arr 64 .leaf) (.t 12) (.t 13)),
 Ll 15 (.load (.arr 64 .leaf) (.t 14)),
 Ll 16 (.call .flat [] (.t 11) [(.t 15)])] [0,1,5,7,8,16])
 (.cond (.t 16)
 (.seq (.region [Lw 17 5,
 Lw 4 17] [4])
 (.ret))
 (.skip)))))
 (.region [Ll 18 (.bin .add (.t 8) (.c (.int .i64 1))),
 Lw 8 18] [0,1,7,8])))
def Z2i_B:Cd:=
 .seq (.region [Ll 4 (.mv (.c (.int .i64 0)))] [0,1])
 (.seq (.seq (.region [Lw 6 0,
 Ll 7 (.len false (.t 6)),
 Ll 8 (.mv (.c (.int .i64 0)))] [0,1,7,8])
 (.block 0 (.loop (Z2i_L0))))
 (.seq (.region [Ll 4 (.mv (.c (.int .i64 (-1))))] [4])
 (.ret)))
def Z2i:Fn:=
 { nparams:=2,nblk:=0,results:=[.tmp 4],body:=Z2i_B }
def Z2g_B:Cd:=
 .seq (.region [Ll 4 (.mv (.c (.bool false)))] [0,1])
 (.seq (.region [Lw 5 0,
 Lw 6 1,
 Ll 7 (.call .flat [] (.f F2i) [(.t 5),(.t 6)]),
 Ll 8 (.bin .geq (.t 7) (.c (.int .i64 0))),
 Lw 4 8] [4])
 (.ret))
def Z2g:Fn:=
 { nparams:=2,nblk:=0,results:=[.tmp 4],body:=Z2g_B }
def Z2h_L0:Cd:=
 .seq (.region [Ll 9 (.bin .lss (.t 8) (.t 7))] [0,1,7,8,9])
 (.seq (.cond (.t 9)
 (.skip)
 (.exit 0))
 (.seq (.block 1 (.seq (.region [Lw 10 8,
 Lw 5 10] [0,1,5,7,8])
 (.seq (.region [Lw 11 1,
 Lw 12 0,
 Lw 13 5,
 Ll 14 (.idxA none .leaf (.t 12) (.t 13)),
 Ll 15 (.load .leaf (.t 14)),
 Ll 16 (.call .flat [] (.t 11) [(.t 15)])] [0,1,5,7,8,16])
 (.cond (.t 16)
 (.seq (.region [Lw 17 5,
 Lw 4 17] [4])
 (.ret))
 (.skip)))))
 (.region [Ll 18 (.bin .add (.t 8) (.c (.int .i64 1))),
 Lw 8 18] [0,1,7,8])))
def Z2h_B:Cd:=
 .seq (.region [Ll 4 (.mv (.c (.int .i64 0)))] [0,1])
 (.seq (.seq (.region [Lw 6 0,
 Ll 7 (.len false (.t 6)),
 Ll 8 (.mv (.c (.int .i64 0)))] [0,1,7,8])
 (.block 0 (.loop (Z2h_L0))))
 (.seq (.region [Ll 4 (.mv (.c (.int .i64 (-1))))] [4])
 (.ret)))
def Z2h:Fn:=
 { nparams:=2,nblk:=0,results:=[.tmp 4],body:=Z2h_B }
def Z2f_B:Cd:=
 .seq (.region [Ll 4 (.mv (.c (.bool false)))] [0,1])
 (.seq (.region [Lw 5 0,
 Lw 6 1,
 Ll 7 (.call .flat [] (.f F2h) [(.t 5),(.t 6)]),
 Ll 8 (.bin .geq (.t 7) (.c (.int .i64 0))),
 Lw 4 8] [4])
 (.ret))
def Z2f:Fn:=
 { nparams:=2,nblk:=0,results:=[.tmp 4],body:=Z2f_B }
def Z2n_L0:Cd:=
 .seq (.seq (.region [Lw 18 9,
 Lw 19 1,
 Ll 20 (.bin .gtr (.t 18) (.t 19)),
 Lw 21 20,
 Lx 22 3 21 true,
 Lx 23 0 21 true,
 Lx 24 9 21 true,
 Lg 25 (.idxA none (.st [.leaf,.leaf]) (.t 23) (.t 24)) 21 true,
 Lg 26 (.load (.st [.leaf,.leaf]) (.t 25)) 21 true,
 Lx 27 0 21 true,
 Lx 28 9 21 true,
 Lg 29 (.bin .sub (.t 28) (.c (.int .i64 1))) 21 true,
 Lg 30 (.idxA none (.st [.leaf,.leaf]) (.t 27) (.t 29)) 21 true,
 Lg 31 (.load (.st [.leaf,.leaf]) (.t 30)) 21 true,
 Lg 32 (.call .flat [] (.t 22) [(.t 26),(.t 31)]) 21 true,
 Lg 33 (.bin .lss (.t 32) (.c (.int .i64 0))) 21 true,
 Ll 34 (.pick (.t 21) (.t 33) (.c (.bool false)))] [0,1,2,3,8,9,34])
 (.cond (.t 34)
 (.skip)
 (.exit 2)))
 (.seq (.block 3 (.region [Lw 37 0,
 Lw 38 9,
 Lw 39 0,
 Lw 40 9,
 Ll 41 (.bin .sub (.t 40) (.c (.int .i64 1))),
 Lw 42 0,
 Lw 43 9,
 Ll 44 (.bin .sub (.t 43) (.c (.int .i64 1))),
 Ll 45 (.idxA none (.st [.leaf,.leaf]) (.t 42) (.t 44)),
 Ll 46 (.load (.st [.leaf,.leaf]) (.t 45)),
 Lw 47 0,
 Lw 48 9,
 Ll 49 (.idxA none (.st [.leaf,.leaf]) (.t 47) (.t 48)),
 Ll 50 (.load (.st [.leaf,.leaf]) (.t 49)),
 Ll 51 (.idxA none (.st [.leaf,.leaf]) (.t 37) (.t 38)),
 Ls (.store false (.st [.leaf,.leaf]) (.t 51) (.t 46)),
 Ll 52 (.idxA none (.st [.leaf,.leaf]) (.t 39) (.t 41)),
 Ls (.store false (.st [.leaf,.leaf]) (.t 52) (.t 50))] [0,1,2,3,8,9]))
 (.region [Lw 35 9,
 Ll 36 (.bin .sub (.t 35) (.c (.int .i64 1))),
 Lw 9 36] [0,1,2,3,8,9]))
def Z2n_L1:Cd:=
 .seq (.seq (.region [Lw 12 8,
 Lw 13 2,
 Ll 14 (.bin .lss (.t 12) (.t 13))] [0,1,2,3,8,14])
 (.cond (.t 14)
 (.skip)
 (.exit 0)))
 (.seq (.block 1 (.seq (.region [Lw 17 8,
 Lw 9 17] [0,1,2,3,8,9])
 (.block 2 (.loop (Z2n_L0)))))
 (.region [Lw 15 8,
 Ll 16 (.bin .add (.t 15) (.c (.int .i64 1))),
 Lw 8 16] [0,1,2,3,8]))
def Z2n_B:Cd:=
 .seq (.region [Lw 10 1,
 Ll 11 (.bin .add (.t 10) (.c (.int .i64 1))),
 Lw 8 11] [0,1,2,3,8])
 (.block 0 (.loop (Z2n_L1)))
def Z2n:Fn:=
 { nparams:=4,nblk:=0,results:=[],body:=Z2n_B }
def Z2d_B:Cd:=
 .seq (.region [Ll 2 (.mv (.c (.int .i64 0)))] [0,2])
 (.seq (.seq (.region [Lw 3 0,
 Ll 4 (.bin .geq (.t 3) (.c (.int .u64 4294967296)))] [0,2,4])
 (.cond (.t 4)
 (.seq (.region [Lw 5 0,
 Ll 6 (.bin .shr (.t 5) (.c (.int .u64 32))),
 Lw 0 6] [0])
 (.region [Ll 2 (.mv (.c (.int .i64 32)))] [0,2]))
 (.skip)))
 (.seq (.seq (.region [Lw 7 0,
 Ll 8 (.bin .geq (.t 7) (.c (.int .u64 65536)))] [0,2,8])
 (.cond (.t 8)
 (.seq (.region [Lw 9 0,
 Ll 10 (.bin .shr (.t 9) (.c (.int .u64 16))),
 Lw 0 10] [0,2])
 (.region [Lw 11 2,
 Ll 12 (.bin .add (.t 11) (.c (.int .i64 16))),
 Lw 2 12] [0,2]))
 (.skip)))
 (.seq (.seq (.region [Lw 13 0,
 Ll 14 (.bin .geq (.t 13) (.c (.int .u64 256)))] [0,2,14])
 (.cond (.t 14)
 (.seq (.region [Lw 15 0,
 Ll 16 (.bin .shr (.t 15) (.c (.int .u64 8))),
 Lw 0 16] [0,2])
 (.region [Lw 17 2,
 Ll 18 (.bin .add (.t 17) (.c (.int .i64 8))),
 Lw 2 18] [0,2]))
 (.skip)))
 (.seq (.region [Lw 19 2,
 Lw 20 0,
 Ll 21 (.conv .u8 (.t 20)),
 Ll 22 (.idx none .leaf (.c (.str (ByteArray.mk #[0,1,2,2,3,3,3,3,4,4,4,4,4,4,4,4,5,5,5,5,5,5,5,5,5,5,5,5,5,5,5,5,6,6,6,6,6,6,6,6,6,6,6,6,6,6,6,6,6,6,6,6,6,6,6,6,6,6,6,6,6,6,6,6,7,7,7,7,7,7,7,7,7,7,7,7,7,7,7,7,7,7,7,7,7,7,7,7,7,7,7,7,7,7,7,7,7,7,7,7,7,7,7,7,7,7,7,7,7,7,7,7,7,7,7,7,7,7,7,7,7,7,7,7,7,7,7,7,8,8,8,8,8,8,8,8,8,8,8,8,8,8,8,8,8,8,8,8,8,8,8,8,8,8,8,8,8,8,8,8,8,8,8,8,8,8,8,8,8,8,8,8,8,8,8,8,8,8,8,8,8,8,8,8,8,8,8,8,8,8,8,8,8,8,8,8,8,8,8,8,8,8,8,8,8,8,8,8,8,8,8,8,8,8,8,8,8,8,8,8,8,8,8,8,8,8,8,8,8,8,8,8,8,8,8,8,8,8,8,8,8,8,8,8,8,8,8,8,8,8,8,8,8,8,8,8]))) (.t 21)),
 Ll 23 (.conv .i64 (.t 22)),
 Ll 24 (.bin .add (.t 19) (.t 23)),
 Lw 2 24] [2])
 (.ret)))))
def Z2d:Fn:=
 { nparams:=1,nblk:=0,results:=[.tmp 2],body:=Z2d_B }
def Z2b_B:Cd:=
 .seq (.region [Ll 2 (.mv (.c (.int .i64 0)))] [0])
 (.seq (.cond (.c (.bool false))
 (.seq (.region [Lw 3 0,
 Ll 4 (.conv .u32 (.t 3)),
 Ll 5 (.call .flat [] (.f F2c) [(.t 4)]),
 Lw 2 5] [2])
 (.ret))
 (.skip))
 (.seq (.region [Lw 6 0,
 Ll 7 (.call .flat [] (.f F2d) [(.t 6)]),
 Lw 2 7] [2])
 (.ret)))
def Z2b:Fn:=
 { nparams:=1,nblk:=0,results:=[.tmp 2],body:=Z2b_B }
def Z2v_L0:Cd:=
 .block 1 (.seq (.region [Lw 21 2,
 Lw 22 1,
 Ll 23 (.bin .sub (.t 21) (.t 22)),
 Lw 12 23] [0,1,2,3,4,10,11,12])
 (.seq (.seq (.region [Lw 24 12,
 Ll 25 (.bin .leq (.t 24) (.c (.int .i64 12)))] [0,1,2,3,4,10,11,12,25])
 (.cond (.t 25)
 (.seq (.region [Lw 26 0,
 Lw 27 1,
 Lw 28 2,
 Lw 29 4,
 Ll 30 (.call .heap [] (.f F2n) [(.t 26),(.t 27),(.t 28),(.t 29)])] [])
 (.ret))
 (.skip)))
 (.seq (.seq (.region [Lw 31 3,
 Ll 32 (.bin .eql (.t 31) (.c (.int .i64 0)))] [0,1,2,3,4,10,11,12,32])
 (.cond (.t 32)
 (.seq (.region [Lw 33 0,
 Lw 34 1,
 Lw 35 2,
 Lw 36 4,
 Ll 37 (.call .heap [] (.f F2m) [(.t 33),(.t 34),(.t 35),(.t 36)])] [])
 (.ret))
 (.skip)))
 (.seq (.seq (.region [Lw 38 10,
 Ll 39 (.un .not (.t 38))] [0,1,2,3,4,10,11,12,39])
 (.cond (.t 39)
 (.seq (.region [Lw 40 0,
 Lw 41 1,
 Lw 42 2,
 Lw 43 4,
 Ll 44 (.call .heap [] (.f F2k) [(.t 40),(.t 41),(.t 42),(.t 43)])] [0,1,2,3,4,10,11,12])
 (.region [Lw 45 3,
 Ll 46 (.bin .sub (.t 45) (.c (.int .i64 1))),
 Lw 3 46] [0,1,2,3,4,10,11,12]))
 (.skip)))
 (.seq (.region [Lw 48 0,
 Lw 49 1,
 Lw 50 2,
 Lw 51 4,
 Ll 52 (.call .flat [] (.f F2l) [(.t 48),(.t 49),(.t 50),(.t 51)]),
 Lw 47 52,
 Ll 53 (.ext (.t 47) 0),
 Ll 54 (.ext (.t 47) 1),
 Lw 13 53,
 Lw 14 54] [0,1,2,3,4,10,11,12,13,14])
 (.seq (.seq (.region [Lw 55 14,
 Ll 56 (.bin .eql (.t 55) (.c (.int .i64 2)))] [0,1,2,3,4,10,11,12,13,14,56])
 (.cond (.t 56)
 (.seq (.region [Lw 57 0,
 Lw 58 1,
 Lw 59 2,
 Lw 60 4,
 Ll 61 (.call .heap [] (.f F2w) [(.t 57),(.t 58),(.t 59),(.t 60)])] [0,1,2,3,4,10,11,12,13])
 (.seq (.region [Lw 62 2,
 Ll 63 (.bin .sub (.t 62) (.c (.int .i64 1))),
 Lw 64 13,
 Lw 65 1,
 Ll 66 (.bin .sub (.t 64) (.t 65)),
 Ll 67 (.bin .sub (.t 63) (.t 66)),
 Lw 13 67] [0,1,2,3,4,10,11,12,13])
 (.region [Ll 14 (.mv (.c (.int .i64 1)))] [0,1,2,3,4,10,11,12,13,14])))
 (.skip)))
 (.seq (.seq (.region [Lw 68 10,
 Lw 69 68,
 Lx 70 11 69 true,
 Ll 71 (.pick (.t 69) (.t 70) (.c (.bool false))),
 Lw 72 71,
 Lx 73 14 72 true,
 Lg 74 (.bin .eql (.t 73) (.c (.int .i64 1))) 72 true,
 Ll 75 (.pick (.t 72) (.t 74) (.c (.bool false)))] [0,1,2,3,4,10,11,12,13,75])
 (.cond (.t 75)
 (.seq (.region [Lw 76 0,
 Lw 77 1,
 Lw 78 2,
 Lw 79 4,
 Ll 80 (.call .heap [] (.f F2s) [(.t 76),(.t 77),(.t 78),(.t 79)])] [0,1,2,3,4,10,11,12,13,80])
 (.cond (.t 80)
 (.ret)
 (.skip)))
 (.skip)))
 (.seq (.seq (.region [Lw 81 1,
 Ll 82 (.bin .gtr (.t 81) (.c (.int .i64 0))),
 Lw 83 82,
 Lx 84 4 83 true,
 Lx 85 0 83 true,
 Lx 86 1 83 true,
 Lg 87 (.bin .sub (.t 86) (.c (.int .i64 1))) 83 true,
 Lg 88 (.idxA none (.st [.leaf,.leaf]) (.t 85) (.t 87)) 83 true,
 Lg 89 (.load (.st [.leaf,.leaf]) (.t 88)) 83 true,
 Lx 90 0 83 true,
 Lx 91 13 83 true,
 Lg 92 (.idxA none (.st [.leaf,.leaf]) (.t 90) (.t 91)) 83 true,
 Lg 93 (.load (.st [.leaf,.leaf]) (.t 92)) 83 true,
 Lg 94 (.call .flat [] (.t 84) [(.t 89),(.t 93)]) 83 true,
 Lg 95 (.bin .lss (.t 94) (.c (.int .i64 0))) 83 true,
 Lg 96 (.un .not (.t 95)) 83 true,
 Ll 97 (.pick (.t 83) (.t 96) (.c (.bool false)))] [0,1,2,3,4,10,11,12,13,97])
 (.cond (.t 97)
 (.seq (.region [Lw 98 0,
 Lw 99 1,
 Lw 100 2,
 Lw 101 13,
 Lw 102 4,
 Ll 103 (.call .heap [] (.f F2u) [(.t 98),(.t 99),(.t 100),(.t 101),(.t 102)]),
 Lw 15 103] [0,2,3,4,10,11,15])
 (.seq (.region [Lw 104 15,
 Lw 1 104] [0,1,2,3,4,10,11])
 (.exit 1)))
 (.skip)))
 (.seq (.region [Lw 106 0,
 Lw 107 1,
 Lw 108 2,
 Lw 109 13,
 Lw 110 4,
 Ll 111 (.call .heap [] (.f F2t) [(.t 106),(.t 107),(.t 108),(.t 109),(.t 110)]),
 Lw 105 111,
 Ll 112 (.ext (.t 105) 0),
 Ll 113 (.ext (.t 105) 1),
 Lw 16 112,
 Lw 17 113] [0,1,2,3,4,12,16,17])
 (.seq (.region [Lw 114 17,
 Lw 11 114] [0,1,2,3,4,11,12,16])
 (.seq (.region [Lw 115 16,
 Lw 116 1,
 Ll 117 (.bin .sub (.t 115) (.t 116)),
 Lw 118 2,
 Lw 119 16,
 Ll 120 (.bin .sub (.t 118) (.t 119)),
 Lw 18 117,
 Lw 19 120] [0,1,2,3,4,11,12,16,18,19])
 (.seq (.region [Lw 121 12,
 Ll 122 (.bin .quo (.t 121) (.c (.int .i64 8))),
 Lw 20 122] [0,1,2,3,4,11,16,18,19,20])
 (.seq (.region [Lw 123 18,
 Lw 124 19,
 Ll 125 (.bin .lss (.t 123) (.t 124))] [0,1,2,3,4,11,16,18,19,20,125])
 (.cond (.t 125)
 (.seq (.region [Lw 126 18,
 Lw 127 20,
 Ll 128 (.bin .geq (.t 126) (.t 127)),
 Lw 10 128] [0,1,2,3,4,10,11,16])
 (.seq (.region [Lw 129 0,
 Lw 130 1,
 Lw 131 16,
 Lw 132 3,
 Lw 133 4,
 Ll 134 (.call .heap [] (.f F2v) [(.t 129),(.t 130),(.t 131),(.t 132),(.t 133)])] [0,2,3,4,10,11,16])
 (.region [Lw 135 16,
 Ll 136 (.bin .add (.t 135) (.c (.int .i64 1))),
 Lw 1 136] [0,1,2,3,4,10,11])))
 (.seq (.region [Lw 137 19,
 Lw 138 20,
 Ll 139 (.bin .geq (.t 137) (.t 138)),
 Lw 10 139] [0,1,2,3,4,10,11,16])
 (.seq (.region [Lw 140 0,
 Lw 141 16,
 Ll 142 (.bin .add (.t 141) (.c (.int .i64 1))),
 Lw 143 2,
 Lw 144 3,
 Lw 145 4,
 Ll 146 (.call .heap [] (.f F2v) [(.t 140),(.t 142),(.t 143),(.t 144),(.t 145)])] [0,1,3,4,10,11,16])
 (.region [Lw 147 16,
 Lw 2 147] [0,1,2,3,4,10,11])))))))))))))))))
def Z2v_B:Cd:=
 .seq (.region [Ll 10 (.mv (.c (.bool true)))] [0,1,2,3,4,10])
 (.seq (.region [Ll 11 (.mv (.c (.bool true)))] [0,1,2,3,4,10,11])
 (.block 0 (.loop (Z2v_L0))))
def Z2v:Fn:=
 { nparams:=5,nblk:=0,results:=[],body:=Z2v_B }
def Z2j_B:Cd:=
 .seq (.region [Lw 5 0,
 Ll 6 (.len false (.t 5)),
 Lw 4 6] [0,1,4])
 (.region [Lw 7 0,
 Lw 8 4,
 Lw 9 4,
 Ll 10 (.conv .u64 (.t 9)),
 Ll 11 (.call .flat [] (.f F2b) [(.t 10)]),
 Lw 12 1,
 Ll 13 (.call .heap [] (.f F2v) [(.t 7),(.c (.int .i64 0)),(.t 8),(.t 11),(.t 12)])] [])
def Z2j:Fn:=
 { nparams:=2,nblk:=0,results:=[],body:=Z2j_B }
def Z2_B:Cd:=
 .seq (.region [Ll 2 (.mv (.c (.bool false)))] [0])
 (.seq (.region [Lw 3 0,
 Lw 4 0,
 Ll 5 (.bin .neq (.t 3) (.t 4)),
 Lw 2 5] [2])
 (.ret))
def Z2:Fn:=
 { nparams:=1,nblk:=0,results:=[.tmp 2],body:=Z2_B }
def Z0_B:Cd:=
 .seq (.region [Ll 4 (.mv (.c (.int .i64 0)))] [0,1])
 (.seq (.region [Lw 7 0,
 Ll 8 (.call .flat [] (.f F2) [(.t 7)]),
 Lw 5 8] [0,1,5])
 (.seq (.region [Lw 9 1,
 Ll 10 (.call .flat [] (.f F2) [(.t 9)]),
 Lw 6 10] [0,1,5,6])
 (.seq (.seq (.region [Lw 11 5] [0,1,6,11])
 (.cond (.t 11)
 (.seq (.seq (.region [Lw 12 6] [12])
 (.cond (.t 12)
 (.seq (.region [Ll 4 (.mv (.c (.int .i64 0)))] [4])
 (.ret))
 (.skip)))
 (.seq (.region [Ll 4 (.mv (.c (.int .i64 (-1))))] [4])
 (.ret)))
 (.skip)))
 (.seq (.seq (.region [Lw 13 6] [0,1,13])
 (.cond (.t 13)
 (.seq (.region [Ll 4 (.mv (.c (.int .i64 1)))] [4])
 (.ret))
 (.skip)))
 (.seq (.seq (.region [Lw 14 0,
 Lw 15 1,
 Ll 16 (.bin .lss (.t 14) (.t 15))] [0,1,16])
 (.cond (.t 16)
 (.seq (.region [Ll 4 (.mv (.c (.int .i64 (-1))))] [4])
 (.ret))
 (.skip)))
 (.seq (.seq (.region [Lw 17 0,
 Lw 18 1,
 Ll 19 (.bin .gtr (.t 17) (.t 18))] [19])
 (.cond (.t 19)
 (.seq (.region [Ll 4 (.mv (.c (.int .i64 1)))] [4])
 (.ret))
 (.skip)))
 (.seq (.region [Ll 4 (.mv (.c (.int .i64 0)))] [4])
 (.ret))))))))
def Z0:Fn:=
 { nparams:=2,nblk:=0,results:=[.tmp 4],body:=Z0_B }
def Z3_B:Cd:=
 .seq (.region [Ll 2 (.mv (.c (.bool false)))] [0])
 (.seq (.region [Lw 3 0,
 Lw 4 0,
 Ll 5 (.bin .neq (.t 3) (.t 4)),
 Lw 2 5] [2])
 (.ret))
def Z3:Fn:=
 { nparams:=1,nblk:=0,results:=[.tmp 2],body:=Z3_B }
def Z1_B:Cd:=
 .seq (.region [Ll 4 (.mv (.c (.int .i64 0)))] [0,1])
 (.seq (.region [Lw 7 0,
 Ll 8 (.call .flat [] (.f F3) [(.t 7)]),
 Lw 5 8] [0,1,5])
 (.seq (.region [Lw 9 1,
 Ll 10 (.call .flat [] (.f F3) [(.t 9)]),
 Lw 6 10] [0,1,5,6])
 (.seq (.seq (.region [Lw 11 5] [0,1,6,11])
 (.cond (.t 11)
 (.seq (.seq (.region [Lw 12 6] [12])
 (.cond (.t 12)
 (.seq (.region [Ll 4 (.mv (.c (.int .i64 0)))] [4])
 (.ret))
 (.skip)))
 (.seq (.region [Ll 4 (.mv (.c (.int .i64 (-1))))] [4])
 (.ret)))
 (.skip)))
 (.seq (.seq (.region [Lw 13 6] [0,1,13])
 (.cond (.t 13)
 (.seq (.region [Ll 4 (.mv (.c (.int .i64 1)))] [4])
 (.ret))
 (.skip)))
 (.seq (.seq (.region [Lw 14 0,
 Lw 15 1,
 Ll 16 (.bin .lss (.t 14) (.t 15))] [0,1,16])
 (.cond (.t 16)
 (.seq (.region [Ll 4 (.mv (.c (.int .i64 (-1))))] [4])
 (.ret))
 (.skip)))
 (.seq (.seq (.region [Lw 17 0,
 Lw 18 1,
 Ll 19 (.bin .gtr (.t 17) (.t 18))] [19])
 (.cond (.t 19)
 (.seq (.region [Ll 4 (.mv (.c (.int .i64 1)))] [4])
 (.ret))
 (.skip)))
 (.seq (.region [Ll 4 (.mv (.c (.int .i64 0)))] [4])
 (.ret))))))))
def Z1:Fn:=
 { nparams:=2,nblk:=0,results:=[.tmp 4],body:=Z1_B }
end Pe

namespace Pe
open Go Gq
variable {T:Nat→Option Fn} {A:Oracle}
def noTup (ds:List D):Prop:=∀x∈ds,x.isTup=false
theorem toDs_map (h:Heap):∀{ds:List D},noTup ds→toDs h (ds.map .d)=some ds
 | [],_=>rfl
 | d::ds,hn=>by
  have h1:d.isTup=false:=hn d (by simp)
  have h2:=toDs_map h (ds:=ds) fun x hx=>hn x (by simp [hx])
  simp [h1,h2]
theorem toDs_app (h:Heap):∀{a b:List V} {x y:List D},toDs h a=some x→toDs h b=some y→toDs h (a++b)=some (x++y)
 | [],b,x,y,h1,h2=>by simp at h1; subst h1; simpa using h2
 | v::a,b,x,y,h1,h2=>by
  simp only [toDs_cons] at h1
  obtain ⟨d,hd,h1⟩:=Option.bind_eq_some_iff.1 h1
  simp only [kDs_eq] at h1
  split at h1
  ·cases h1
  ·rename_i hn
   obtain ⟨z,hz,rfl⟩:=Option.map_eq_some_iff.1 h1
   have:=toDs_app h hz h2
   simp [hd,hn,this]
theorem call_fn {O:Oracle} {np:Nat} {h:Heap} {news:List Nat} {g:Nat} {first caps:List D} {x r:D} (h1:noTup first) (h2:noTup caps) (hx:x.isTup=false) (ha:ask O g (first++[x]++caps)=some r) (hr:r.flat=true) :
 kCall O np h .flat news (g,first.map .d,caps.map .d) [.d x]=some (.d r,h):=by
 have e:toDs h (first.map .d++[.d x]++caps.map .d)=some (first++[x]++caps):=
  toDs_app h (toDs_app h (toDs_map h h1) (toDs_map h (ds:=[x]) (by intro y hy; simp at hy; subst hy; exact hx))) (toDs_map h h2)
 rw [kCall_flat,e,Option.bind_some,kAsk_ask,ha,Option.bind_some,kAns_flat,hr,if_pos rfl]
def idxF (P:D→Bool):List D→Nat→Int
 | [],_=>-1
 | d::ds,i=>if P d then i else idxF P ds (i+1)
theorem idxF_ge (P:D→Bool):∀(ds:List D) (i:Nat),(0≤idxF P ds i)↔ds.any P=true
 | [],i=>by simp [idxF]
 | d::ds,i=>by
  rw [idxF]
  cases h:P d
  ·simp [h,idxF_ge P ds (i+1)]
  ·simp [h]
def FnBool (O:Oracle) (g:Nat) (first caps cs:List D) (P:D→Bool):Prop:=noTup first∧noTup caps∧noTup cs∧∀x∈cs,ask O g (first++[x]++caps)=some (D.bool (P x))
def AllSh (s:Sh) (cs:List D):Prop:=∀x∈cs,x.sh=s
theorem l_indexB {O:Oracle} {g:Nat} {first caps cs:List D} {P:D→Bool} (hF:FnBool O g first caps cs P) (hs:AllSh .leaf cs) (hl:cs.length<2000000):∀(m i:Nat),i+m=cs.length →
 dn O 0 (.loop Z2h_L0) ⟨[(0,.d (.sl .leaf cs)),(1,.d (.fn g first caps)),(7,(.d (.int .i64 cs.length))),(8,(.d (.int .i64 i)))],[]⟩ =
  if (cs.drop i).any P then some (.ret,⟨[(4,(.d (.int .i64 (idxF P (cs.drop i) i))))],[]⟩) else some (.exit 0,⟨[(0,.d (.sl .leaf cs)),(1,.d (.fn g first caps)),(7,(.d (.int .i64 cs.length))),(8,(.d (.int .i64 cs.length))),(9,(.d (.bool false)))],[]⟩)
 | 0,i,hi=>by
  have:i=cs.length:=by omega
  subst this
  rw [List.drop_length]
  exact dn_stop (by simp -implicitDefEqProofs [Z2h_L0,dn_cond])
 | m+1,i,hi=>by
  have hlt:i<cs.length:=by omega
  have h1:(i:Int)<cs.length:=by omega
  have hx:cs[i]? = some cs[i]:=List.getElem?_eq_getElem hlt
  have hm:cs[i]∈cs:=List.getElem_mem hlt
  have hc:=call_fn (O:=O) (np:=0) (h:=[]) (news:=[]) hF.1 hF.2.1 (hF.2.2.1 _ hm) (hF.2.2.2 _ hm) rfl
  have hsh:=hs _ hm
  have w4:IntKind.i64.wrap ((i:Int)+1)=((i+1:Nat):Int):=(w64 (x:=(i:Int)+1) (by omega)).trans (by omega)
  rw [List.drop_eq_getElem_cons hlt]
  cases hp:P cs[i]
  ·rw [hp] at hc
   refine dn_round (s1:=⟨[(0,.d (.sl .leaf cs)),(1,.d (.fn g first caps)),(7,(.d (.int .i64 cs.length))),(8,(.d (.int .i64 ((i+1:Nat)))))],[]⟩) ?_ ?_
   ·simp -implicitDefEqProofs [Z2h_L0,dn_cond,h1,hx,hsh,hc,w4]
   ·rw [l_indexB hF hs hl m (i+1) (by omega)]
    simp only [List.any_cons,hp,Bool.false_or,idxF,Bool.false_eq_true,if_false]
  ·rw [hp] at hc
   have e:idxF P (cs[i]::cs.drop (i+1)) i=i:=by simp [idxF,hp]
   rw [e]
   simp only [List.any_cons,hp,Bool.true_or,if_true]
   exact dn_back (by simp -implicitDefEqProofs [Z2h_L0,dn_cond,h1,hx,hsh,hc])
theorem l_indexP {O:Oracle} {g:Nat} {first caps cs:List D} {P:D→Bool} (hF:FnBool O g first caps cs P) (hs:AllSh (.arr 64 .leaf) cs) (hl:cs.length<2000000):∀(m i:Nat),i+m=cs.length →
 dn O 0 (.loop Z2i_L0) ⟨[(0,.d (.sl (.arr 64 .leaf) cs)),(1,.d (.fn g first caps)),(7,(.d (.int .i64 cs.length))),(8,(.d (.int .i64 i)))],[]⟩ =
  if (cs.drop i).any P then some (.ret,⟨[(4,(.d (.int .i64 (idxF P (cs.drop i) i))))],[]⟩) else some (.exit 0,⟨[(0,.d (.sl (.arr 64 .leaf) cs)),(1,.d (.fn g first caps)),(7,(.d (.int .i64 cs.length))),(8,(.d (.int .i64 cs.length))),(9,(.d (.bool false)))],[]⟩)
 | 0,i,hi=>by
  have:i=cs.length:=by omega
  subst this
  rw [List.drop_length]
  exact dn_stop (by simp -implicitDefEqProofs [Z2i_L0,dn_cond])
 | m+1,i,hi=>by
  have hlt:i<cs.length:=by omega
  have h1:(i:Int)<cs.length:=by omega
  have hx:cs[i]? = some cs[i]:=List.getElem?_eq_getElem hlt
  have hm:cs[i]∈cs:=List.getElem_mem hlt
  have hc:=call_fn (O:=O) (np:=0) (h:=[]) (news:=[]) hF.1 hF.2.1 (hF.2.2.1 _ hm) (hF.2.2.2 _ hm) rfl
  have hsh:=hs _ hm
  have w4:IntKind.i64.wrap ((i:Int)+1)=((i+1:Nat):Int):=(w64 (x:=(i:Int)+1) (by omega)).trans (by omega)
  rw [List.drop_eq_getElem_cons hlt]
  cases hp:P cs[i]
  ·rw [hp] at hc
   refine dn_round (s1:=⟨[(0,.d (.sl (.arr 64 .leaf) cs)),(1,.d (.fn g first caps)),(7,(.d (.int .i64 cs.length))),(8,(.d (.int .i64 ((i+1:Nat)))))],[]⟩) ?_ ?_
   ·simp -implicitDefEqProofs [Z2i_L0,dn_cond,h1,hx,hsh,hc,w4]
   ·rw [l_indexP hF hs hl m (i+1) (by omega)]
    simp only [List.any_cons,hp,Bool.false_or,idxF,Bool.false_eq_true,if_false]
  ·rw [hp] at hc
   have e:idxF P (cs[i]::cs.drop (i+1)) i=i:=by simp [idxF,hp]
   rw [e]
   simp only [List.any_cons,hp,Bool.true_or,if_true]
   exact dn_back (by simp -implicitDefEqProofs [Z2i_L0,dn_cond,h1,hx,hsh,hc])
def C_indexOf (O:Oracle) (F:Nat) (s:Sh):Prop:=∀(g:Nat) (first caps cs:List D) (P:D→Bool),FnBool O g first caps cs P→AllSh s cs→cs.length<2000000 →
 ask O F [.sl s cs,.fn g first caps]=some (D.int .i64 (idxF P cs 0))
theorem c_indexB (hT:T F2h=some Z2h):C_indexOf (den T A) F2h .leaf:=by
 intro g first caps cs P hF hs hl
 have h:=l_indexB hF hs hl cs.length 0 (Nat.zero_add _)
 rw [List.drop_zero] at h
 have e0:((0:Nat):Int)=0:=rfl
 rw [e0] at h
 refine ask_of hT rfl ?_
 by_cases ha:cs.any P=true
 ·rw [if_pos ha] at h
  simp -implicitDefEqProofs [Z2h,Z2h_B,h]
 ·rw [if_neg ha] at h
  have hn:idxF P cs 0=-1:=by
   have hi:∀(ds:List D) (i:Nat),ds.any P=false→idxF P ds i=-1:=by
    intro ds
    induction ds with
    | nil=>intro i _; rfl
    | cons d ds ih=>intro i hd; simp at hd; rw [idxF,hd.1]; simpa using ih (i+1) (by simpa using hd.2)
   exact hi cs 0 (by simpa using ha)
  simp -implicitDefEqProofs [Z2h,Z2h_B,h,hn]
theorem c_indexP (hT:T F2i=some Z2i):C_indexOf (den T A) F2i (.arr 64 .leaf):=by
 intro g first caps cs P hF hs hl
 have h:=l_indexP hF hs hl cs.length 0 (Nat.zero_add _)
 rw [List.drop_zero] at h
 have e0:((0:Nat):Int)=0:=rfl
 rw [e0] at h
 refine ask_of hT rfl ?_
 by_cases ha:cs.any P=true
 ·rw [if_pos ha] at h
  simp -implicitDefEqProofs [Z2i,Z2i_B,h]
 ·rw [if_neg ha] at h
  have hn:idxF P cs 0=-1:=by
   have hi:∀(ds:List D) (i:Nat),ds.any P=false→idxF P ds i=-1:=by
    intro ds
    induction ds with
    | nil=>intro i _; rfl
    | cons d ds ih=>intro i hd; simp at hd; rw [idxF,hd.1]; simpa using ih (i+1) (by simpa using hd.2)
   exact hi cs 0 (by simpa using ha)
  simp -implicitDefEqProofs [Z2i,Z2i_B,h,hn]
def C_anyOf (O:Oracle) (F:Nat) (s:Sh):Prop:=∀(g:Nat) (first caps cs:List D) (P:D→Bool),FnBool O g first caps cs P→AllSh s cs→cs.length<2000000 →
 ask O F [.sl s cs,.fn g first caps]=some (D.bool (cs.any P))
theorem c_containsB (hT:T F2f=some Z2f) (hi:C_indexOf (den T A) F2h .leaf):C_anyOf (den T A) F2f .leaf:=by
 intro g first caps cs P hF hs hl
 have h:=hi g first caps cs P hF hs hl
 have e:decide (0≤idxF P cs 0)=cs.any P:=by rw [Bool.eq_iff_iff]; simpa using idxF_ge P cs 0
 refine ask_of hT rfl ?_
 simp -implicitDefEqProofs [Z2f,Z2f_B,h,e]
theorem c_containsP (hT:T F2g=some Z2g) (hi:C_indexOf (den T A) F2i (.arr 64 .leaf)):C_anyOf (den T A) F2g (.arr 64 .leaf):=by
 intro g first caps cs P hF hs hl
 have h:=hi g first caps cs P hF hs hl
 have e:decide (0≤idxF P cs 0)=cs.any P:=by rw [Bool.eq_iff_iff]; simpa using idxF_ge P cs 0
 refine ask_of hT rfl ?_
 simp -implicitDefEqProofs [Z2g,Z2g_B,h,e]
end Pe

namespace Pe
open Go Gq
variable {T:Nat→Option Fn} {A:Oracle}
def D.num:D→Int
 | .int _ n=>n
 | _=>0
def Bytes (l:List Int):Prop:=∀x∈l,0≤x∧x<256
abbrev arr8 (l:List Int):D:=(D.arr 64 .leaf (ints .u8 l))
def C_allOf (O:Oracle) (F:Nat) (s:Sh):Prop:=∀(g:Nat) (first caps cs:List D) (P:D→Bool),FnBool O g first caps cs P→AllSh s cs→cs.length<2000000 →
 ask O F [.sl s cs,.fn g first caps]=some (D.bool (cs.all P))
theorem any_not (P:D→Bool) (cs:List D):(!cs.any fun x=>!P x)=cs.all P:=by
 induction cs with
 | nil=>rfl
 | cons c cs ih=>simp [←ih]
theorem c_notB {g:Nat} {first caps cs:List D} {P:D→Bool} (hT:T Fl=some Zl) (hF:FnBool (den T A) g first caps cs P):FnBool (den T A) Fl [] [.ip (.fn g first caps)] cs fun x=>!P x:=by
 refine ⟨fun x hx=>by simp at hx,fun x hx=>by simp at hx; subst hx; rfl,hF.2.2.1,fun x hx=>?_⟩
 have hc:=call_fn (O:=den T A) (np:=0) (h:=[]) (news:=[]) hF.1 hF.2.1 (hF.2.2.1 _ hx) (hF.2.2.2 _ hx) rfl
 refine ask_of hT rfl ?_
 simp -implicitDefEqProofs [Zl,Zl_B,hc]
theorem c_areAllB (hT:T Fk=some Zk) (hT1:T Fl=some Zl) (hc:C_anyOf (den T A) F2f .leaf):C_allOf (den T A) Fk .leaf:=by
 intro g first caps cs P hF hs hl
 have e:=hc _ _ _ _ _ (c_notB hT1 hF) hs hl
 have e2:=any_not P cs
 have t1:=toDs_map [.box false (.fn g first caps)] hF.1
 have t2:=toDs_map [.box false (.fn g first caps)] hF.2.1
 rw [←e2]
 generalize (cs.any fun x=>!P x)=r at *
 refine ask_of hT rfl ?_
 simp -implicitDefEqProofs [Zk,Zk_B,e]
theorem c_notP {g:Nat} {first caps cs:List D} {P:D→Bool} (hT:T Fo=some Zo) (hs:AllSh (.arr 64 .leaf) cs) (hF:FnBool (den T A) g first caps cs P):FnBool (den T A) Fo [] [.ip (.fn g first caps)] cs fun x=>!P x:=by
 refine ⟨fun x hx=>by simp at hx,fun x hx=>by simp at hx; subst hx; rfl,hF.2.2.1,fun x hx=>?_⟩
 have hc:=call_fn (O:=den T A) (np:=0) (h:=[.box false x]) (news:=[]) hF.1 hF.2.1 (hF.2.2.1 _ hx) (hF.2.2.2 _ hx) rfl
 have h1:=hF.2.2.1 _ hx
 have h2:=hs _ hx
 refine ask_of hT rfl ?_
 simp -implicitDefEqProofs [Zo,Zo_B,hc,h1,h2]
theorem c_areAllP (hT:T Fm=some Zm) (hT1:T Fo=some Zo) (hc:C_anyOf (den T A) F2g (.arr 64 .leaf)):C_allOf (den T A) Fm (.arr 64 .leaf):=by
 intro g first caps cs P hF hs hl
 have e:=hc _ _ _ _ _ (c_notP hT1 hs hF) hs hl
 have e2:=any_not P cs
 rw [←e2]
 generalize (cs.any fun x=>!P x)=r at *
 refine ask_of hT rfl ?_
 simp -implicitDefEqProofs [Zm,Zm_B,e]
def isPl (p:Int) (l:List Int):Bool:=l.all fun x=>decide (x<p)
def C_isPoly (O:Oracle):Prop:=∀(p:Int) (l:List Int),Bytes l→l.length=64→ask O F13 [(D.int .i64 p),(D.arr 64 .leaf (ints .u8 l))]=some (D.bool (isPl p l))
theorem all_ints (p:Int) (l:List Int):((ints .u8 l).all fun x=>decide (x.num<p))=isPl p l:=by
 unfold ints isPl
 rw [List.all_map]
 rfl
theorem c_isPoly (hT:T F13=some Z13) (hT1:T F14=some Z14) (ha:C_allOf (den T A) Fk .leaf):C_isPoly (den T A):=by
 intro p l hb hl
 have hF:FnBool (den T A) F14 [] [.ip (D.int .i64 p)] (ints .u8 l) fun x=>decide (x.num<p):=by
  refine ⟨fun x hx=>by simp at hx,fun x hx=>by simp at hx; subst hx; rfl,fun x hx=>?_,fun x hx=>?_⟩
  ·obtain ⟨n,_,rfl⟩:=List.mem_map.1 hx; rfl
  ·obtain ⟨n,hn,rfl⟩:=List.mem_map.1 hx
   have h1:=hb n hn
   have w1:IntKind.i64.wrap n=n:=w64 (by omega)
   refine ask_of hT1 rfl ?_
   simp -implicitDefEqProofs [Z14,Z14_B,w1,D.num]
   exact decide_eq_decide.2 Iff.rfl
 have e:=ha _ _ _ _ _ hF (fun x hx=>by obtain ⟨n,_,rfl⟩:=List.mem_map.1 hx; rfl) (by simp [hl])
 rw [all_ints] at e
 have ht:l.take 64=l:=List.take_of_length_le (by omega)
 refine ask_of hT rfl ?_
 simp -implicitDefEqProofs [Z13,Z13_B,e,hl,ht]
def codeP (p:Int) (ls:List (List Int)):Int:=if isP p∧ls.all (isPl p) then 0 else 1
def Arrs (ls:List (List Int)):Prop:=∀l∈ls,l.length=64∧Bytes l
def D.nums:D→List Int
 | .arr _ _ cs=>cs.map D.num
 | _=>[]
theorem nums_arr8 (l:List Int):(arr8 l).nums=l:=by
 simp only [D.nums,ints,List.map_map]
 have:(D.num ∘ D.int .u8)=id:=rfl
 rw [this,List.map_id]
def C_polysCode (O:Oracle):Prop:=∀(p:Int) (ls:List (List Int)),Arrs ls→ls.length<2000000→ask O F19 [(D.int .i64 p),.sl (.arr 64 .leaf) (ls.map arr8)]=some (D.int .i64 (codeP p ls))
theorem fn_isPoly {p:Int} {ls:List (List Int)} (h:Arrs ls) (hT1:T F1a=some Z1a) (hi:C_isPoly (den T A)):FnBool (den T A) F1a [] [.ip (D.int .i64 p)] (ls.map arr8) fun x=>isPl p x.nums:=by
 refine ⟨fun x hx=>by simp at hx,fun x hx=>by simp at hx; subst hx; rfl,fun x hx=>?_,fun x hx=>?_⟩
 ·obtain ⟨n,_,rfl⟩:=List.mem_map.1 hx; rfl
 ·obtain ⟨n,hn,rfl⟩:=List.mem_map.1 hx
  have e:=hi p n (h n hn).2 (h n hn).1
  have e2:=nums_arr8 n
  refine ask_of hT1 rfl ?_
  simp -implicitDefEqProofs [Z1a,Z1a_B,e,e2]
theorem all_arrs (p:Int) (ls:List (List Int)):((ls.map arr8).all fun x=>isPl p x.nums)=ls.all (isPl p):=by
 rw [List.all_map]
 congr 1
 funext l
 simp only [Function.comp,nums_arr8]
theorem c_polysCode (hT:T F19=some Z19) (hT1:T F1a=some Z1a) (hp:C_isPrime (den T A)) (hi:C_isPoly (den T A)) (ha:C_allOf (den T A) Fm (.arr 64 .leaf)):C_polysCode (den T A):=by
 intro p ls h hl
 have e:=ha _ _ _ _ _ (fn_isPoly (p:=p) h hT1 hi) (fun x hx=>by obtain ⟨n,_,rfl⟩:=List.mem_map.1 hx; rfl) (by simpa using hl)
 rw [all_arrs] at e
 have e1:=hp p
 unfold codeP
 refine ask_of hT rfl ?_
 cases h1:isP p
 ·rw [h1] at e1
  simp -implicitDefEqProofs [Z19,Z19_B,e1,dn_cond]
 ·rw [h1] at e1
  cases h2:ls.all (isPl p)
  ·rw [h2] at e
   simp -implicitDefEqProofs [Z19,Z19_B,e1,e,dn_cond]
  ·rw [h2] at e
   simp -implicitDefEqProofs [Z19,Z19_B,e1,e,dn_cond]
end Pe

namespace Pe
open Go
theorem has_bytes:∀(xs:List D),(∀x∈xs,(Ty.int .u8).has x)→∃l:List Int,xs=ints .u8 l∧Bytes l
 | [],_=>⟨[],rfl,fun _ h=>by cases h⟩
 | x::xs,h=>by
  obtain ⟨l,rfl,hb⟩:=has_bytes xs fun y hy=>h y (List.mem_cons_of_mem _ hy)
  have h1:=h x (by simp)
  cases x <;> simp only [Ty.has] at h1
  obtain ⟨rfl,h1⟩:=h1
  refine ⟨_::l,rfl,fun y hy=>?_⟩
  rcases List.mem_cons.1 hy with rfl | hy
  ·have:=bounds_u8 h1; omega
  ·exact hb y hy
theorem hasAll_nil {xs:List D} (h:Ty.hasAll [] xs):xs=[]:=by
 cases xs <;> simp only [Ty.hasAll] at h; rfl
theorem hasAll_cons {T:Ty} {Ts:List Ty} {xs:List D} (h:Ty.hasAll (T::Ts) xs):∃x r,xs=x::r∧T.has x∧Ty.hasAll Ts r:=by
 cases xs <;> simp only [Ty.hasAll] at h; exact ⟨_,_,rfl,h⟩
def okAt (P:Program) (num:Nat→Nat) (g:Nat) (fn:Fn):Bool:=match P.funcs[g]? with
 | some x=>fnOk P num fn x
 | none=>false
def AllOk (P:Program) (num:Nat→Nat):List (Nat×Fn)→Prop
 | []=>True
 | e::r=>okAt P num (num e.1) e.2=true∧AllOk P num r
theorem tab_sound {P:Program} {num:Nat→Nat}:∀{l:List (Nat×Fn)},AllOk P num l→∀f fn,l.lookup f=some fn→∃g,P.funcs[num f]? = some g∧fnOk P num fn g=true
 | [],_,f,fn,h=>by cases h
 | (a,b)::r,⟨h1,h2⟩,f,fn,h=>by
  rw [List.lookup_cons] at h
  split at h
  ·rename_i e
   obtain rfl:=Option.some.inj h
   have:f=a:=by simpa using e
   subst this
   unfold okAt at h1
   split at h1
   ·rename_i g hg; exact ⟨g,hg,h1⟩
   ·cases h1
  ·exact tab_sound h2 f fn h
end Pe

namespace Pe
open Go
variable {P:Program} {num:Nat→Nat}
theorem line_sound {C:Cx} {φ:Loc} {s:St} {a:Act} {ops:Array Oper} {N np:Nat} {o:Oper} {j d:Nat} {v:V} {K:Act→World→Prop} {Q:Exit→Act→World→Prop}
 (hs:SR C φ s a.tmps) (hN:N≤a.tmps.size) (hd:o.dst=some d) (hdN:d<N) (hg:o.guard=none) (hj:ops[j]? = some o) (hop:OpWp P o a C φ s.h v s.h (fun _=>False))
 (hK:∀C' φ' u,Runs np C C' φ φ' s.h s.h→SR C' φ' ⟨(d,v)::s.e,s.h⟩ (a.put o.dst u).tmps→K (a.put o.dst u) C'.w):wpOp P ops Q j K a C.w:=by
 have hw:Region.wanted o (yielded ops a.tmps)=true:=by unfold Region.wanted; rw [hg]
 unfold wpOp
 simp only [hj]
 rw [hw,if_pos rfl]
 left
 refine hop K Q fun C' φ' u st hx k=>hK C' φ' u ⟨st,k.mono fun _ h=>h.elim⟩ ⟨st.hr,st.bd,fun n w hn=>?_⟩
 simp only [Env.get] at hn
 rw [hd,act_get (Nat.lt_of_lt_of_le hdN hN)]
 by_cases hdn:d=n
 ·subst hdn
  simp only [if_true,Option.some.injEq] at hn
  subst hn
  refine ⟨u,if_pos rfl,?_⟩
  rcases hx with hx | hx
  ·rw [hd] at hx; cases hx
  ·exact hx
 ·rw [if_neg hdn] at hn
  rw [if_neg (Ne.symm hdn)]
  obtain ⟨u0,h1,h2⟩:=hs.env n w hn
  exact ⟨u0,h1,k w u0 (fun _ _ h=>h.elim) h2⟩
theorem nilq_any {C:Cx} {φ:Loc} {s:St} {a:Act} {o:Oper} (hs:SR C φ s a.tmps) {x:Arg} {x' y':Operand} {t yt e:TypeId} (ho:o.op=.binOp .eql t x' y' yt) (hx:argOk C.num x x'=true) (ht:P.underlying t=some (.slice e)) (hy:a.eval y'=.slice none 0 0)
 {sh:Sh} {cs:List D} (hv:s.e.arg x=some (.d (.sl sh cs))):∃b,OpGood P o a C φ s.h (.d (.bool b)) s.h (fun _=>False):=by
 obtain ⟨ad,c,e1,_,_⟩:=RX_sl (arg_sound hs hx hv)
 refine ⟨decide (ad=none),good_same hs (u:=.bool (decide (ad=none))) ?_ (RX_mk_bool ..)⟩
 have hq:(Go.Op.equal t (.slice ad cs.length c) (.slice none 0 0)).run P C.w=.ok (decide (ad=none)) C.w:=by
  show (Go.Op.equalIn (9999+1) t (.slice ad cs.length c) (.slice none 0 0)).run P C.w=.ok (decide (ad=none)) C.w
  generalize 9999=d
  cases ad <;> simp [Go.Op.equalIn,Sem.run_bind,run_underlying ht,Result.andThen_ok,Sem.run_pure]
 have hb:binOp .eql t (.slice ad cs.length c) (.slice none 0 0)=(do pure (.bool (←Go.Op.equal t (.slice ad cs.length c) (.slice none 0 0)))):=rfl
 simp [execOp,ho,e1,hy,eqGuard,hb,hq]
theorem opOk_nilq {x:Arg} {o:Oper} (h:opOk P num (.nilq false x) o=true):∃t x' y' yt e,o.op=.binOp .eql t x' y' yt∧argOk num x x'=true∧isNilSlice y'=true∧P.underlying t=some (.slice e):=by
 cases hq:o.op with
 | binOp op t x' y' yt=>
  simp only [opOk,hq,Bool.and_eq_true,decide_eq_true_eq] at h
  obtain ⟨⟨⟨h3,h4⟩,h5⟩,h6⟩:=h
  split at h6
  ·rename_i e he
   exact ⟨t,x',y',yt,e,by rw [h3]; rfl,h4,h5,he⟩
  ·cases h6
 | _=>simp only [opOk,hq,Bool.false_eq_true] at h
def cloneCd (s:Sh) (z:D) (bytes:Nat):Cd:=
 .seq (.region [⟨some 2,.nilOwn 0 s,none,[]⟩] [0])
 (.seq (.seq (.region [⟨some 3,.mv (.t 0),none,[]⟩,
  ⟨some 4,.nilq false (.t 3),none,[]⟩] [0,4])
  (.cond (.t 4)
   (.seq (.region [⟨some 2,.nilOwn 2 s,none,[]⟩] [2])
    (.ret))
   (.skip)))
  (.seq (.region [⟨some 5,.buildSl false 2 s z 0 [],none,[]⟩,
   ⟨some 6,.mv (.t 0),none,[]⟩,
   ⟨some 7,.append s 3 bytes (.t 5) (.t 6),none,[]⟩,
   ⟨some 2,.mv (.t 7),none,[]⟩] [2])
   (.ret)))
def cloneFn (s:Sh) (z:D) (bytes:Nat):Fn:={ nparams:=1,nblk:=4,results:=[.tmp 2],body:=cloneCd s z bytes }
def cloneShape:Code→Bool
 | .seq _ (.seq (.seq (.region _ _ false) _) _)=>true
 | _=>false
theorem codeOk_seq {N:Nat} {a b:Cd} {x:Code} (h:codeOk P num N (.seq a b) x=true):∃y z,x=.seq y z∧codeOk P num N a y=true∧codeOk P num N b z=true:=by
 cases x <;> simp only [codeOk,Bool.false_eq_true,Bool.and_eq_true] at h
 exact ⟨_,_,rfl,h⟩
def cloneEnd (s:Sh):St:=⟨[(2,.sl 2 [] 0 0 none)],[.hole,.hole,.sl false s [],.hole]⟩
theorem noCalls:CallOk P num (fun _ _ _=>none):=fun f vs bs ans h=>by cases h
theorem clone_empty {s:Sh} {z:D} {bytes N:Nat} (hm:P.follows .mixedOrders=true) {x:Code} (hok:codeOk P num N (cloneCd s z bytes) x=true) (hshape:cloneShape x=true) (hbeq:Sh.beq s s=true)
 (C:Cx) (φ:Loc) (a:Act) (hC:C.num=num) (hs:SR C φ ⟨params 0 [.d (.sl s [])],[]++List.replicate 4 .hole⟩ a.tmps) (hN:N≤a.tmps.size)
 (Q:Exit→Act→World→Prop) (hQ:Fits num 0 Q .ret C φ ([]++List.replicate 4 .hole) (cloneEnd s) a):x.wp P Q a C.w:=by
 obtain ⟨x1,x2,rfl,ok1,ok2⟩:=codeOk_seq hok
 obtain ⟨x3,x4,rfl,ok3,ok4⟩:=codeOk_seq ok2
 obtain ⟨x5,x6,rfl,ok5,ok6⟩:=codeOk_seq ok3
 have nc:CallOk P num (fun _ _ _=>none):=noCalls
 -- ahead
 refine wp_seq (code_sound (O:=fun _ _ _=>none) (np:=0) (N:=N) nc hm 1 _ _ ok1 C φ _ ⟨[(0,.d (.sl s []))],[.hole,.hole,.hole,.hole]⟩ a .normal hC hs hN rfl _ ?_)
 intro C1 φ1 a1 k1 r1 hs1 z1 d1
 refine wp_seq (wp_seq ?_)
 -- the question
 cases x5 <;> simp only [codeOk,Bool.false_eq_true,Bool.and_eq_true] at ok5
 rename_i id ops draw
 cases draw with
 | true=>simp [cloneShape] at hshape
 | false=>
 have hops:=ok5.1
 obtain ⟨hl,hget⟩:=insOks_get hops
 have hl2:ops.size=2:=by simpa using hl.symm
 have g0:ops.toList[0]? = some ops[0]:=by simp [hl2]
 have g1:ops.toList[1]? = some ops[1]:=by simp [hl2]
 have i0:=hget 0 _ _ rfl g0
 have i1:=hget 1 _ _ rfl g1
 have N1:N≤a1.tmps.size:=by rw [z1]; exact hN
 refine wp_region ?_
 rw [hl2]
 show wpOps P ops _ [0,1] a1 C1.w
 rw [wpOps_cons]
 refine ins_sound (O:=fun _ _ _=>none) (np:=0) (k1▸nc) hs1 N1 (k1▸i0) (by simp) (s':=⟨[(3,.d (.sl s [])),(0,.d (.sl s []))],[.hole,.hole,.hole,.hole]⟩) rfl fun C2 φ2 u2 rn2 hs2=>?_
 have k2:C2.num=num:=rn2.st.le.num.trans k1
 rw [wpOps_cons]
 unfold insOk at i1
 simp only [Bool.and_eq_true,decide_eq_true_eq] at i1
 obtain ⟨⟨⟨hdst,hdN⟩,hop⟩,hguard⟩:=i1
 have hdst':ops[1].dst=some 4:=hdst.symm
 have hdN':4<N:=by simpa [hdst'] using hdN
 have hg:ops[1].guard=none:=by
  cases hq:ops[1].guard with
  | none=>rfl
  | some q=>rw [hq] at hguard; simp at hguard
 have N2:N≤(a1.put ops[0].dst u2).tmps.size:=by rw [put_size]; exact N1
 have key:∃b,OpGood P ops[1] (a1.put ops[0].dst u2) C2 φ2 [.hole,.hole,.hole,.hole] (.d (.bool b)) [.hole,.hole,.hole,.hole] (fun _=>False):=by
  obtain ⟨t,x',y',yt,e,h1,h2,h3,h4⟩:=opOk_nilq hop
  refine nilq_any hs2 h1 (k2▸h2) h4 ?_ (x:=.t 3) (sh:=s) (cs:=[]) rfl
  unfold isNilSlice at h3
  split at h3
  ·rfl
  ·cases h3
 obtain ⟨b,key⟩:=key
 refine line_sound (np:=0) hs2 N2 hdst' hdN' hg (by simp) key.wp fun C3 φ3 u3 rn3 hs3=>?_
 have k3:C3.num=num:=rn3.st.le.num.trans k2
 show (Exit.then _ _) .normal _ _
 obtain ⟨rn4,hs4⟩:=region_end 0 hs3 [0,4]
 have N4:N≤((a1.put ops[0].dst u2).put ops[1].dst u3).tmps.size:=by rw [put_size]; exact N2
 have d4:((a1.put ops[0].dst u2).put ops[1].dst u3).defers=a.defers:=by
  rw [←d1]
  cases ops[0].dst <;> cases ops[1].dst <;> rfl
 have z4:((a1.put ops[0].dst u2).put ops[1].dst u3).tmps.size=a.tmps.size:=by rw [put_size,put_size,z1]
 have back:Runs 0 C C3 φ φ3 ([]++List.replicate 4 .hole) [.hole,.hole,.hole,.hole]:=(r1.trans (rn2.trans rn3)).trans rn4
 generalize ((a1.put ops[0].dst u2).put ops[1].dst u3)=a3 at *
 have hs5:SR C3 φ3 ⟨[(0,.d (.sl s [])),(4,.d (.bool b))],[.hole,.hole,.hole,.hole]⟩ a3.tmps:=hs4
 cases b with
 | true=>
  have ev:evalCd (fun _ _ _=>none) 0 1 (.cond (.t 4) (.seq (.region [⟨some 2,.nilOwn 2 s,none,[]⟩] [2]) (.ret)) (.skip)) ⟨[(0,.d (.sl s [])),(4,.d (.bool true))],[.hole,.hole,.hole,.hole]⟩=some (.ret,⟨[(2,.sl 2 [] 0 0 (some 0))],[.hole,.hole,.sl false s [],.hole]⟩):=rfl
  refine code_sound (O:=fun _ _ _=>none) (np:=0) (N:=N) nc hm 1 _ _ ok6 C3 φ3 _ _ a3 .ret k3 hs5 N4 ev _ ?_
  intro C6 φ6 a6 k6 r6 hs6 z6 d6
  refine hQ C6 φ6 a6 k6 (back.trans r6) ⟨hs6.hr,hs6.bd,fun n v hn=>?_⟩ (z6.trans z4) (d6.trans d4)
  simp only [cloneEnd,Env.get] at hn
  split at hn
  ·rename_i h2
   subst h2
   obtain rfl:=Option.some.inj hn
   obtain ⟨u,h5,h6⟩:=hs6.env 2 (.sl 2 [] 0 0 (some 0)) rfl
   refine ⟨u,h5,?_⟩
   simp only [RX] at h6 ⊢
   obtain ⟨B,base,sh,m,ad,c,e1,e2,e3,e4,e5,e6,e7⟩:=h6
   exact ⟨B,base,sh,m,ad,c,e1,e2,e3,e4,e5,(fun k hk=>by cases hk),e7⟩
  ·cases hn
 | false=>
  have ev:evalCd (fun _ _ _=>none) 0 1 (.cond (.t 4) (.seq (.region [⟨some 2,.nilOwn 2 s,none,[]⟩] [2]) (.ret)) (.skip)) ⟨[(0,.d (.sl s [])),(4,.d (.bool false))],[.hole,.hole,.hole,.hole]⟩=some (.normal,⟨[(0,.d (.sl s [])),(4,.d (.bool false))],[.hole,.hole,.hole,.hole]⟩):=rfl
  refine code_sound (O:=fun _ _ _=>none) (np:=0) (N:=N) nc hm 1 _ _ ok6 C3 φ3 _ _ a3 .normal k3 hs5 N4 ev _ ?_
  intro C6 φ6 a6 k6 r6 hs6 z6 d6
  have ev2:evalCd (fun _ _ _=>none) 0 1 (.seq (.region [⟨some 5,.buildSl false 2 s z 0 [],none,[]⟩,⟨some 6,.mv (.t 0),none,[]⟩,⟨some 7,.append s 3 bytes (.t 5) (.t 6),none,[]⟩,⟨some 2,.mv (.t 7),none,[]⟩] [2]) (.ret)) ⟨[(0,.d (.sl s [])),(4,.d (.bool false))],[.hole,.hole,.hole,.hole]⟩=some (.ret,cloneEnd s):=by
   simp [evalCd,evalList,evalIns,execIns,Ins.side,Ins.on,evalOp,partsD,fillD,freezeIf,partsRefs,putBlk,Env.arg,Env.get,Env.putO,Env.kill,Op.kill,toD,hbeq,Env.keep,clean,Env.refd,V.refs,cloneEnd,Env.clear]
  refine code_sound (O:=fun _ _ _=>none) (np:=0) (N:=N) nc hm 1 _ _ ok4 C6 φ6 _ _ a6 .ret k6 hs6 (by rw [z6]; exact N4) ev2 _ ?_
  intro C7 φ7 a7 k7 r7 hs7 z7 d7
  exact hQ C7 φ7 a7 k7 ((back.trans r6).trans r7) hs7 (z7.trans (z6.trans z4)) (d7.trans (d6.trans d4))
theorem clone_sound {s:Sh} {z:D} {bytes:Nat} (hm:P.follows .mixedOrders=true) {f:Nat} {g:Func} (hg:P.funcs[num f]? = some g) (hok:fnOk P num (cloneFn s z bytes) g=true) (hshape:(match g.body with | some x=>cloneShape x | none=>false)=true) (hbeq:Sh.beq s s=true)
 {cs:List D} (hl:cs.length*bytes≤1099511627776) {C:Cx} {φ:Loc} {us:List Value} (hC:C.num=num) (hr:HR C φ []) (hb:∀b,C.I b→b<C.w.heap.size) (hv:RXs C φ [] [.d (.sl s cs)] us) :
 Ends P (num f) us C φ [] [.sl false s cs] (.sl 0 [] 0 cs.length none):=by
 cases cs with
 | cons c cs=>
  have hl':(cs.length+1)*bytes≤1099511627776:=hl
  have hrun:run (fun _ _ _=>none) 1 (cloneFn s z bytes) [.d (.sl s (c::cs))] []=some (.sl 0 [] 0 (c::cs).length none,[],[.sl false s (c::cs)]):=by
   simp [hl',run,cloneFn,cloneCd,evalCd,evalList,evalIns,execIns,Ins.side,Ins.on,evalOp,partsD,fillD,freezeIf,partsRefs,putBlk,Env.arg,Env.get,Env.putO,Env.kill,Op.kill,toD,hbeq,Env.keep,clean,Env.refd,V.refs,Env.clear,params,resVs,resV,result,once,Heap.pick,V.ren,List.idxOf,List.findIdx,List.findIdx.go]
  exact (run_sound noCalls hm hg hok hrun hC hr hb hv).2
 | nil=>
  unfold fnOk at hok
  simp only [Bool.and_eq_true,bne_iff_ne,ne_eq,decide_eq_true_eq] at hok
  obtain ⟨⟨⟨hname,hnp⟩,hres⟩,hbody⟩:=hok
  cases hcode:g.body with
  | none=>rw [hcode] at hbody; cases hbody
  | some code=>
   rw [hcode] at hbody hshape
   simp only at hbody hshape
   refine (run_of (cloneFn s z bytes) hg hname hnp hres hcode (vs:=[.d (.sl s [])]) (bs:=[]) (ans:=(.sl 0 [] 0 0 none,[],[.sl false s []])) .ret (cloneEnd s) rfl ?_ (fun C φ a hC hs hN Q hQ=>clone_empty hm hbody hshape hbeq C φ a hC hs hN Q hQ) hC hr hb hv).2
   simp [cloneFn,cloneEnd,resVs,resV,Env.get,result,once,V.refs,Heap.pick,V.ren,List.idxOf,List.findIdx,List.findIdx.go]
def cloneA (ids:Nat→Option (Sh×D×Nat)):Oracle:=fun f vs bs=>
 match ids f with
 | some (s,_,bytes)=>match vs with
  | [.d (.sl t cs)]=>match bs with
   | []=>if Sh.beq t s=true∧cs.length*bytes≤1099511627776 then some (.sl 0 [] 0 cs.length none,[],[.sl false t cs]) else none
   | _=>none
  | _=>none
 | none=>none
theorem cloneA_eq {ids:Nat→Option (Sh×D×Nat)} {f:Nat} {s:Sh} {z:D} {bytes:Nat} {cs:List D} (h1:ids f=some (s,z,bytes)) (h0:Sh.beq s s=true) (h2:cs.length*bytes≤1099511627776) :
 cloneA ids f [.d (.sl s cs)] []=some (.sl 0 [] 0 cs.length none,[],[.sl false s cs]):=by
 simp [cloneA,h1,h0,h2]
theorem cloneA_sound {ids:Nat→Option (Sh×D×Nat)} (hm:P.follows .mixedOrders=true)
 (hids:∀f s z bytes,ids f=some (s,z,bytes)→Sh.beq s s=true∧∃g,P.funcs[num f]? = some g∧fnOk P num (cloneFn s z bytes) g=true∧(match g.body with | some x=>cloneShape x | none=>false)=true):CallOk P num (cloneA ids):=by
 intro f vs bs ans h C φ us hC hr hb hv
 unfold cloneA at h
 split at h
 ·rename_i s z bytes hi
  split at h
  ·rename_i t cs
   split at h
   ·split at h
    ·rename_i hc
     obtain rfl:=Option.some.inj h
     obtain ⟨hbeq,g,hg,hok,hshape⟩:=hids f s z bytes hi
     obtain rfl:=Sh.beq_eq _ _ hc.1
     exact ⟨rfl,clone_sound hm hg hok hshape hbeq hc.2 hC hr hb hv⟩
    ·cases h
   ·cases h
  ·cases h
 ·cases h
end Pe

/-
 Functions of the laws in the small form,printed by a program.
-/
namespace Pe
open Go
def Z26_B:Cd:=
 .seq (.region [Ll 2 (.mv (.c (.bool false)))] [0])
 (.seq (.region [Lw 3 0,
 Ll 4 (.len false (.t 3)),
 Ll 5 (.bin .gtr (.t 4) (.c (.int .i64 4096))),
 Lw 2 5] [2])
 (.ret))
def Z26:Fn:=
 { nparams:=1,nblk:=0,results:=[.tmp 2],body:=Z26_B }
end Pe

/-
 Functions of the laws in the small form,printed by a program.
-/
namespace Pe
open Go
def Z2a_L0:Cd:=
 .seq (.seq (.region [Lw 16 6,
 Lw 17 0,
 Ll 18 (.len false (.t 17)),
 Ll 19 (.bin .lss (.t 16) (.t 18))] [0,5,6,19])
 (.cond (.t 19)
 (.skip)
 (.exit 0)))
 (.seq (.block 1 (.region [Lw 22 5,
 Lw 23 5,
 Ll 24 (.chk (.t 23)),
 Ll 25 (.fldA [.leaf,.leaf,.leaf] (.t 24) 2),
 Ll 26 (.load .leaf (.t 25)),
 Ll 27 (.bin .mul (.t 26) (.c (.int .u64 1099511628211))),
 Lw 28 0,
 Lw 29 6,
 Ll 30 (.idxA none .leaf (.t 28) (.t 29)),
 Ll 31 (.load .leaf (.t 30)),
 Ll 32 (.conv .u64 (.t 31)),
 Ll 33 (.bin .add (.t 27) (.t 32)),
 Ll 34 (.bin .add (.t 33) (.c (.int .u64 5))),
 Ll 35 (.chk (.t 22)),
 Ll 36 (.fldA [.leaf,.leaf,.leaf] (.t 35) 2),
 Ls (.store false .leaf (.t 36) (.t 34))] [0,5,6]))
 (.region [Lw 20 6,
 Ll 21 (.bin .add (.t 20) (.c (.int .i64 1))),
 Lw 6 21] [0,5,6]))
def Z2a_B:Cd:=
 .seq (.region [Ll 4 (.mv (.c .nilp))] [0,1])
 (.seq (.region [Lw 7 0,
 Lw 8 1,
 Ll 9 (.bin .mul (.t 8) (.c (.int .u64 8219))),
 Lw 10 0,
 Ll 11 (.len false (.t 10)),
 Ll 12 (.conv .u64 (.t 11)),
 Ll 13 (.bin .add (.t 9) (.t 12)),
 Ll 14 (.build true (.st [.leaf,.leaf,.leaf] [(.sl .leaf []),(.int .i64 0),(.int .u64 0)]) [(0,(.t 7)),(2,(.t 13))]),
 Ll 15 (.box false 0 (.t 14)),
 Lw 5 15] [0,5])
 (.seq (.seq (.region [Ll 6 (.mv (.c (.int .i64 0)))] [0,5,6])
 (.block 0 (.loop (Z2a_L0))))
 (.seq (.region [Lw 37 5,
 Lw 4 37] [4])
 (.ret))))
def Z2a:Fn:=
 { nparams:=2,nblk:=1,results:=[.tmp 4],body:=Z2a_B }
def ir_laws_dice_below_B:Cd:=
 .seq (.region [Ll 4 (.mv (.c (.int .i64 0)))] [0,1])
 (.seq (.seq (.region [Lw 6 1,
 Ll 7 (.bin .lss (.t 6) (.c (.int .i64 1)))] [0,1,7])
 (.cond (.t 7)
 (.seq (.region [Ll 4 (.mv (.c (.int .i64 0)))] [4])
 (.ret))
 (.skip)))
 (.seq (.region [Lw 8 0,
 Lw 9 0,
 Ll 10 (.chk (.t 9)),
 Ll 11 (.fldA [.leaf,.leaf,.leaf] (.t 10) 2),
 Ll 12 (.load .leaf (.t 11)),
 Ll 13 (.bin .mul (.t 12) (.c (.int .u64 6364136223846793005))),
 Ll 14 (.bin .add (.t 13) (.c (.int .u64 1442695040888963407))),
 Ll 15 (.chk (.t 8)),
 Ll 16 (.fldA [.leaf,.leaf,.leaf] (.t 15) 2),
 Ls (.store false .leaf (.t 16) (.t 14))] [0,1])
 (.seq (.region [Lw 17 0,
 Ll 18 (.chk (.t 17)),
 Ll 19 (.fldA [.leaf,.leaf,.leaf] (.t 18) 2),
 Ll 20 (.load .leaf (.t 19)),
 Ll 21 (.bin .shr (.t 20) (.c (.int .u64 33))),
 Ll 22 (.bin .and (.t 21) (.c (.int .u64 16777215))),
 Ll 23 (.conv .i64 (.t 22)),
 Lw 5 23] [0,1,5])
 (.seq (.seq (.region [Lw 24 0,
 Ll 25 (.chk (.t 24)),
 Ll 26 (.fldA [.leaf,.leaf,.leaf] (.t 25) 1),
 Ll 27 (.load .leaf (.t 26)),
 Lw 28 0,
 Ll 29 (.chk (.t 28)),
 Ll 30 (.fldA [.leaf,.leaf,.leaf] (.t 29) 0),
 Ll 31 (.load .leaf (.t 30)),
 Ll 32 (.len false (.t 31)),
 Ll 33 (.bin .lss (.t 27) (.t 32))] [0,1,5,33])
 (.cond (.t 33)
 (.seq (.region [Lw 34 5,
 Lw 35 0,
 Ll 36 (.chk (.t 35)),
 Ll 37 (.fldA [.leaf,.leaf,.leaf] (.t 36) 0),
 Ll 38 (.load .leaf (.t 37)),
 Lw 39 0,
 Ll 40 (.chk (.t 39)),
 Ll 41 (.fldA [.leaf,.leaf,.leaf] (.t 40) 1),
 Ll 42 (.load .leaf (.t 41)),
 Ll 43 (.idxA none .leaf (.t 38) (.t 42)),
 Ll 44 (.load .leaf (.t 43)),
 Ll 45 (.conv .i64 (.t 44)),
 Ll 46 (.bin .add (.t 34) (.t 45)),
 Lw 5 46] [0,1,5])
 (.region [Lw 47 0,
 Lw 48 0,
 Ll 49 (.chk (.t 48)),
 Ll 50 (.fldA [.leaf,.leaf,.leaf] (.t 49) 1),
 Ll 51 (.load .leaf (.t 50)),
 Ll 52 (.bin .add (.t 51) (.c (.int .i64 1))),
 Ll 53 (.chk (.t 47)),
 Ll 54 (.fldA [.leaf,.leaf,.leaf] (.t 53) 1),
 Ls (.store false .leaf (.t 54) (.t 52))] [1,5]))
 (.skip)))
 (.seq (.region [Lw 55 5,
 Lw 56 1,
 Ll 57 (.bin .rem (.t 55) (.t 56)),
 Lw 4 57] [4])
 (.ret))))))
def Z27:Fn:=
 { nparams:=2,nblk:=0,results:=[.tmp 4],body:=ir_laws_dice_below_B }
def Z28_L0:Cd:=
 .seq (.seq (.region [Lw 10 8,
 Lw 11 2,
 Ll 12 (.bin .leq (.t 10) (.t 11))] [0,1,2,6,7,8,12])
 (.cond (.t 12)
 (.skip)
 (.exit 0)))
 (.seq (.block 1 (.region [Lw 15 8,
 Lw 16 0,
 Lw 17 1,
 Ll 18 (.call .heap [] (.f F27) [(.t 16),(.t 17)]),
 Ll 19 (.conv .u8 (.t 18)),
 Ll 20 (.idxA (some 64) .leaf (.t 7) (.t 15)),
 Ls (.store false .leaf (.t 20) (.t 19))] [0,1,2,6,7,8]))
 (.region [Lw 13 8,
 Ll 14 (.bin .add (.t 13) (.c (.int .i64 1))),
 Lw 8 14] [0,1,2,6,7,8]))
def Z28_B:Cd:=
 .seq (.region [Ll 6 (.box false 0 (.c (.arr 64 .leaf z64)))] [0,1,2,6])
 (.seq (.region [Ll 9 (.build false (.arr 64 .leaf z64) []),
 Ll 7 (.box false 1 (.c (.arr 64 .leaf z64))),
 Ls (.store false (.arr 64 .leaf) (.t 7) (.t 9))] [0,1,2,6,7])
 (.seq (.seq (.region [Ll 8 (.mv (.c (.int .i64 0)))] [0,1,2,6,7,8])
 (.block 0 (.loop (Z28_L0))))
 (.seq (.region [Ll 21 (.load (.arr 64 .leaf) (.t 7)),
 Ls (.store false (.arr 64 .leaf) (.t 6) (.t 21))] [6])
 (.ret))))
def Z28:Fn:=
 { nparams:=3,nblk:=2,results:=[.cell 6 (.arr 64 .leaf)],body:=Z28_B }
end Pe
