/-
  A part of the proof: an evaluator for a small form of the code, its soundness, and contracts of functions over it.
-/
import GoSem.Core.View
import GoSem.Core.Code
import Derived.Orders
import Derived.Below
import Derived.Laws.IdiomCopy
import Derived.Deep.MidRow
import Derived.Deep.AppendSrc
import Derived.Laws.Sem
import Derived.Laws.MakeOwn
import Derived.Laws.Tables
import Derived.Laws.AppendOwn
import Derived.Deep.Upon
import Derived.DeepKeys
import Derived.Laws.StructEq
import Derived.Laws.Concat

abbrev aa:=@Option.bind_eq_some_iff
abbrev ab:=@Option.some.injEq
abbrev ac:=@List.getElem?_eq_getElem
abbrev ae:=@Option.map_eq_some_iff
abbrev af:=@List.length_map
abbrev ah:=@Option.bind_some
abbrev al:=@Prod.mk.injEq
abbrev ao:=@List.getElem?_eq_some_iff
abbrev au:=@Option.some.inj
abbrev av:=@Bool.and_eq_true
abbrev aw:=@List.take_of_length_le
abbrev az:=@List.getElem_mem
abbrev b4:=@List.getElem?_set_self
abbrev b5:=@Bool.false_eq_true
abbrev b7:=@List.getElem?_set_ne
abbrev b8:=@List.length_take
abbrev b9:=@Nat.zero_add
abbrev ba:=@Nat.le_refl
abbrev bb:=@List.getElem_map
abbrev bc:=@Option.map_some
abbrev bg:=@List.length_append
abbrev bi:=@List.getElem?_append_left
abbrev bj:=@List.getElem?_append_right
abbrev bp:=@List.mem_append
abbrev bq:=@List.getElem?_eq_none
abbrev br:=@List.take_succ_eq_append_getElem
abbrev bt:=@List.length_replicate
abbrev bv:=@List.length_cons
abbrev bx:=@List.length_set
abbrev c7:=@List.mem_singleton
abbrev c8:=@List.drop_eq_getElem_cons
abbrev cb:=@List.getElem?_map
abbrev cd:=@List.mem_append_left
abbrev ce:=@List.mem_or_eq_of_mem_set
abbrev ch:=@Array.getElem?_eq_some_iff
abbrev ci:=@List.ext_getElem?
abbrev cj:=@List.map_append
abbrev cn:=@List.mem_map
abbrev ct:=@List.getElem?_cons_zero
abbrev cw:=@List.nil_append
abbrev cx:=@List.take_zero
abbrev cz:=@List.cons_append
abbrev d8:=@List.length_range
abbrev d9:=@Int.tmod_eq_emod_of_nonneg
abbrev da:=@List.length_nil
abbrev db:=@List.getElem?_range
abbrev dc:=@Classical.choose_spec
abbrev dd:=@Nat.add_zero
abbrev de:=@Int.mul_le_mul_of_nonneg_left
abbrev df:=@List.all_eq_true
abbrev dh:=@List.drop_zero
abbrev dl:=@List.mem_of_getElem?
abbrev dp:=@List.mem_cons
abbrev du:=@Int.emod_lt_of_pos
abbrev dx:=@Nat.lt_or_ge
abbrev dy:=@List.map_set
abbrev dz:=@Go.RowKit.Below.heap_alloc
abbrev ec:=@List.length_drop
abbrev eh:=@List.getElem?_take
abbrev ej:=@List.length_eq_zero_iff
abbrev ek:=@List.append_assoc
abbrev eo:=@Int.emod_nonneg
abbrev ep:=@Nat.lt_of_lt_of_le
abbrev ew:=@List.map_replicate
abbrev ez:=@List.pairwise_cons
abbrev f7:=@Classical.byContradiction
abbrev f9:=@Ne.symm
abbrev fa:=@List.map_nil
abbrev fb:=@Array.getD_eq_getD_getElem?
abbrev fc:=@List.mem_of_mem_take
abbrev ff:=@Nat.mul_le_mul_right
abbrev fg:=@List.eq_of_mem_replicate
abbrev fh:=@Nat.zero_le
abbrev fj:=@List.drop_length
abbrev fk:=@List.pairwise_singleton
abbrev fm:=@Nat.add_assoc
abbrev fq:=@Nat.succ_mul
abbrev fu:=@Array.getElem?_setIfInBounds
abbrev gi:=@List.getElem?_replicate
abbrev gp:=@Int.mul_nonneg
abbrev gq:=@List.map_cons
abbrev gt:=@List.drop_eq_nil_of_le
abbrev gu:=@List.mem_map_of_mem
abbrev i4:=@List.take_append_drop
abbrev i5:=@Array.getElem?_toList
abbrev ig:=@List.getElem?_drop
abbrev iq:=@List.take_length
abbrev iu:=@List.pairwise_append
abbrev iw:=@List.getElem?_cons_succ
abbrev ix:=@Nat.exists_eq_add_of_le
abbrev iz:=@Nat.le_max_right
abbrev jc:=@List.drop_drop
abbrev jd:=@Nat.lt_trichotomy
abbrev je:=@List.getElem_of_mem
abbrev jf:=@List.take_succ_cons
abbrev jh:=@List.nodup_cons
abbrev jk:=@List.length_singleton
abbrev jt:=@Int.pow_succ
abbrev ju:=@Nat.le_trans
abbrev jv:=@List.set_eq_of_length_le
abbrev ka:=@List.mem_cons_of_mem
abbrev kb:=@List.drop_left
abbrev kh:=@Bool.not_eq_true'
abbrev ki:=@List.getElem_take
abbrev ko:=@Nat.le_max_left
abbrev kv:=@List.length_pos_iff
abbrev lh:=@Nat.sub_self
abbrev lj:=@Nat.zero_mul
abbrev lm:=@Int.mul_comm
abbrev lq:=@List.idxOf_lt_length_of_mem
abbrev lr:=@Nat.add_mul
abbrev me:=@Array.getElem?_append_left
abbrev mf:=@Nat.eq_zero_or_pos
abbrev mg:=@Int.ediv_lt_of_lt_mul
abbrev mh:=@Iff.rfl
abbrev mi:=@List.getElem_set_self
abbrev mz:=@Array.getElem?_eq_getElem
abbrev n9:=@Int.emod_eq_of_lt
abbrev ni:=@Int.emod_emod_of_dvd
abbrev nw:=@List.idxOf_lt_length_iff
abbrev o4:=@Nat.mul_le_mul_left
abbrev oc:=@List.ext_getElem
abbrev ov:=@List.append_nil
abbrev oz:=@List.any_cons
abbrev p5:=@Nat.dvd_trans
abbrev p7:=@List.set_append_right
abbrev pa:=@List.pairwise_map
abbrev pt:=@List.mem_range
abbrev pu:=@Int.add_mul_emod_self_left
abbrev pv:=@List.take_left
abbrev qi:=@Nat.pow_succ
abbrev qj:=@Array.toList_map
abbrev qv:=@Array.length_toList
abbrev qw:=@List.length_reverse
abbrev ri:=@Int.ediv_nonneg
abbrev se:=@Int.mul_one
abbrev sz:=@Int.pow_nonneg
abbrev t4:=@Nat.pow_zero
abbrev t5:=@Nat.dvd_mul_right
abbrev t6:=@Int.ediv_eq_zero_of_lt
abbrev tt:=@Nat.dvd_mul_left
abbrev u7:=@Nat.le_of_dvd
abbrev u9:=@List.take_set
abbrev uf:=@Int.mul_add
abbrev ug:=@List.eq_nil_of_length_eq_zero
abbrev uy:=@List.map_map
abbrev xj:=@Int.toNat_natCast
abbrev xu:=@Int.mul_assoc
abbrev zy:=@Nat.mul_comm
abbrev zz:=@Nat.mul_zero
abbrev A3:=@Bool.eq_iff_iff
abbrev B8:=@Int.le_refl
namespace Pe
open Go
inductive Sh where
 | leaf
 | arr (n:Nat) (s:Sh)
 | st (ss:List Sh)
 deriving Inhabited
mutual
def Sh.size:Sh→Nat
 | .leaf=>1
 | .arr n s=>n*s.size
 | .st ss=>Sh.sizes ss
def Sh.sizes:List Sh→Nat
 | []=>0
 | s::ss=>s.size+Sh.sizes ss
end
mutual
def Sh.beq:Sh→Sh→Bool
 | .leaf,.leaf=>true
 | .arr n s,.arr m t=>n == m&&Sh.beq s t
 | .st ss,.st ts=>Sh.beqs ss ts
 | _,_=>false
def Sh.beqs:List Sh→List Sh→Bool
 | [],[]=>true
 | s::ss,t::ts=>Sh.beq s t&&Sh.beqs ss ts
 | _,_=>false
end
inductive D where
 | int (k:IntKind) (n:Int)
 | bool (b:Bool)
 | str (s:ByteArray)
 | arr (n:Nat) (s:Sh) (cs:List D)
 | st (ss:List Sh) (cs:List D)
 | sl (s:Sh) (cs:List D)
 | tup (cs:List D)
 | ip (d:D)
 | nilp
 | nils (s:Sh)
 | fn (f:Nat) (first caps:List D)
 | nilf
 | iface (t:Nat) (d:D)
 | nili
 deriving Inhabited
def D.sh:D→Sh
 | .arr n s _=>.arr n s
 | .st ss _=>.st ss
 | _=>.leaf
def D.isTup:D→Bool
 | .tup _=>true
 | _=>false
def D.get:D→List Nat→Option D
 | d,[]=>some d
 | .arr _ _ cs,i::p=>(cs[i]?).bind (D.get · p)
 | .st _ cs,i::p=>(cs[i]?).bind (D.get · p)
 | _,_::_=>none
def D.set:D→List Nat→D→Option D
 | d,[],x=>if Sh.beq d.sh x.sh then some x else none
 | .arr n s cs,i::p,x=>(cs[i]?).bind fun c=>(D.set c p x).map fun c'=>.arr n s (cs.set i c')
 | .st ss cs,i::p,x=>(cs[i]?).bind fun c=>(D.set c p x).map fun c'=>.st ss (cs.set i c')
 | _,_::_,_=>none
inductive MK where
 | s (b:ByteArray)
 | i (n:Int)
 deriving Inhabited
def MK.d:MK→D
 | .s b=>.str b
 | .i n=>.int .i64 n
def MK.isS:MK→Bool
 | .s _=>true
 | .i _=>false
def MK.same:MK→MK→Bool
 | .s a,.s b=>a == b
 | .i a,.i b=>decide (a=b)
 | _,_=>false
inductive Blk where
 | hole
 | box (fr:Bool) (d:D)
 | sl (fr:Bool) (s:Sh) (cs:List D)
 | mp (fr:Bool) (es:List (MK×Int))
 | tb (fr:Bool) (s:Sh) (idx:List Nat) (rows:List (List D))
 | gone (off:List Nat→Option (Nat×Sh)) (run:List Nat→Option (Nat×Sh×Nat)) (part:List Nat→Nat)
 deriving Inhabited
def Blk.get:Blk→List Nat→Option D
 | .box _ d,p=>d.get p
 | .sl _ _ cs,i::p=>(cs[i]?).bind (D.get · p)
 | .tb _ _ _ rows,(r+1)::i::p=>(rows[r]?).bind fun cs=>(cs[i]?).bind (D.get · p)
 | _,_=>none
def Blk.set:Blk→List Nat→D→Option Blk
 | .box false d,p,x=>(d.set p x).map (.box false)
 | .sl false s cs,i::p,x=>(cs[i]?).bind fun c=>(D.set c p x).map fun c'=>.sl false s (cs.set i c')
 | .tb false s idx rows,(r+1)::i::p,x=>(rows[r]?).bind fun cs=>(cs[i]?).bind fun c=>(D.set c p x).map fun c'=>.tb false s idx (rows.set r (cs.set i c'))
 | _,_,_=>none
def D.arrOf:D→Option (Sh×List D)
 | .arr _ s cs=>some (s,cs)
 | _=>none
def Blk.elems:Blk→List Nat→Option (Sh×List D)
 | .sl _ s cs,[]=>some (s,cs)
 | .tb _ s _ rows,[r+1]=>(rows[r]?).map fun cs=>(s,cs)
 | b,p=>(b.get p).bind D.arrOf
def H7 (s:Sh) (rows:List (List D)):List Nat→Option (List D)
 | []=>some []
 | r::rs=>(rows[r]?).bind fun cs=>(H7 s rows rs).map (.sl s cs :: ·)
def Blk.dels:Blk→List Nat→Option (Sh×List D)
 | .tb _ s idx rows,[0]=>(H7 s rows idx).map fun ds=>(.leaf,ds)
 | b,p=>b.elems p
def Blk.freeze:Blk→Blk
 | .hole=>.hole
 | .box _ d=>.box true d
 | .sl _ s cs=>.sl true s cs
 | .mp _ es=>.mp true es
 | .tb _ s idx rows=>.tb true s idx rows
 | .gone f g k=>.gone f g k
def Sh.off:Sh→List Nat→Option (Nat×Sh)
 | s,[]=>some (0,s)
 | .arr n s,i::p=>if i<n then (s.off p).map fun q=>(i*s.size+q.1,q.2) else none
 | .st ss,i::p=>match ss[i]? with
  | some s=>(s.off p).map fun q=>(Sh.sizes (ss.take i)+q.1,q.2)
  | none=>none
 | .leaf,_::_=>none
def Blk.off:Blk→List Nat→Option (Nat×Sh)
 | .box _ d,p=>d.sh.off p
 | .sl _ s cs,i::p=>if i<cs.length then (s.off p).map fun q=>(i*s.size+q.1,q.2) else none
 | .mp _ _,[]=>some (0,.leaf)
 | .tb _ _ idx _,0::i::p=>if i<idx.length then (Sh.leaf.off p).map fun q=>(i+q.1,q.2) else none
 | .tb _ s _ rows,(r+1)::i::p=>(rows[r]?).bind fun cs=>if i<cs.length then (s.off p).map fun q=>(i*s.size+q.1,q.2) else none
 | .gone f _ _,p=>f p
 | _,_=>none
def Blk.run:Blk→List Nat→Option (Nat×Sh×Nat)
 | .sl _ s cs,[]=>some (0,s,cs.length)
 | .tb _ _ idx _,[0]=>some (0,.leaf,idx.length)
 | .tb _ s _ rows,[r+1]=>(rows[r]?).map fun cs=>(0,s,cs.length)
 | .gone _ g _,p=>g p
 | b,p=>match b.off p with
  | some (o,.arr n s)=>some (o,s,n)
  | _=>none
def Blk.part:Blk→List Nat→Nat
 | .tb _ _ _ _,q::_=>q
 | .gone _ _ k,p=>k p
 | _,_=>0
def Blk.parts:Blk→Nat
 | .tb _ _ _ rows=>rows.length+1
 | _=>1
def Blk.toGone (b:Blk):Blk:=.gone b.off b.run b.part
def Blk.asTb (s:Sh):List Nat→Option Nat→Blk→Option (List Nat×List (List D))
 | [],some 0,.sl false .leaf []=>some ([],[])
 | [0],_,.tb false s' idx rows=>if Sh.beq s' s then some (idx,rows) else none
 | _,_,_=>none
abbrev Heap:=List Blk
inductive V where
 | d (x:D)
 | sl (i:Nat) (p:List Nat) (off len:Nat) (cap:Option Nat)
 | ptr (i:Nat) (p:List Nat)
 | mp (i:Nat)
 | fn (f:Nat) (first caps:List V)
 | tup (vs:List V)
 deriving Inhabited
mutual
def toD (h:Heap):V→Option D
 | .d x=>some x
 | .sl i p off len _=>match (h[i]?).bind (Blk.dels · p) with
  | some (s,cs)=>if off+len≤cs.length then some (.sl s ((cs.drop off).take len)) else none
  | none=>none
 | .ptr i p=>((h[i]?).bind (Blk.get · p)).map .ip
 | .mp _=>none
 | .fn f first caps=>(py h first).bind fun a=>(py h caps).map (.fn f a)
 | .tup vs=>(py h vs).map .tup
def py (h:Heap):List V→Option (List D)
 | []=>some []
 | v::vs=>(toD h v).bind fun x=>if x.isTup then none else (py h vs).map (x :: ·)
end
mutual
def V.refs:V→List Nat
 | .d _=>[]
 | .sl i _ _ _ _=>[i]
 | .ptr i _=>[i]
 | .mp i=>[i]
 | .fn _ first caps=>V.refss first++V.refss caps
 | .tup vs=>V.refss vs
def V.refss:List V→List Nat
 | []=>[]
 | v::vs=>v.refs++V.refss vs
end
def toE (h:Heap):V→Option D
 | .sl i p off len _=>match (h[i]?).bind (Blk.elems · p) with
  | some (s,cs)=>if off+len≤cs.length then some (.sl s ((cs.drop off).take len)) else none
  | none=>none
 | .d x=>some x
 | _=>none
def B7 (h:Heap) (v:V):Option D:=(toD h v).bind fun x=>if x.isTup then none else some x
def freeze (h:Heap):List Nat→Heap
 | []=>h
 | i::is=>freeze (h.modify i Blk.freeze) is
abbrev Env:=List (Nat×V)
def Env.get:Env→Nat→Option V
 | [],_=>none
 | (m,v)::e,n=>if m=n then some v else Env.get e n
def Env.keep (e:Env):List Nat→Env
 | []=>[]
 | n::ns=>match e.get n with
  | some v=>(n,v)::Env.keep e ns
  | none=>Env.keep e ns
inductive Arg where
 | t (n:Nat)
 | c (d:D)
 | f (f:Nat)
 deriving Inhabited
def Env.arg (e:Env):Arg→Option V
 | .t n=>e.get n
 | .c d=>some (.d d)
 | .f f=>some (.d (.fn f [] []))
def Env.args (e:Env):List Arg→Option (List V)
 | []=>some []
 | a::as=>(e.arg a).bind fun v=>(e.args as).map (v :: ·)
inductive Q where
 | int | bool | str
 | arr (n:Nat) (s:Sh) (q:Q)
 | st (ss:List Sh) (qs:List Q)
 deriving Inhabited
inductive Mode where
 | flat | data | plain | heap
 deriving DecidableEq,Inhabited
inductive Op where
 | mv (x:Arg)
 | pick (c a b:Arg)
 | nilOwn (i:Nat) (s:Sh)
 | box (fz:Bool) (i:Nat) (x:Arg)
 | build (fz:Bool) (z:D) (parts:List (Nat×Arg))
 | buildSl (fz:Bool) (i:Nat) (s:Sh) (z:D) (n:Nat) (parts:List (Nat×Arg))
 | mkSl (i:Nat) (s:Sh) (z:D) (bytes:Nat) (len cap:Arg)
 | load (s:Sh) (p:Arg)
 | store (fz:Bool) (s:Sh) (p v:Arg)
 | bin (o:BinOp) (x y:Arg)
 | eqv (neg:Bool) (q:Q) (x y:Arg)
 | un (o:UnOp) (x:Arg)
 | conv (k:IntKind) (x:Arg)
 | chk (x:Arg)
 | cut (ar:Option Nat) (s:Sh) (x:Arg) (lo hi mx:Option Arg)
 | fldA (ss:List Sh) (x:Arg) (i:Nat)
 | fld (ss:List Sh) (x:Arg) (i:Nat)
 | idxA (ar:Option Nat) (s:Sh) (x i:Arg)
 | idx (ar:Option Nat) (s:Sh) (x i:Arg)
 | ext (x:Arg) (i:Nat)
 | mkFn (f:Nat) (first caps:List Arg)
 | len (str:Bool) (x:Arg)
 | maxI (x y:Arg)
 | minI (x y:Arg)
 | append (s:Sh) (i:Nat) (bytes:Nat) (x y:Arg)
 | copy (s:Sh) (x y:Arg)
 | call (m:Mode) (news:List Nat) (f:Arg) (args:List Arg)
 | nilq (neg:Bool) (x:Arg)
 | toStr (x:Arg)
 | clear (s:Sh) (z:D) (x:Arg)
 | mkMap (i:Nat)
 | mapGet (str:Bool) (x k:Arg)
 | mapOk (str:Bool) (x k:Arg)
 | mapSet (str:Bool) (x k v:Arg)
 | tbOne (i:Nat) (x:Arg)
 | tbApp (bytes:Nat) (x y:Arg)
 | tbA (x j:Arg)
 | tbLoad (x:Arg)
 | tbStore (x v:Arg)
 | fail
 deriving Inhabited
structure Ins where
 dst:Option Nat
 op:Op
 guard:Option (Nat×Bool):=none
 apart:List Nat:=[]
 deriving Inhabited
def Arg.temps:Arg→List Nat
 | .t n=>[n]
 | _=>[]
def wd:List (Nat×Arg)→List Nat
 | []=>[]
 | (_,a)::r=>a.temps++wd r
def xm:List Arg→List Nat
 | []=>[]
 | a::r=>a.temps++xm r
def A6:Option Arg→List Nat
 | none=>[]
 | some a=>a.temps
def Op.temps:Op→List Nat
 | .mv x | .chk x | .box _ _ x | .load _ x | .un _ x | .conv _ x | .fldA _ x _ | .fld _ x _ | .ext x _ | .len _ x | .nilq _ x | .toStr x | .clear _ _ x | .tbOne _ x | .tbLoad x=>x.temps
 | .pick c a b=>c.temps++a.temps++b.temps
 | .nilOwn _ _ | .mkMap _ | .fail=>[]
 | .build _ _ ps | .buildSl _ _ _ _ _ ps=>wd ps
 | .mkSl _ _ _ _ x y | .store _ _ x y | .bin _ x y | .eqv _ _ x y | .idxA _ _ x y | .idx _ _ x y | .maxI x y | .minI x y | .append _ _ _ x y | .copy _ x y | .mapGet _ x y | .mapOk _ x y | .tbApp _ x y | .tbA x y | .tbStore x y=>x.temps++y.temps
 | .mapSet _ x y z=>x.temps++y.temps++z.temps
 | .cut _ _ x a b c=>x.temps++A6 a++A6 b++A6 c
 | .mkFn _ xs ys=>xm xs++xm ys
 | .call _ _ f xs=>f.temps++xm xs
def Op.news:Op→List Nat
 | .nilOwn i _ | .box _ i _ | .buildSl _ i _ _ _ _ | .mkSl i _ _ _ _ _ | .append _ i _ _ _ | .mkMap i | .tbOne i _=>[i]
 | .call _ news _ _=>news
 | _=>[]
structure Rng where
 x:Arg
 d1:Nat
 it:Nat
 nd:Nat
 q:Nat
 ed:Nat
 k1:Nat
 v1:Nat
 kd:Nat
 vd:Nat
 ks:List Nat
 ks2:List Nat
 deriving Inhabited
inductive Cd where
 | skip
 | region (ops:List Ins) (keep:List Nat)
 | seq (a b:Cd)
 | cond (c:Arg) (a b:Cd)
 | block (id:Nat) (c:Cd)
 | loop (c:Cd)
 | exit (id:Nat)
 | ret
 | range (r:Rng) (c:Cd)
 deriving Inhabited
inductive Res where
 | tmp (n:Nat)
 | cell (n:Nat) (s:Sh)
 deriving Inhabited
structure Fn where
 nparams:Nat
 nblk:Nat
 results:List Res
 body:Cd
 deriving Inhabited
abbrev Ans:=V×Heap×Heap
abbrev am:=Nat→List V→Heap→Option Ans
structure St where
 e:Env
 h:Heap
def wv (o:BinOp) (k:IntKind) (x y:Int):Option D:=
 match o with
 | .add=>some (.int k (k.wrap (x+y)))
 | .sub=>some (.int k (k.wrap (x-y)))
 | .mul=>some (.int k (k.wrap (x*y)))
 | .quo=>if y=0 then none else some (.int k (k.wrap (x.tdiv y)))
 | .rem=>if y=0 then none else some (.int k (x.tmod y))
 | .and=>some (.int k (k.wrap (BitVec.ofInt k.bits x &&& BitVec.ofInt k.bits y).toNat))
 | .or=>some (.int k (k.wrap (BitVec.ofInt k.bits x ||| BitVec.ofInt k.bits y).toNat))
 | .xor=>some (.int k (k.wrap (BitVec.ofInt k.bits x ^^^ BitVec.ofInt k.bits y).toNat))
 | .eql=>some (.bool (decide (x=y)))
 | .neq=>some (.bool (!decide (x=y)))
 | .lss=>some (.bool (decide (x<y)))
 | .leq=>some (.bool (decide (x≤y)))
 | .gtr=>some (.bool (decide (y<x)))
 | .geq=>some (.bool (decide (y≤x)))
 | _=>none
def Dt (o:BinOp) (k:IntKind) (x y:Int):Option D:=
 if y<0 then none else
 match o with
 | .shl=>some (.int k (k.wrap (x*2^(min y.toNat k.bits))))
 | .shr=>some (.int k (x.fdiv (2^(min y.toNat k.bits))))
 | _=>none
mutual
def D.beq:Q→D→D→Option Bool
 | .int,.int k a,.int k' b=>if k=k' then some (decide (a=b)) else none
 | .bool,.bool a,.bool b=>some (a == b)
 | .str,.str a,.str b=>some (a == b)
 | .arr n s q,.arr n' s' xs,.arr n'' s'' ys=>if n'=n∧n''=n∧Sh.beq s' s∧Sh.beq s'' s then D.beqs q xs ys else none
 | .st ss qs,.st ss' xs,.st ss'' ys=>if Sh.beqs ss' ss∧Sh.beqs ss'' ss then D.beqf qs xs ys else none
 | _,_,_=>none
def D.beqs:Q→List D→List D→Option Bool
 | _,[],[]=>some true
 | q,x::xs,y::ys=>(D.beq q x y).bind fun b=>if b then D.beqs q xs ys else some false
 | _,_,_=>none
def D.beqf:List Q→List D→List D→Option Bool
 | [],[],[]=>some true
 | q::qs,x::xs,y::ys=>(D.beq q x y).bind fun b=>if b then D.beqf qs xs ys else some false
 | _,_,_=>none
end
def aae (o:BinOp) (x y:ByteArray):Option D:=
 match o with
 | .eql=>some (.bool (x.toList == y.toList))
 | .neq=>some (.bool (!(x.toList == y.toList)))
 | .add=>if x.size+y.size≤9223372036854775807 then some (.str (x++y)) else none
 | _=>none
def ut (o:BinOp) (x y:D):Option D:=
 match o,x,y with
 | .shl,.int k a,.int _ b=>Dt .shl k a b
 | .shr,.int k a,.int _ b=>Dt .shr k a b
 | o,.int k a,.int k' b=>if k=k' then wv o k a b else none
 | o,.str a,.str b=>aae o a b
 | _,_,_=>none
def unD (o:UnOp) (x:D):Option D:=
 match o,x with
 | .neg,.int k n=>some (.int k (k.wrap (0-n)))
 | .not,.bool b=>some (.bool !b)
 | _,_=>none
def V.nat?:V→Option Nat
 | .d (.int _ n)=>if 0≤n then some n.toNat else none
 | _=>none
def ee (e:Env):Option Arg→Nat→Option Nat
 | none,n=>some n
 | some a,_=>(e.arg a).bind V.nat?
def ry (cs:List D):List (Nat×D)→Option (List D)
 | []=>some cs
 | (i,x)::r=>match cs[i]? with
  | some c=>if Sh.beq c.sh x.sh then ry (cs.set i x) r else none
  | none=>none
def kj (e:Env) (h:Heap):List (Nat×Arg)→Option (List (Nat×D))
 | []=>some []
 | (i,a)::r=>(e.arg a).bind fun v=>(toD h v).bind fun x=>if x.isTup then none else (kj e h r).map ((i,x) :: ·)
def fe (e:Env):List (Nat×Arg)→List Nat
 | []=>[]
 | (_,a)::r=>(match e.arg a with | some v=>v.refs | none=>[])++fe e r
def Env.refd (e:Env) (i:Nat):Bool:=e.any fun x=>x.2.refs.any (· == i)
def i8 (h:Heap) (i:Nat) (b:Blk):Option Heap:=
 match h[i]? with
 | some .hole=>some (h.set i b)
 | _=>none
def freezeIf (fz:Bool) (h:Heap) (refs:List Nat):Option Heap:=
 if fz then some (freeze h refs) else if refs.isEmpty then some h else none
mutual
def D.flat:D→Bool
 | .int _ _ | .bool _ | .str _ | .nilp | .nils _ | .nilf | .nili=>true
 | .arr _ _ cs | .st _ cs | .tup cs=>D.flats cs
 | .sl _ cs=>cs.isEmpty
 | .ip _ | .fn _ _ _ | .iface _ _=>false
def D.flats:List D→Bool
 | []=>true
 | d::ds=>d.flat&&D.flats ds
end
mutual
def V.ren (f:Nat→Nat):V→V
 | .d x=>.d x
 | .sl i p off len cap=>.sl (f i) p off len cap
 | .ptr i p=>.ptr (f i) p
 | .mp i=>.mp (f i)
 | .fn g first caps=>.fn g (V.rens f first) (V.rens f caps)
 | .tup vs=>.tup (V.rens f vs)
def V.rens (f:Nat→Nat):List V→List V
 | []=>[]
 | v::vs=>v.ren f::V.rens f vs
end
def t7:List Nat→List Nat
 | []=>[]
 | i::is=>i::(t7 is).filter (· != i)
def Heap.pick (h:Heap):List Nat→Option Heap
 | []=>some []
 | i::is=>match h[i]? with
  | some .hole=>none
  | some b=>(Heap.pick h is).map (b :: ·)
  | none=>none
def Blk.isHole:Blk→Bool
 | .hole=>true
 | _=>false
def Heap.put (h:Heap):List Nat→Heap→Option Heap
 | [],[]=>some h
 | i::is,b::bs=>if b.isHole then none else Heap.put (h.set i b) is bs
 | _,_=>none
def putNews (h:Heap):List Nat→Heap→Option Heap
 | _,[]=>some h
 | i::is,b::bs=>if b.isHole then none else (i8 h i b).bind fun h'=>putNews h' is bs
 | [],_::_=>none
def jy (O:am) (m:Mode) (h:Heap) (f:Nat) (vs:List V):Option (V×Heap):=
 (py h vs).bind fun ds=>
 (O f (ds.map .d) []).bind fun r=>
 (toD r.2.2 r.1).bind fun x=>
 match m with
 | .flat=>if x.flat then some (.d x,h) else none
 | .plain=>if (V.refss vs).isEmpty then some (.d x,h) else none
 | _=>some (.d x,freeze h (V.refss vs))
def oq (O:am) (np:Nat) (news:List Nat) (h:Heap) (f:Nat) (vs:List V):Option (V×Heap):=
 let ids:=t7 (V.refss vs)
 let at_:=(news.map (np + ·)).filter (!ids.contains ·)
 (h.pick ids).bind fun bs=>
 (O f (V.rens (fun i=>ids.idxOf i) vs) bs).bind fun r=>
 (h.put ids r.2.1).bind fun h'=>
 (putNews h' at_ r.2.2).bind fun h''=>
  if r.1.refs.all (· < ids.length+r.2.2.length) then
   some (r.1.ren (fun i=>if i<ids.length then ids.getD i 0 else at_.getD (i-ids.length) 0),h'')
  else none
def callee (v:V):Option (Nat×List V×List V):=
 match v with
 | .d (.fn f first caps)=>some (f,first.map .d,caps.map .d)
 | .fn f first caps=>some (f,first,caps)
 | _=>none
def vu:List D→Option (List UInt8)
 | []=>some []
 | .int .u8 n::r=>(vu r).map (UInt8.ofNat n.toNat :: ·)
 | _::_=>none
def ml (k:MK):List (MK×Int)→Option Int
 | []=>none
 | (j,v)::r=>if k.same j then some v else ml k r
def nv (k:MK) (v:Int):List (MK×Int)→List (MK×Int)
 | []=>[(k,v)]
 | (j,u)::r=>if k.same j then (k,v)::r else (j,u)::nv k v r
def gr (str:Bool) (es:List (MK×Int)):Bool:=es.all fun q=>q.1.isS == str
def V.mk? (str:Bool):V→Option MK
 | .d (.str b)=>if str then some (.s b) else none
 | .d (.int .i64 n)=>if str then none else some (.i n)
 | _=>none
def b6 (O:am) (np:Nat) (e:Env) (h:Heap):Op→Option (V×Heap)
 | .mv x=>(e.arg x).map (·,h)
 | .pick c a b=>match e.arg c with
  | some (.d (.bool t))=>(e.arg (if t then a else b)).map (·,h)
  | _=>none
 | .nilOwn i s=>(i8 h (np+i) (.sl false s [])).map (.sl (np+i) [] 0 0 (some 0),·)
 | .box fz i x=>(e.arg x).bind fun v=>(B7 h v).bind fun d=>(freezeIf fz h v.refs).bind fun h'=>(i8 h' (np+i) (.box false d)).map (.ptr (np+i) [],·)
 | .build fz z ps=>(kj e h ps).bind fun xs=>(freezeIf fz h (fe e ps)).bind fun h'=>match z with
  | .arr n s cs=>(ry cs xs).map fun cs'=>(.d (.arr n s cs'),h')
  | .st ss cs=>(ry cs xs).map fun cs'=>(.d (.st ss cs'),h')
  | _=>none
 | .buildSl fz i s z n ps=>(kj e h ps).bind fun xs=>(ry (List.replicate n z) xs).bind fun cs=>(freezeIf fz h (fe e ps)).bind fun h'=>
  (i8 h' (np+i) (.sl false s cs)).map (.sl (np+i) [] 0 n (some n),·)
 | .mkSl i s z bytes l c=>match (e.arg l).bind V.nat?,(e.arg c).bind V.nat? with
  | some n,some m=>if n≤m∧m*bytes≤1099511627776 then
   (i8 h (np+i) (.sl false s (List.replicate n z))).map (.sl (np+i) [] 0 n (if n=m then some n else none),·)
   else none
  | _,_=>none
 | .load s p=>match e.arg p with
  | some (.d (.ip x))=>if Sh.beq x.sh s then some (.d x,h) else none
  | some (.ptr i p)=>((h[i]?).bind (Blk.get · p)).bind fun x=>if Sh.beq x.sh s then some (.d x,h) else none
  | _=>none
 | .store fz s p x=>(e.arg x).bind fun v=>(B7 h v).bind fun d=>(freezeIf fz h v.refs).bind fun h'=>match e.arg p with
  | some (.ptr i p)=>if Sh.beq d.sh s then (h'[i]?).bind fun b=>(b.set p d).map fun b'=>(.tup [],h'.set i b') else none
  | _=>none
 | .bin o x y=>match e.arg x,e.arg y with
  | some (.d a),some (.d b)=>(ut o a b).map fun r=>(.d r,h)
  | _,_=>none
 | .eqv neg q x y=>match e.arg x,e.arg y with
  | some (.d a),some (.d b)=>(D.beq q a b).map fun r=>(.d (.bool (if neg then !r else r)),h)
  | _,_=>none
 | .un o x=>match e.arg x with
  | some (.d a)=>(unD o a).map fun r=>(.d r,h)
  | _=>none
 | .conv k x=>match e.arg x with
  | some (.d (.int _ n))=>some (.d (.int k (k.wrap n)),h)
  | _=>none
 | .chk x=>match e.arg x with
  | some (.d (.ip y))=>some (.d (.ip y),h)
  | some (.ptr i p)=>some (.ptr i p,h)
  | _=>none
 | .cut none s x lo hi mx=>match e.arg x with
  | some (.d (.sl t cs))=>(ee e mx cs.length).bind fun m=>(ee e hi cs.length).bind fun b=>(ee e lo 0).bind fun a=>
   if Sh.beq t s∧a≤b∧b≤m∧m≤cs.length then some (.d (.sl t ((cs.drop a).take (b-a))),h) else none
  | some (.sl i p off n cap)=>((h[i]?).bind (Blk.elems · p)).bind fun q=>(ee e mx n).bind fun m=>(ee e hi n).bind fun b=>(ee e lo 0).bind fun a=>
   if Sh.beq q.1 s∧a≤b∧b≤m∧m≤n then some (.sl i p (off+a) (b-a) (match mx with | some _=>some (m-a) | none=>cap.map (· - a)),h) else none
  | _=>none
 | .cut (some n) s x lo hi mx=>match e.arg x with
  | some (.ptr i p)=>((h[i]?).bind (Blk.get · p)).bind fun x=>match x with
   | .arr n' t _=>(ee e mx n).bind fun m=>(ee e hi n).bind fun b=>(ee e lo 0).bind fun a=>
    if n'=n∧Sh.beq t s∧a≤b∧b≤m∧m≤n then some (.sl i p a (b-a) (some (m-a)),h) else none
   | _=>none
  | some (.d (.ip (.arr n' t cs)))=>(ee e mx n).bind fun m=>(ee e hi n).bind fun b=>(ee e lo 0).bind fun a=>
   if n'=n∧Sh.beq t s∧a≤b∧b≤m∧m≤n then some (.d (.sl t ((cs.drop a).take (b-a))),h) else none
  | _=>none
 | .fldA ss x j=>match e.arg x with
  | some (.ptr i p)=>((h[i]?).bind (Blk.get · p)).bind fun y=>if Sh.beq y.sh (.st ss) then some (.ptr i (p++[j]),h) else none
  | some (.d (.ip (.st ts cs)))=>if Sh.beqs ts ss then (cs[j]?).map fun c=>(.d (.ip c),h) else none
  | _=>none
 | .fld ss x j=>match e.arg x with
  | some (.d (.st ts cs))=>if Sh.beqs ts ss then (cs[j]?).map fun c=>(.d c,h) else none
  | _=>none
 | .idxA none s x j=>match e.arg x,(e.arg j).bind V.nat? with
  | some (.sl i p off n _),some k=>((h[i]?).bind (Blk.elems · p)).bind fun q=>if Sh.beq q.1 s∧k<n then some (.ptr i (p++[off+k]),h) else none
  | some (.d (.sl t cs)),some k=>if Sh.beq t s then (cs[k]?).map fun c=>(.d (.ip c),h) else none
  | _,_=>none
 | .idxA (some n) s x j=>match e.arg x,(e.arg j).bind V.nat? with
  | some (.ptr i p),some k=>((h[i]?).bind (Blk.get · p)).bind fun y=>match y with
   | .arr n' t _=>if n'=n∧Sh.beq t s∧k<n then some (.ptr i (p++[k]),h) else none
   | _=>none
  | some (.d (.ip (.arr n' t cs))),some k=>if n'=n∧Sh.beq t s then (cs[k]?).map fun c=>(.d (.ip c),h) else none
  | _,_=>none
 | .idx (some n) s x j=>match e.arg x,(e.arg j).bind V.nat? with
  | some (.d (.arr n' t cs)),some k=>if n'=n∧Sh.beq t s then (cs[k]?).map fun c=>(.d c,h) else none
  | _,_=>none
 | .idx none _ x j=>match e.arg x,(e.arg j).bind V.nat? with
  | some (.d (.str b)),some k=>(b[k]?).map fun c=>(.d (.int .u8 c.toNat),h)
  | _,_=>none
 | .ext x j=>match e.arg x with
  | some (.d (.tup vs))=>(vs[j]?).map fun v=>(.d v,h)
  | some (.tup vs)=>(vs[j]?).map fun v=>(v,h)
  | _=>none
 | .mkFn f as cs=>(e.args as).bind fun us=>(e.args cs).map fun vs=>(.fn f us vs,h)
 | .len false x=>match e.arg x with
  | some (.d (.sl _ cs))=>some (.d (.int .i64 cs.length),h)
  | some (.sl _ _ _ n _)=>some (.d (.int .i64 n),h)
  | _=>none
 | .len true x=>match e.arg x with
  | some (.d (.str b))=>some (.d (.int .i64 b.size),h)
  | _=>none
 | .maxI x y=>match e.arg x,e.arg y with
  | some (.d (.int k a)),some (.d (.int k' b))=>if k=k' then some (.d (.int k (if a<b then b else a)),h) else none
  | _,_=>none
 | .minI x y=>match e.arg x,e.arg y with
  | some (.d (.int k a)),some (.d (.int k' b))=>if k=k' then some (.d (.int k (if b<a then b else a)),h) else none
  | _,_=>none
 | .append s i bytes x y=>(e.arg y).bind fun w=>(toE h w).bind fun d=>match d,e.arg x with
  | .sl t ys,some (.sl j [] off n cap)=>match h[j]? with
   | some (.sl fr t' cs)=>if Sh.beq t s∧Sh.beq t' s∧off+n≤cs.length∧(n+ys.length)*bytes≤1099511627776 then
    (if fr=false∧np≤j then some (.sl j [] 0 (n+ys.length) none,h.set j (.sl false s ((cs.drop off).take n++ys)))
    else if cap=some n∧ys≠[] then
     (i8 h (np+i) (.sl false s ((cs.drop off).take n++ys))).map (.sl (np+i) [] 0 (n+ys.length) none,·)
    else none)
    else none
   | _=>none
  | .sl t (y::ys),some (.d (.nils t'))=>if Sh.beq t s∧Sh.beq t' s∧(ys.length+1)*bytes≤1099511627776 then
   (i8 h (np+i) (.sl false s (y::ys))).map (.sl (np+i) [] 0 (ys.length+1) none,·) else none
  | _,_=>none
 | .copy s x y=>(e.arg y).bind fun w=>(toE h w).bind fun d=>match d,e.arg x with
  | .sl t ys,some (.sl j [] off n _)=>match h[j]? with
   | some (.sl false t' cs)=>if Sh.beq t s∧Sh.beq t' s∧off+n≤cs.length then
    some (.d (.int .i64 (min ys.length n:Nat)),h.set j (.sl false t' (cs.take off++(ys.take n)++cs.drop (off+min ys.length n)))) else none
   | _=>none
  | _,_=>none
 | .call m news f as=>(e.arg f).bind fun fv=>(callee fv).bind fun g=>(e.args as).bind fun vs=>
  let us:=g.2.1++vs++g.2.2
  match m with
  | .heap=>oq O np news h g.1 us
  | _=>jy O m h g.1 us
 | .nilq neg x=>match e.arg x with
  | some (.d (.sl _ (_::_)))=>some (.d (.bool neg),h)
  | some (.sl _ _ _ (_+1) _)=>some (.d (.bool neg),h)
  | _=>none
 | .toStr x=>(e.arg x).bind fun v=>(toE h v).bind fun d=>match d with
  | .sl .leaf cs=>(vu cs).map fun bs=>(.d (.str ⟨bs.toArray⟩),h)
  | _=>none
 | .clear s z x=>match e.arg x with
  | some (.sl j [] off n _)=>match h[j]? with
   | some (.sl false t' cs)=>if Sh.beq t' s∧off+n≤cs.length then
    some (.tup [],h.set j (.sl false t' (cs.take off++List.replicate n z++cs.drop (off+n)))) else none
   | _=>none
  | _=>none
 | .mkMap i=>(i8 h (np+i) (.mp false [])).map (.mp (np+i),·)
 | .mapGet str x k=>match e.arg x,(e.arg k).bind (V.mk? str) with
  | some (.mp j),some s=>match h[j]? with
   | some (.mp _ es)=>if gr str es then some (.d (.int .i64 ((ml s es).getD 0)),h) else none
   | _=>none
  | _,_=>none
 | .mapOk str x k=>match e.arg x,(e.arg k).bind (V.mk? str) with
  | some (.mp j),some s=>match h[j]? with
   | some (.mp _ es)=>if gr str es then some (.d (.tup [.int .i64 ((ml s es).getD 0),.bool (ml s es).isSome]),h) else none
   | _=>none
  | _,_=>none
 | .mapSet str x k v=>match e.arg x,(e.arg k).bind (V.mk? str),e.arg v with
  | some (.mp j),some s,some (.d (.int .i64 n))=>match h[j]? with
   | some (.mp false es)=>if gr str es then some (.tup [],h.set j (.mp false (nv s n es))) else none
   | _=>none
  | _,_,_=>none
 | .tbOne i x=>match e.arg x with
  | some (.sl j [] 0 n _)=>match h[j]? with
   | some (.sl false s cs)=>if n=cs.length∧0<n∧np≤j then
    (i8 (h.set j (Blk.toGone (.sl false s cs))) (np+i) (.tb false s [0] [cs])).map (.sl (np+i) [0] 0 1 (some 1),·) else none
   | _=>none
  | _=>none
 | .tbApp bytes x y=>match e.arg x,e.arg y with
  | some (.sl j p 0 n cap),some (.sl k [0] 0 1 _)=>match h[j]?,h[k]? with
   | some B,some (.tb false s [0] [cs])=>(Blk.asTb s p cap B).bind fun q=>
    if n=q.1.length∧j≠k∧np≤j∧np≤k∧(n+1)*bytes≤1099511627776 then
     some (.sl j [0] 0 (n+1) none,(h.set k (Blk.toGone (.tb false s [0] [cs]))).set j (.tb false s (q.1++[q.2.length]) (q.2++[cs]))) else none
   | _,_=>none
  | _,_=>none
 | .tbA x j=>match e.arg x,(e.arg j).bind V.nat? with
  | some (.sl i [0] off n _),some k=>match h[i]? with
   | some (.tb _ _ idx _)=>if k<n∧off+n≤idx.length then some (.ptr i [0,off+k],h) else none
   | _=>none
  | _,_=>none
 | .tbLoad x=>match e.arg x with
  | some (.ptr i [0,k])=>match h[i]? with
   | some (.tb _ _ idx rows)=>(idx[k]?).bind fun r=>(rows[r]?).map fun cs=>(.sl i [r+1] 0 cs.length none,h)
   | _=>none
  | _=>none
 | .tbStore x v=>match e.arg x,e.arg v with
  | some (.ptr i [0,k]),some (.sl i' [r+1] 0 n _)=>match h[i]? with
   | some (.tb false s idx rows)=>if i=i'∧k<idx.length∧0<n∧(rows[r]?).map List.length=some n then some (.tup [],h.set i (.tb false s (idx.set k r) rows)) else none
   | _=>none
  | _,_=>none
 | .fail=>none
def Op.kill (e:Env) (r:V):Op→Option Nat
 | .append _ _ _ x _=>match e.arg x,r with
  | some (.sl j _ _ _ _),.sl j' _ _ _ _=>if j=j' then some j else none
  | _,_=>none
 | .tbApp _ x _=>match e.arg x,r with
  | some (.sl j _ _ _ _),.sl j' _ _ _ _=>if j=j' then some j else none
  | _,_=>none
 | _=>none
def Env.clear (e:Env) (j n:Nat):Bool:=
 match e.get n with
 | some v=>!v.refs.any (· == j)
 | none=>true
def Env.kill (e:Env):Option Nat→Env
 | some j=>e.filter fun q=>e.clear j q.1
 | none=>e
def Env.putO (e:Env):Option Nat→V→Env
 | some n,v=>(n,v)::e
 | none,_=>e
def Env.free (e:Env):Option Nat→Bool
 | none=>true
 | some d=>match e.get d with
  | none=>true
  | some _=>false
def Env.refsOf (e:Env):List Nat→List Nat
 | []=>[]
 | n::ns=>(match e.get n with | some v=>v.refs | none=>[])++e.refsOf ns
def Ins.side (e:Env) (i:Ins):Bool:=
 i.apart.isEmpty||(let l:=e.refsOf i.op.temps; (e.refsOf i.apart).all fun j=>!l.any (· == j))
def Ins.on (e:Env) (i:Ins):Option Bool:=
 match i.guard with
 | none=>some true
 | some (n,b)=>match e.get n with
  | some (.d (.bool t))=>some (t == b)
  | some (.tup [])=>some false
  | _=>none
def gv (O:am) (np:Nat) (s:St) (i:Ins):Option St:=
 match i.on s.e with
 | some true=>(b6 O np s.e s.h i.op).map fun r=>⟨(s.e.kill (i.op.kill s.e r.1)).putO i.dst r.1,r.2⟩
 | some false=>some ⟨s.e.putO i.dst (.tup []),s.h⟩
 | none=>none
def n8 (O:am) (np:Nat) (s:St) (i:Ins):Option St:=
 if i.side s.e then gv O np s i else none
def fy (O:am) (np:Nat):List Ins→St→Option St
 | [],s=>some s
 | i::is,s=>(n8 O np s i).bind (fy O np is)
def ma (e:Env) (np:Nat):Nat→Heap→Heap
 | _,[]=>[]
 | j,b::bs=>(if j<np∨e.refd j then b else .hole)::ma e np (j+1) bs
inductive Out where
 | normal
 | exit (id:Nat)
 | ret
 deriving DecidableEq,Inhabited
def zm (step:St→Option (Out×St)):Nat→St→Option (Out×St)
 | 0,_=>none
 | n+1,s=>(step s).bind fun r=>match r.1 with
  | .normal=>zm step n r.2
  | o=>some (o,r.2)
def RangeTo (step:MK×Int→St→Option St):Nat→List (MK×Int)→St→St→Prop
 | 0,es,s,s'=>es=[]∧s=s'
 | n+1,es,s,s'=>es.length=n+1∧∀l e r,es=l++e::r→∃s1,step e s=some s1∧RangeTo step n (l++r) s1 s'
noncomputable def Gs (step:MK×Int→St→Option St) (es:List (MK×Int)) (s:St):Option St:=by
 classical
 exact if h:∃s',RangeTo step es.length es s s' then some (Classical.choose h) else none
def om (r:Rng) (g:St→Option (Out×St)) (q:MK×Int) (s:St):Option St:=
 (g ⟨Env.keep ((r.vd,.d (.int .i64 q.2))::(r.kd,.d q.1.d)::s.e) r.ks2,s.h⟩).bind fun o=>match o.1 with
  | .normal=>some ⟨o.2.e.keep r.ks,o.2.h⟩
  | _=>none
def a6v (r:Rng) (s:St):Option (Nat×List (MK×Int)):=
 match s.e.arg r.x with
 | some (.mp j)=>match s.h[j]? with
  | some (.mp _ es)=>some (j,es)
  | _=>none
 | _=>none
noncomputable def dm (O:am) (np n:Nat):Cd→St→Option (Out×St)
 | .skip,s=>some (.normal,s)
 | .region ops ks,s=>(fy O np ops s).map fun s'=>(.normal,⟨s'.e.keep ks,ma (s'.e.keep ks) np 0 s'.h⟩)
 | .seq a b,s=>(dm O np n a s).bind fun r=>match r.1 with
  | .normal=>dm O np n b r.2
  | o=>some (o,r.2)
 | .cond c a b,s=>match s.e.arg c with
  | some (.d (.bool t))=>if t then dm O np n a s else dm O np n b s
  | _=>none
 | .block id c,s=>(dm O np n c s).map fun r=>match r.1 with
  | .exit i=>if i=id then (.normal,r.2) else r
  | _=>r
 | .loop c,s=>zm (dm O np n c) n s
 | .exit id,s=>some (.exit id,s)
 | .ret,s=>some (.ret,s)
 | .range r c,s=>(a6v r s).bind fun m=>(Gs (om r (dm O np n c)) m.2 ⟨s.e.keep r.ks,ma (s.e.keep r.ks) np 0 (freeze s.h [m.1])⟩).map fun s'=>(.normal,s')
def Sr (s:St):Res→Option V
 | .tmp n=>s.e.get n
 | .cell n sh=>match s.e.get n with
  | some (.ptr i p)=>((s.h[i]?).bind (Blk.get · p)).bind fun d=>if Sh.beq d.sh sh then some (.d d) else none
  | _=>none
def xx (s:St):List Res→Option (List V)
 | []=>some []
 | r::rs=>(Sr s r).bind fun v=>(xx s rs).map (v :: ·)
def nm:List V→V
 | [v]=>v
 | vs=>.tup vs
def params:Nat→List V→Env
 | _,[]=>[]
 | n,v::vs=>(n,v)::params (n+1) vs
noncomputable def run (O:am) (n:Nat) (fn:Fn) (vs:List V) (bs:Heap):Option Ans:=
 if vs.length=fn.nparams then
  (dm O bs.length n fn.body ⟨params 0 vs,bs++List.replicate fn.nblk .hole⟩).bind fun r=>
  match r.1 with
  | .exit _=>none
  | _=>if r.2.h.length=bs.length+fn.nblk then (xx r.2 fn.results).bind fun rs=>
   let v:=nm rs
   let own:=(t7 v.refs).filter (bs.length≤·)
   (r.2.h.pick own).map fun nb=>
    (v.ren (fun i=>if i<bs.length then i else bs.length+own.idxOf i),r.2.h.take bs.length,nb)
   else none
 else none
noncomputable def uj (T:Nat→Option Fn) (A:am):Nat→am
 | 0=>fun _ _ _=>none
 | k+1=>fun f vs bs=>match T f with
  | some fn=>run (uj T A k) k fn vs bs
  | none=>A f vs bs
structure Cx where
 w:World
 I:Nat→Prop
 num:Nat→Nat
def isAgg:Value→Bool
 | .agg _=>true
 | _=>false
def D.isAgg:D→Bool
 | .arr _ _ _=>true
 | .st _ _=>true
 | _=>false
def CellsAt (w:World) (b o:Nat) (cs:List Value):Prop:=
 ∃a el fz,w.heap[b]? = some (.cells a el fz)∧∀(j:Nat) u,cs[j]? = some u→a[o+j]? = some u
mutual
def RD (C:Cx):D→List Value→Prop
 | .int k n,cs=>cs=[.int k n]
 | .bool b,cs=>cs=[.bool b]
 | .str s,cs=>cs=[.string s]
 | .arr n s xs,cs=>xs.length=n∧RDs C s xs cs
 | .st ss xs,cs=>RDst C ss xs cs
 | .sl s xs,cs=>∃a c,cs=[.slice a xs.length c]∧xs.length≤c ∧
  (xs=[]∨∃b o us,a=some ⟨b,o,none⟩∧C.I b∧RDs C s xs us∧CellsAt C.w b o us)
 | .tup _,_=>False
 | .ip d,cs=>∃b o us,cs=[.pointer (some ⟨b,o,none⟩)]∧C.I b∧RD C d us∧CellsAt C.w b o us
 | .nilp,cs=>cs=[.pointer none]
 | .nils _,cs=>cs=[.slice none 0 0]
 | .fn f first caps,cs=>∃us vs,cs=[.func (.func (C.num f)) us vs]∧RVs C first us.toList∧RVs C caps vs.toList
 | .nilf,cs=>cs=[.nilFunc]
 | .iface _ _,_=>False
 | .nili,cs=>cs=[.nilIface]
def RDs (C:Cx) (s:Sh):List D→List Value→Prop
 | [],cs=>cs=[]
 | x::xs,cs=>∃a r,cs=a++r∧x.sh=s∧RD C x a∧RDs C s xs r
def RDst (C:Cx):List Sh→List D→List Value→Prop
 | [],[],cs=>cs=[]
 | s::ss,x::xs,cs=>∃a r,cs=a++r∧x.sh=s∧RD C x a∧RDst C ss xs r
 | _,_,_=>False
def RVs (C:Cx):List D→List Value→Prop
 | [],vs=>vs=[]
 | x::xs,vs=>∃v r,vs=v::r∧isAgg v=x.isAgg∧RD C x v.cells.toList∧RVs C xs r
end
def RV (C:Cx):D→Value→Prop
 | .tup xs,v=>∃us,v=.tuple us∧RVs C xs us.toList
 | x,v=>isAgg v=x.isAgg∧RD C x v.cells.toList
def Blk.own:Blk→Bool
 | .box fr _=>!fr
 | .sl fr _ _=>!fr
 | .mp fr _=>!fr
 | .tb fr _ _ _=>!fr
 | .gone _ _ _=>false
 | .hole=>false
def Blk.live:Blk→Bool
 | .hole=>false
 | .gone _ _ _=>false
 | _=>true
def OwnAt (w:World) (b o:Nat) (cs:List Value):Prop:=
 ∃a el,w.heap[b]? = some (.cells a el (0,0))∧∀(j:Nat) u,cs[j]? = some u→a[o+j]? = some u
def RAt (C:Cx) (fr:Bool) (b o:Nat) (cs:List Value):Prop:=
 if fr then C.I b∧CellsAt C.w b o cs else ¬ C.I b∧OwnAt C.w b o cs
def MK.v:MK→Value
 | .s b=>.string b
 | .i n=>.int .i64 n
def ahs (w:World) (b:Nat) (es:List (MK×Int)):Prop:=
 ∃arr clock,w.heap[b]? = some (.map arr clock)∧arr.toList.map (fun e=>(e.key,e.val))=es.map (fun q=>(q.1.v,Value.int .i64 q.2))∧(∀x∈arr.toList,x.born<clock)∧(arr.toList.map (·.born)).Nodup
def Places (C:Cx) (s:Sh) (idx:List Nat) (rows:List (List D)) (l:Nat→Option (Nat×Nat)) (cs:List Value):Prop:=
 cs.length=idx.length∧∀(k r:Nat),idx[k]? = some r→∃xs b o c arr el fz,rows[r]? = some xs∧l (r+1)=some (b,o)∧cs[k]? = some (.slice (some ⟨b,o,none⟩) xs.length c)∧xs.length≤c ∧
  C.w.heap[b]? = some (.cells arr el fz)∧o+c*s.size≤arr.size
def ajl (C:Cx) (fr:Bool) (s:Sh) (l:Option (Nat×Nat)) (xs:List D):Prop:=∃b o cs,l=some (b,o)∧RDs C s xs cs∧RAt C fr b o cs
def RB (C:Cx):Blk→(Nat→Option (Nat×Nat))→Prop
 | .hole,_=>True
 | .gone _ _ _,_=>True
 | .box fr d,l=>∃b o cs,l 0=some (b,o)∧RD C d cs∧RAt C fr b o cs
 | .sl fr s xs,l=>match l 0 with
  | none=>xs=[]
  | some (b,o)=>∃cs,RDs C s xs cs∧RAt C fr b o cs
 | .mp fr es,l=>∃b o,l 0=some (b,o)∧(C.I b↔fr=true)∧ahs C.w b es
 | .tb fr s idx rows,l=>(∃b o cs,l 0=some (b,o)∧RAt C fr b o cs∧Places C s idx rows l cs)∧∀(r:Nat) xs,rows[r]? = some xs→ajl C fr s (l (r+1)) xs
abbrev Loc:=Nat→Nat→Option (Nat×Nat)
mutual
def RX (C:Cx) (φ:Loc) (h:Heap):V→Value→Prop
 | .d x,v=>RV C x v
 | .ptr i p,v=>∃B b o q,h[i]? = some B∧φ i (B.part p)=some (b,o)∧B.off p=some q∧v=.pointer (some ⟨b,o+q.1,none⟩)
 | .sl i p off len cap,v=>∃B base s m a c,h[i]? = some B∧B.run p=some (base,s,m)∧off+len≤m∧v=.slice a len c∧len≤c ∧
  (∀k,cap=some k→c=k) ∧
  (0<c→∃b o arr el fz,φ i (B.part p)=some (b,o)∧a=some ⟨b,o+base+off*s.size,none⟩∧C.w.heap[b]? = some (.cells arr el fz)∧o+base+(off+c)*s.size≤arr.size)
 | .mp i,v=>∃B b o q,h[i]? = some B∧φ i (B.part [])=some (b,o)∧B.off []=some q∧v=.map (some b)
 | .fn f first caps,v=>∃us vs,v=.func (.func (C.num f)) us vs∧RXs C φ h first us.toList∧RXs C φ h caps vs.toList
 | .tup xs,v=>∃us,v=.tuple us∧RXs C φ h xs us.toList
def RXs (C:Cx) (φ:Loc) (h:Heap):List V→List Value→Prop
 | [],vs=>vs=[]
 | x::xs,vs=>∃v r,vs=v::r∧RX C φ h x v∧RXs C φ h xs r
end
structure HR (C:Cx) (φ:Loc) (h:Heap):Prop where
 blk:∀i B,h[i]? = some B→RB C B (φ i)
 inj:∀i j k l Bi Bj b oi oj,(i≠j∨k≠l)→h[i]? = some Bi→h[j]? = some Bj→Bi.own=true→Bj.own=true→k<Bi.parts→l<Bj.parts→φ i k=some (b,oi)→φ j l=some (b,oj)→False
def OwnB (φ:Loc) (h:Heap) (b:Nat):Prop:=∃i k B o,h[i]? = some B∧B.own=true∧k<B.parts∧φ i k=some (b,o)
mutual
theorem ji {C:Cx}:∀(x:D) (cs:List Value),RD C x cs→cs.length=x.sh.size
 | .int ..,cs,h | .bool _,cs,h | .str _,cs,h | .nilp,cs,h | .nils _,cs,h | .nilf,cs,h | .nili,cs,h=>by
  simp only [RD] at h; subst h; simp [D.sh,Sh.size]
 | .arr n s xs,cs,h=>by
  simp only [RD] at h;rw [n6 s xs cs h.2,←h.1];simp [D.sh,Sh.size]
 | .st ss xs,cs,h=>by
  simp only [RD] at h;rw [Ez ss xs cs h];simp [D.sh,Sh.size]
 | .sl s xs,cs,h=>by
  simp only [RD] at h;obtain ⟨a,c,rfl,_⟩:=h;simp [D.sh,Sh.size]
 | .tup _,cs,h=>by simp [RD] at h
 | .ip d,cs,h=>by
  simp only [RD] at h;obtain ⟨b,o,us,rfl,_⟩:=h;simp [D.sh,Sh.size]
 | .fn f a b,cs,h=>by
  simp only [RD] at h;obtain ⟨us,vs,rfl,_⟩:=h;simp [D.sh,Sh.size]
 | .iface _ _,cs,h=>by simp [RD] at h
theorem n6 {C:Cx} (s:Sh):∀(xs:List D) (cs:List Value),RDs C s xs cs→cs.length=xs.length*s.size
 | [],cs,h=>by simp only [RDs] at h; subst h; simp
 | x::xs,cs,h=>by
  simp only [RDs] at h;obtain ⟨a,r,rfl,hs,hx,hr⟩:=h;rw [bg,ji x a hx,n6 s xs r hr,hs,bv,fq];omega
theorem Ez {C:Cx}:∀(ss:List Sh) (xs:List D) (cs:List Value),RDst C ss xs cs→cs.length=Sh.sizes ss
 | [],[],cs,h=>by simp only [RDst] at h; subst h; simp [Sh.sizes]
 | s::ss,x::xs,cs,h=>by
  simp only [RDst] at h;obtain ⟨a,r,rfl,hs,hx,hr⟩:=h;rw [bg,ji x a hx,Ez ss xs r hr,hs,Sh.sizes]
 | [],_::_,cs,h=>by simp [RDst] at h
 | _::_,[],cs,h=>by simp [RDst] at h
end
structure Cx.Le (C C':Cx):Prop where
 num:C'.num=C.num
 I:∀b,C.I b→C'.I b
 w:∀b,C.I b→C'.w.heap[b]? = C.w.heap[b]?
theorem Cx.Le.refl (C:Cx):C.Le C:=⟨rfl,fun _ h=>h,fun _ _=>rfl⟩
theorem Cx.Le.trans {A B C:Cx} (h:A.Le B) (k:B.Le C):A.Le C:=
 ⟨k.num.trans h.num,fun b hb=>k.I b (h.I b hb),fun b hb=>(k.w b (h.I b hb)).trans (h.w b hb)⟩
theorem CellsAt.mono {w w':World} {b o:Nat} {cs:List Value} (h:CellsAt w b o cs) (e:w'.heap[b]? = w.heap[b]?):CellsAt w' b o cs:=by
 obtain ⟨a,el,fz,hb,hc⟩:=h;exact ⟨a,el,fz,e.trans hb,hc⟩
mutual
theorem RD.mono {C C':Cx} (h:C.Le C'):∀(x:D) (cs:List Value),RD C x cs→RD C' x cs
 | .int ..,cs,g | .bool _,cs,g | .str _,cs,g | .nilp,cs,g | .nils _,cs,g | .nilf,cs,g | .nili,cs,g=>by
  simpa only [RD] using g
 | .arr n s xs,cs,g=>by
  simp only [RD] at g ⊢;exact ⟨g.1,RDs.mono h s xs cs g.2⟩
 | .st ss xs,cs,g=>by
  simp only [RD] at g ⊢;exact RDst.mono h ss xs cs g
 | .sl s xs,cs,g=>by
  simp only [RD] at g ⊢;obtain ⟨a,c,e,hl,hx⟩:=g;refine ⟨a,c,e,hl,hx.imp id ?_⟩
  rintro ⟨b,o,us,ea,hI,hu,hc⟩
  exact ⟨b,o,us,ea,h.I b hI,RDs.mono h s xs us hu,hc.mono (h.w b hI)⟩
 | .tup _,cs,g=>by simp [RD] at g
 | .ip d,cs,g=>by
  simp only [RD] at g ⊢;obtain ⟨b,o,us,e,hI,hu,hc⟩:=g;exact ⟨b,o,us,e,h.I b hI,RD.mono h d us hu,hc.mono (h.w b hI)⟩
 | .fn f a b,cs,g=>by
  simp only [RD] at g ⊢;obtain ⟨us,vs,e,h1,h2⟩:=g;exact ⟨us,vs,by rw [h.num]; exact e,RVs.mono h a _ h1,RVs.mono h b _ h2⟩
 | .iface _ _,cs,g=>by simp [RD] at g
theorem RDs.mono {C C':Cx} (h:C.Le C') (s:Sh):∀(xs:List D) (cs:List Value),RDs C s xs cs→RDs C' s xs cs
 | [],cs,g=>by simpa only [RDs] using g
 | x::xs,cs,g=>by
  simp only [RDs] at g ⊢;obtain ⟨a,r,e,hs,hx,hr⟩:=g;exact ⟨a,r,e,hs,RD.mono h x a hx,RDs.mono h s xs r hr⟩
theorem RDst.mono {C C':Cx} (h:C.Le C'):∀(ss:List Sh) (xs:List D) (cs:List Value),RDst C ss xs cs→RDst C' ss xs cs
 | [],[],cs,g=>by simpa only [RDst] using g
 | s::ss,x::xs,cs,g=>by
  simp only [RDst] at g ⊢;obtain ⟨a,r,e,hs,hx,hr⟩:=g;exact ⟨a,r,e,hs,RD.mono h x a hx,RDst.mono h ss xs r hr⟩
 | [],_::_,cs,g=>by simp [RDst] at g
 | _::_,[],cs,g=>by simp [RDst] at g
theorem RVs.mono {C C':Cx} (h:C.Le C'):∀(xs:List D) (vs:List Value),RVs C xs vs→RVs C' xs vs
 | [],vs,g=>by simpa only [RVs] using g
 | x::xs,vs,g=>by
  simp only [RVs] at g ⊢;obtain ⟨v,r,e,hs,hx,hr⟩:=g;exact ⟨v,r,e,hs,RD.mono h x _ hx,RVs.mono h xs r hr⟩
end
theorem RV.mono {C C':Cx} (h:C.Le C') (x:D) (v:Value) (g:RV C x v):RV C' x v:=by
 cases x <;> simp only [RV] at g ⊢
 case tup xs=>obtain ⟨us,e,hr⟩:=g; exact ⟨us,e,RVs.mono h xs _ hr⟩
 all_goals exact ⟨g.1,RD.mono h _ _ g.2⟩
def kw (cs:List Value) (o:Nat) (us:List Value):List Value:=cs.take o++us++cs.drop (o+us.length)
theorem nu (cs us:List Value) (o j:Nat) (h:o+us.length≤cs.length) :
 (kw cs o us)[j]? = if j<o then cs[j]? else if j<o+us.length then us[j-o]? else cs[j]?:=by
 unfold kw;have ht:(cs.take o).length=o:=by rw [b8]; omega
 by_cases h1:j<o
 ·rw [if_pos h1,ek,bi (by omega),eh,if_pos h1]
 ·rw [if_neg h1,ek,bj (by omega),ht]
  by_cases h2:j<o+us.length
  ·rw [if_pos h2,bi (by omega)]
  ·rw [if_neg h2,bj (by omega),ig]
   congr 1
   omega
theorem Wa (cs us:List Value) (o:Nat) (h:o+us.length≤cs.length):(kw cs o us).length=cs.length:=by
 unfold kw;simp only [bg,b8,ec];omega
theorem H3 (cs us:List Value) (o n off:Nat) (h:o+n≤cs.length) (h2:off+us.length≤n) :
 kw cs o (kw ((cs.drop o).take n) off us)=kw cs (o+off) us:=by
 have hl:((cs.drop o).take n).length=n:=by rw [b8,ec]; omega
 have hs:(kw ((cs.drop o).take n) off us).length=n:=by rw [Wa _ _ _ (by omega),hl]
 apply ci;intro j;rw [nu _ _ _ _ (by omega),nu _ _ _ _ (by omega),hs,nu _ _ _ _ (by omega)]
 by_cases h1:j<o
 ·rw [if_pos h1,if_pos (by omega)]
 ·rw [if_neg h1]
  by_cases h3:j<o+n
  ·rw [if_pos h3]
   by_cases h4:j<o+off
   ·rw [if_pos (by omega),if_pos h4,eh,if_pos (by omega),ig]
    congr 1; omega
   ·rw [if_neg (by omega),if_neg h4]
    by_cases h5:j<o+off+us.length
    ·rw [if_pos (by omega),if_pos h5]
     congr 1; omega
    ·rw [if_neg (by omega),if_neg h5,eh,if_pos (by omega),ig]
     congr 1; omega
  ·rw [if_neg h3,if_neg (by omega),if_neg (by omega)]
theorem yw (cs:List Value) (o n off m:Nat) (h:off+m≤n):(((cs.drop o).take n).drop off).take m=(cs.drop (o+off)).take m:=by
 apply ci;intro j;simp only [eh,ig]
 by_cases hj:j<m
 ·rw [if_pos hj,if_pos hj,if_pos (by omega)]
  congr 1; omega
 ·rw [if_neg hj,if_neg hj]
mutual
theorem Sh.beq_eq:∀(s t:Sh),Sh.beq s t=true→s=t
 | .leaf,.leaf,_=>rfl
 | .arr n s,.arr m t,h=>by
  simp only [Sh.beq,av,beq_iff_eq] at h;rw [h.1,Sh.beq_eq s t h.2]
 | .st ss,.st ts,h=>by
  simp only [Sh.beq] at h;rw [Sh.beqs_eq ss ts h]
 | .leaf,.arr _ _,h | .leaf,.st _,h | .arr _ _,.leaf,h | .arr _ _,.st _,h | .st _,.leaf,h | .st _,.arr _ _,h=>by simp [Sh.beq] at h
theorem Sh.beqs_eq:∀(s t:List Sh),Sh.beqs s t=true→s=t
 | [],[],_=>rfl
 | s::ss,t::ts,h=>by
  simp only [Sh.beqs,av] at h;rw [Sh.beq_eq s t h.1,Sh.beqs_eq ss ts h.2]
 | [],_::_,h | _::_,[],h=>by simp [Sh.beqs] at h
end
theorem uv {C:Cx} {s:Sh}:∀{xs:List D} {cs:List Value} {i:Nat} {x:D},RDs C s xs cs→xs[i]? = some x →
 x.sh=s∧RD C x ((cs.drop (i*s.size)).take s.size)∧i*s.size+s.size≤cs.length
 | [],cs,i,x,_,hx=>by simp at hx
 | y::ys,cs,i,x,h,hx=>by
  simp only [RDs] at h;obtain ⟨a,r,rfl,hs,hy,hr⟩:=h;have hl:a.length=s.size:=by rw [ji y a hy,hs]
  cases i with
  | zero=>
   simp at hx; subst hx;refine ⟨hs,?_,by rw [bg]; omega⟩
   rw [lj,dh,←hl,pv];exact hy
  | succ i=>
   simp at hx;obtain ⟨h1,h2,h3⟩:=uv hr hx;have e:(i+1)*s.size=s.size+i*s.size:=by rw [fq]; omega
   refine ⟨h1,?_,by rw [bg]; omega⟩
   rw [e,←jc,←hl,kb,hl];exact h2
theorem J9 {C:Cx} {s:Sh}:∀{xs:List D} {cs us:List Value} {i:Nat} {y:D},RDs C s xs cs→i<xs.length→y.sh=s→RD C y us →
 RDs C s (xs.set i y) (kw cs (i*s.size) us)
 | [],cs,us,i,y,_,hi,_,_=>by simp at hi
 | x::xs,cs,us,i,y,h,hi,hy,hu=>by
  simp only [RDs] at h;obtain ⟨a,r,rfl,hs,hx,hr⟩:=h;have hl:a.length=s.size:=by rw [ji x a hx,hs]
  have hul:us.length=s.size:=by rw [ji y us hu,hy]
  cases i with
  | zero=>
   simp only [List.set_cons_zero,RDs,lj,kw,cx,cw,b9];refine ⟨us,r,?_,hy,hu,hr⟩;rw [hul,←hl,kb]
  | succ i=>
   simp only [List.set_cons_succ,RDs]
   have hb:i*s.size+s.size≤r.length:=by
    rw [n6 s xs r hr,←fq];exact ff _ (by simp at hi; omega)
   refine ⟨a,kw r (i*s.size) us,?_,hs,hx,J9 hr (by simpa using hi) hy hu⟩
   have e:(i+1)*s.size=s.size+i*s.size:=by rw [fq]; omega
   apply ci;intro j;rw [nu _ _ _ _ (by rw [bg]; omega),e]
   by_cases hj:j<a.length
   ·rw [if_pos (by omega),bi hj,bi hj]
   ·rw [bj (by omega),bj (by omega),nu _ _ _ _ (by omega)]
    by_cases h1:j<s.size+i*s.size
    ·rw [if_pos h1,if_pos (by omega)]
    ·rw [if_neg h1,if_neg (show ¬ j-a.length<i*s.size by omega)]
     by_cases h2:j<s.size+i*s.size+us.length
     ·rw [if_pos h2,if_pos (show j-a.length<i*s.size+us.length by omega)]
      congr 1; omega
     ·rw [if_neg h2,if_neg (show ¬ j-a.length<i*s.size+us.length by omega)]
theorem wa {C:Cx}:∀{ss:List Sh} {xs:List D} {cs:List Value} {i:Nat} {x:D},RDst C ss xs cs→xs[i]? = some x →
 ∃s,ss[i]? = some s∧x.sh=s∧RD C x ((cs.drop (Sh.sizes (ss.take i))).take s.size)∧Sh.sizes (ss.take i)+s.size≤cs.length
 | [],[],cs,i,x,_,hx=>by simp at hx
 | s::ss,y::ys,cs,i,x,h,hx=>by
  simp only [RDst] at h;obtain ⟨a,r,rfl,hs,hy,hr⟩:=h;have hl:a.length=s.size:=by rw [ji y a hy,hs]
  cases i with
  | zero=>
   simp at hx; subst hx;refine ⟨s,by simp,hs,?_,by rw [bg]; simp [Sh.sizes]; omega⟩
   rw [cx,Sh.sizes,dh,←hl,pv];exact hy
  | succ i=>
   simp at hx;obtain ⟨t,h0,h1,h2,h3⟩:=wa hr hx;refine ⟨t,by simpa using h0,h1,?_,by rw [bg,jf,Sh.sizes]; omega⟩
   rw [jf,Sh.sizes,←jc,←hl,kb];exact h2
 | [],_::_,cs,i,x,h,_=>by simp [RDst] at h
 | _::_,[],cs,i,x,h,_=>by simp [RDst] at h
theorem Mv {C:Cx}:∀{ss:List Sh} {xs:List D} {cs us:List Value} {i:Nat} {x y:D},RDst C ss xs cs→xs[i]? = some x→y.sh=x.sh→RD C y us →
 RDst C ss (xs.set i y) (kw cs (Sh.sizes (ss.take i)) us)
 | [],[],cs,us,i,x,y,_,hx,_,_=>by simp at hx
 | s::ss,z::xs,cs,us,i,x,y,h,hx,hy,hu=>by
  simp only [RDst] at h;obtain ⟨a,r,rfl,hs,hz,hr⟩:=h;have hl:a.length=s.size:=by rw [ji z a hz,hs]
  cases i with
  | zero=>
   simp at hx; subst hx;have hul:us.length=s.size:=by rw [ji y us hu,hy,hs]
   simp only [List.set_cons_zero,RDst,kw,cx,cw,b9,Sh.sizes];refine ⟨us,r,?_,hy.trans hs,hu,hr⟩;rw [hul,←hl,kb]
  | succ i=>
   simp at hx;simp only [List.set_cons_succ,RDst];obtain ⟨t,_,ht,_,hb⟩:=wa hr hx;have hul:us.length=t.size:=by rw [ji y us hu,hy,ht]
   refine ⟨a,kw r (Sh.sizes (ss.take i)) us,?_,hs,hz,Mv hr hx hy hu⟩;apply ci;intro j;rw [jf,Sh.sizes,nu _ _ _ _ (by rw [bg]; omega)]
   by_cases hj:j<a.length
   ·rw [if_pos (by omega),bi hj,bi hj]
   ·rw [bj (by omega),bj (by omega),nu _ _ _ _ (by omega)]
    by_cases h1:j<s.size+Sh.sizes (ss.take i)
    ·rw [if_pos h1,if_pos (by omega)]
    ·rw [if_neg h1,if_neg (show ¬ j-a.length<Sh.sizes (ss.take i) by omega)]
     by_cases h2:j<s.size+Sh.sizes (ss.take i)+us.length
     ·rw [if_pos h2,if_pos (show j-a.length<Sh.sizes (ss.take i)+us.length by omega)]
      congr 1; omega
     ·rw [if_neg h2,if_neg (show ¬ j-a.length<Sh.sizes (ss.take i)+us.length by omega)]
 | [],_::_,cs,us,i,x,y,h,_,_,_=>by simp [RDst] at h
 | _::_,[],cs,us,i,x,y,h,_,_,_=>by simp [RDst] at h
theorem Rg {C:Cx}:∀(p:List Nat) {x y:D} {cs:List Value},RD C x cs→x.get p=some y →
 ∃o,x.sh.off p=some (o,y.sh)∧RD C y ((cs.drop o).take y.sh.size)∧o+y.sh.size≤cs.length
 | [],x,y,cs,h,hg=>by
  have:x=y:=by cases x <;> simpa [D.get] using hg
  subst this;have hl:=ji x cs h;refine ⟨0,by cases x <;> rfl,?_,by omega⟩
  rw [dh,←hl,iq];exact h
 | i::p,x,y,cs,h,hg=>by
  cases x <;> simp only [D.get,reduceCtorEq] at hg
  case arr n s xs=>
   simp only [RD] at h;obtain ⟨z,hz,hg⟩:=aa.1 hg;obtain ⟨h1,h2,h3⟩:=uv h.2 hz;obtain ⟨o,ho,hy,hb⟩:=Rg p h2 hg;have hi:i<n:=by have:=(ao.1 hz).1; omega
   have hb':o+y.sh.size≤s.size:=by rw [b8] at hb; omega
   refine ⟨i*s.size+o,?_,?_,by omega⟩
   ·simp only [D.sh,Sh.off,if_pos hi]
    rw [←h1,ho]; rfl
   ·rwa [yw _ _ _ _ _ hb'] at hy
  case st ss xs=>
   simp only [RD] at h;obtain ⟨z,hz,hg⟩:=aa.1 hg;obtain ⟨s,h0,h1,h2,h3⟩:=wa h hz;obtain ⟨o,ho,hy,hb⟩:=Rg p h2 hg;have hb':o+y.sh.size≤s.size:=by rw [b8] at hb; omega
   refine ⟨Sh.sizes (ss.take i)+o,?_,?_,by omega⟩
   ·simp only [D.sh,Sh.off,h0]
    rw [←h1,ho]; rfl
   ·rwa [yw _ _ _ _ _ hb'] at hy
theorem Qs {C:Cx}:∀(p:List Nat) {x y x':D} {cs us:List Value},RD C x cs→RD C y us→x.set p y=some x' →
 ∃o,x.sh.off p=some (o,y.sh)∧x'.sh=x.sh∧RD C x' (kw cs o us)∧o+us.length≤cs.length
 | [],x,y,x',cs,us,h,hu,hs=>by
  have hs':(if Sh.beq x.sh y.sh then some y else none)=some x':=by cases x <;> simpa [D.set] using hs
  by_cases hb:Sh.beq x.sh y.sh=true
  ·rw [if_pos hb] at hs'
   obtain rfl:=au hs';have e:=Sh.beq_eq _ _ hb;have hl:=ji x cs h;have hl2:=ji y us hu;have hlen:cs.length=us.length:=by rw [hl,hl2,e]
   refine ⟨0,?_,e.symm,?_,by omega⟩
   ·rw [←e]; cases x <;> rfl
   ·simp only [kw,cx,cw,b9,←hlen,fj,ov]
    exact hu
  ·rw [if_neg hb] at hs'; simp at hs'
 | i::p,x,y,x',cs,us,h,hu,hs=>by
  cases x <;> simp only [D.set,reduceCtorEq] at hs
  case arr n s xs=>
   simp only [RD] at h;obtain ⟨z,hz,hs⟩:=aa.1 hs;obtain ⟨z',hz',rfl⟩:=ae.1 hs;obtain ⟨h1,h2,h3⟩:=uv h.2 hz;obtain ⟨o,ho,hsh,hy,hb⟩:=Qs p h2 hu hz';have hi:i<xs.length:=(ao.1 hz).1;have hin:i<n:=by omega
   have hb':o+us.length≤s.size:=by rw [b8] at hb; omega
   refine ⟨i*s.size+o,?_,rfl,?_,by omega⟩
   ·simp only [D.sh,Sh.off,if_pos hin]
    rw [←h1,ho]; rfl
   ·simp only [RD]
    refine ⟨by rw [bx]; exact h.1,?_⟩
    have:=J9 h.2 hi (hsh.trans h1) hy
    rwa [H3 _ _ _ _ _ h3 hb'] at this
  case st ss xs=>
   simp only [RD] at h;obtain ⟨z,hz,hs⟩:=aa.1 hs;obtain ⟨z',hz',rfl⟩:=ae.1 hs;obtain ⟨s,h0,h1,h2,h3⟩:=wa h hz;obtain ⟨o,ho,hsh,hy,hb⟩:=Qs p h2 hu hz';have hb':o+us.length≤s.size:=by rw [b8] at hb; omega
   refine ⟨Sh.sizes (ss.take i)+o,?_,rfl,?_,by omega⟩
   ·simp only [D.sh,Sh.off,h0]
    rw [←h1,ho]; rfl
   ·simp only [RD]
    have:=Mv h hz hsh hy
    rwa [H3 _ _ _ _ _ h3 hb'] at this
mutual
theorem Jh {C C':Cx}:∀(x:D) (cs:List Value),x.flat=true→RD C x cs→RD C' x cs
 | .int ..,cs,_,g | .bool _,cs,_,g | .str _,cs,_,g | .nilp,cs,_,g | .nils _,cs,_,g | .nilf,cs,_,g | .nili,cs,_,g=>by
  simpa only [RD] using g
 | .arr n s xs,cs,hf,g=>by
  simp only [RD] at g ⊢;exact ⟨g.1,Tn s xs cs hf g.2⟩
 | .st ss xs,cs,hf,g=>by
  simp only [RD] at g ⊢;exact Ok ss xs cs hf g
 | .sl s xs,cs,hf,g=>by
  simp only [RD] at g ⊢;obtain ⟨a,c,e,hl,_⟩:=g;exact ⟨a,c,e,hl,.inl (by simpa [D.flat] using hf)⟩
 | .tup _,cs,_,g=>by simp [RD] at g
 | .ip d,cs,hf,_=>by simp [D.flat] at hf
 | .fn f a b,cs,hf,_=>by simp [D.flat] at hf
 | .iface _ _,cs,hf,_=>by simp [D.flat] at hf
theorem Tn {C C':Cx} (s:Sh):∀(xs:List D) (cs:List Value),D.flats xs=true→RDs C s xs cs→RDs C' s xs cs
 | [],cs,_,g=>by simpa only [RDs] using g
 | x::xs,cs,hf,g=>by
  simp only [D.flats,av] at hf;simp only [RDs] at g ⊢;obtain ⟨a,r,e,hs,hx,hr⟩:=g;exact ⟨a,r,e,hs,Jh x a hf.1 hx,Tn s xs r hf.2 hr⟩
theorem Ok {C C':Cx}:∀(ss:List Sh) (xs:List D) (cs:List Value),D.flats xs=true→RDst C ss xs cs→RDst C' ss xs cs
 | [],[],cs,_,g=>by simpa only [RDst] using g
 | s::ss,x::xs,cs,hf,g=>by
  simp only [D.flats,av] at hf;simp only [RDst] at g ⊢;obtain ⟨a,r,e,hs,hx,hr⟩:=g;exact ⟨a,r,e,hs,Jh x a hf.1 hx,Ok ss xs r hf.2 hr⟩
 | [],_::_,cs,_,g=>by simp [RDst] at g
 | _::_,[],cs,_,g=>by simp [RDst] at g
theorem Sv {C C':Cx}:∀(xs:List D) (cs:List Value),D.flats xs=true→RVs C xs cs→RVs C' xs cs
 | [],cs,_,g=>by simpa only [RVs] using g
 | x::xs,cs,hf,g=>by
  simp only [D.flats,av] at hf;simp only [RVs] at g ⊢;obtain ⟨a,r,e,hs,hx,hr⟩:=g;exact ⟨a,r,e,hs,Jh x _ hf.1 hx,Sv xs r hf.2 hr⟩
end
theorem ab3 {C C':Cx} (x:D) (v:Value) (hf:x.flat=true) (g:RV C x v):RV C' x v:=by
 cases x <;> simp only [RV] at g ⊢
 case tup xs=>obtain ⟨us,e,hr⟩:=g; exact ⟨us,e,Sv xs _ hf hr⟩
 all_goals exact ⟨g.1,Jh _ _ hf g.2⟩
def one:Value→Bool
 | .agg _=>false
 | .tuple _=>false
 | _=>true
mutual
theorem H4 {C:Cx}:∀(x:D) (cs:List Value),RD C x cs→∀u∈cs,one u=true
 | .int ..,cs,h | .bool _,cs,h | .str _,cs,h | .nilp,cs,h | .nils _,cs,h | .nilf,cs,h | .nili,cs,h=>by
  simp only [RD] at h; subst h; simp [one]
 | .arr n s xs,cs,h=>by
  simp only [RD] at h;exact J2 s xs cs h.2
 | .st ss xs,cs,h=>by
  simp only [RD] at h;exact Uq ss xs cs h
 | .sl s xs,cs,h=>by
  simp only [RD] at h;obtain ⟨a,c,rfl,_⟩:=h;simp [one]
 | .tup _,cs,h=>by simp [RD] at h
 | .ip d,cs,h=>by
  simp only [RD] at h;obtain ⟨b,o,us,rfl,_⟩:=h;simp [one]
 | .fn f a b,cs,h=>by
  simp only [RD] at h;obtain ⟨us,vs,rfl,_⟩:=h;simp [one]
 | .iface _ _,cs,h=>by simp [RD] at h
theorem J2 {C:Cx} (s:Sh):∀(xs:List D) (cs:List Value),RDs C s xs cs→∀u∈cs,one u=true
 | [],cs,h=>by simp only [RDs] at h; subst h; simp
 | x::xs,cs,h=>by
  simp only [RDs] at h;obtain ⟨a,r,rfl,_,hx,hr⟩:=h;intro u hu;rcases bp.1 hu with hu | hu
  ·exact H4 x a hx u hu
  ·exact J2 s xs r hr u hu
theorem Uq {C:Cx}:∀(ss:List Sh) (xs:List D) (cs:List Value),RDst C ss xs cs→∀u∈cs,one u=true
 | [],[],cs,h=>by simp only [RDst] at h; subst h; simp
 | s::ss,x::xs,cs,h=>by
  simp only [RDst] at h;obtain ⟨a,r,rfl,_,hx,hr⟩:=h;intro u hu;rcases bp.1 hu with hu | hu
  ·exact H4 x a hx u hu
  ·exact Uq ss xs r hr u hu
 | [],_::_,cs,h=>by simp [RDst] at h
 | _::_,[],cs,h=>by simp [RDst] at h
end
theorem OwnAt.cells {w:World} {b o:Nat} {cs:List Value} (h:OwnAt w b o cs):CellsAt w b o cs:=by
 obtain ⟨a,el,h1,h2⟩:=h;exact ⟨a,el,_,h1,h2⟩
theorem RAt.cells {C:Cx} {fr:Bool} {b o:Nat} {cs:List Value} (h:RAt C fr b o cs):CellsAt C.w b o cs:=by
 unfold RAt at h;cases fr
 ·exact h.2.cells
 ·exact h.2
theorem CellsAt.part {w:World} {b o:Nat} {cs:List Value} (h:CellsAt w b o cs) (i n:Nat):CellsAt w b (o+i) ((cs.drop i).take n):=by
 obtain ⟨a,el,fz,h1,h2⟩:=h;refine ⟨a,el,fz,h1,fun j u hj=>?_⟩
 rw [eh] at hj
 by_cases hn:j<n
 ·rw [if_pos hn,ig] at hj
  rw [fm]; exact h2 _ _ hj
 ·rw [if_neg hn] at hj; simp at hj
theorem sq {C:Cx} {s:Sh}:∀{xs:List D} {us:List Value} (a:Nat),RDs C s xs us→RDs C s (xs.drop a) (us.drop (a*s.size))
 | [],us,a,h=>by
  simp only [RDs] at h; subst h;simp [RDs]
 | x::xs,us,0,h=>by simpa using h
 | x::xs,us,a+1,h=>by
  simp only [RDs] at h;obtain ⟨v,r,rfl,hs,hx,hr⟩:=h;have hl:v.length=s.size:=by rw [ji x v hx,hs]
  have e:(a+1)*s.size=s.size+a*s.size:=by rw [fq]; omega
  rw [List.drop_succ_cons,e,←jc,←hl,kb,hl];exact sq a hr
theorem qz {C:Cx} {s:Sh}:∀{xs:List D} {us:List Value} (n:Nat),RDs C s xs us→RDs C s (xs.take n) (us.take (n*s.size))
 | [],us,n,h=>by
  simp only [RDs] at h; subst h;simp [RDs]
 | x::xs,us,0,h=>by simp [RDs]
 | x::xs,us,n+1,h=>by
  simp only [RDs] at h;obtain ⟨v,r,rfl,hs,hx,hr⟩:=h;have hl:v.length=s.size:=by rw [ji x v hx,hs]
  have e:(n+1)*s.size=s.size+n*s.size:=by rw [fq]; omega
  rw [jf];simp only [RDs];refine ⟨v,r.take (n*s.size),?_,hs,hx,qz n hr⟩;rw [e,←hl,List.take_append]
  congr 1
  ·rw [aw (by omega)]
  ·congr 1; omega
theorem pf {C:Cx} {s:Sh}:∀{xs ys:List D} {us vs:List Value},RDs C s xs us→RDs C s ys vs→RDs C s (xs++ys) (us++vs)
 | [],ys,us,vs,h,g=>by simp only [RDs] at h; subst h; simpa using g
 | x::xs,ys,us,vs,h,g=>by
  simp only [RDs] at h;obtain ⟨v,r,rfl,hs,hx,hr⟩:=h;rw [cz];simp only [RDs];exact ⟨v,r++vs,by rw [ek],hs,hx,pf hr g⟩
theorem re {C:Cx} {s:Sh} {z:D} {us:List Value} (hs:z.sh=s) (h:RD C z us):∀n,RDs C s (List.replicate n z) (List.replicate n us).flatten
 | 0=>by simp [RDs]
 | n+1=>by
  simp only [List.replicate_succ,List.flatten_cons,RDs];exact ⟨us,_,rfl,hs,h,re hs h n⟩
theorem Yf {C:Cx} {s:Sh} {xs:List D} {cs:List Value} {i:Nat} {z y:D} {p:List Nat} (hd:RDs C s xs cs) (hz:xs[i]? = some z) (hg:z.get p=some y) :
 ∃off,s.off p=some (off,y.sh)∧RD C y ((cs.drop (i*s.size+off)).take y.sh.size):=by
 obtain ⟨h1,h2,h3⟩:=uv hd hz;obtain ⟨off,ho,hy,hb⟩:=Rg p h2 hg;have hb':off+y.sh.size≤s.size:=by rw [b8] at hb; omega
 rw [yw _ _ _ _ _ hb'] at hy;exact ⟨off,by rw [←h1]; exact ho,hy⟩
theorem zo {C:Cx} {B:Blk} {l:Nat→Option (Nat×Nat)} {p:List Nat} {y:D} (h:RB C B l) (hg:B.get p=some y) :
 ∃b o off cs,l (B.part p)=some (b,o)∧B.off p=some (off,y.sh)∧RD C y cs∧CellsAt C.w b (o+off) cs:=by
 cases B with
 | hole=>simp [Blk.get] at hg
 | gone _ _ _=>simp [Blk.get] at hg
 | box fr d=>
  simp only [RB] at h;obtain ⟨b,o,cs,hl,hd,ha⟩:=h;simp only [Blk.get] at hg;obtain ⟨off,ho,hy,_⟩:=Rg p hd hg;exact ⟨b,o,off,_,by simpa [Blk.part] using hl,by simpa [Blk.off] using ho,hy,ha.cells.part off _⟩
 | sl fr s xs=>
  cases p with
  | nil=>simp [Blk.get] at hg
  | cons i p=>
   simp only [Blk.get] at hg;obtain ⟨z,hz,hg⟩:=aa.1 hg;simp only [RB] at h;cases hl:l 0 with
   | none=>rw [hl] at h; simp only at h; subst h; simp at hz
   | some q=>
    obtain ⟨b,o⟩:=q;rw [hl] at h;obtain ⟨cs,hd,ha⟩:=h;obtain ⟨off,ho,hy⟩:=Yf hd hz hg;refine ⟨b,o,i*s.size+off,_,by simpa [Blk.part] using hl,?_,hy,ha.cells.part _ _⟩
    simp only [Blk.off,if_pos (ao.1 hz).1,ho]; rfl
 | mp fr es=>cases p <;> simp [Blk.get] at hg
 | tb fr s idx rows=>
  match p,hg with
  | [],hg=>simp [Blk.get] at hg
  | 0::_,hg=>simp [Blk.get] at hg
  | [_+1],hg=>simp [Blk.get] at hg
  | (r+1)::i::p,hg=>
   simp only [Blk.get] at hg;obtain ⟨xs,hx,hg⟩:=aa.1 hg;obtain ⟨z,hz,hg⟩:=aa.1 hg;simp only [RB] at h;obtain ⟨b,o,cs,hl,hd,ha⟩:=h.2 r xs hx;obtain ⟨off,ho,hy⟩:=Yf hd hz hg;refine ⟨b,o,i*s.size+off,_,by simpa [Blk.part] using hl,?_,hy,ha.cells.part _ _⟩
   simp only [Blk.off,hx,ah,if_pos (ao.1 hz).1,ho]; rfl
theorem Cf {C:Cx} {B:Blk} {l:Nat→Option (Nat×Nat)} {p:List Nat} {s:Sh} {xs:List D} (h:RB C B l) (hg:B.elems p=some (s,xs)) :
 ∃base,B.run p=some (base,s,xs.length)∧(xs=[]∨∃b o us,l (B.part p)=some (b,o)∧RDs C s xs us∧CellsAt C.w b (o+base) us):=by
 have key:(∀o n s',B.off p=some (o,.arr n s')→B.run p=some (o,s',n))→(B.get p).bind D.arrOf=some (s,xs) →
  ∃base,B.run p=some (base,s,xs.length)∧(xs=[]∨∃b o us,l (B.part p)=some (b,o)∧RDs C s xs us∧CellsAt C.w b (o+base) us):=by
  intro hne hm;cases hB:B.get p with
  | none=>simp [hB] at hm
  | some y=>
   rw [hB] at hm;cases y <;> simp only [D.arrOf,ah,ab,al,reduceCtorEq] at hm
   rename_i n s' xs'
   obtain ⟨rfl,rfl⟩:=hm;obtain ⟨b,o,off,cs,h1,h2,h3,h4⟩:=zo h hB;simp only [RD] at h3;obtain ⟨rfl,h3⟩:=h3;exact ⟨off,hne _ _ _ h2,.inr ⟨b,o,cs,h1,h3,h4⟩⟩
 cases B with
 | hole=>simp [Blk.elems,Blk.get] at hg
 | gone _ _ _=>simp [Blk.elems,Blk.get] at hg
 | box fr d=>exact key (fun o n s' e=>by simp only [Blk.run,e]) (by simpa [Blk.elems] using hg)
 | sl fr s' xs'=>
  cases p with
  | nil=>
   simp only [Blk.elems,ab,al] at hg;obtain ⟨rfl,rfl⟩:=hg;refine ⟨0,by simp [Blk.run],?_⟩
   simp only [RB] at h;cases hl:l 0 with
   | none=>rw [hl] at h; exact .inl (by simpa using h)
   | some q=>
    obtain ⟨b,o⟩:=q;rw [hl] at h;obtain ⟨cs,hd,ha⟩:=h;exact .inr ⟨b,o,cs,by simpa [Blk.part] using hl,hd,ha.cells⟩
  | cons i p=>exact key (fun o n s' e=>by simp only [Blk.run,e]) (by simpa [Blk.elems] using hg)
 | mp fr es=>cases p <;> simp [Blk.elems,Blk.get] at hg
 | tb fr s' idx rows=>
  match p,hg with
  | [],hg=>simp [Blk.elems,Blk.get] at hg
  | 0::q,hg=>simp [Blk.elems,Blk.get] at hg
  | [r+1],hg=>
   simp only [Blk.elems] at hg;obtain ⟨ys,hx,hg⟩:=ae.1 hg;simp only [al] at hg;obtain ⟨rfl,rfl⟩:=hg;refine ⟨0,by simp [Blk.run,hx],.inr ?_⟩
   simp only [RB] at h;obtain ⟨b,o,cs,hl,hd,ha⟩:=h.2 r ys hx;exact ⟨b,o,cs,by simpa [Blk.part] using hl,hd,ha.cells⟩
  | (r+1)::i::p,hg=>exact key (fun o n s' e=>by simp only [Blk.run,e]) (by simpa [Blk.elems] using hg)
def y9 (φ:Loc) (h:Heap) (is:List Nat) (b:Nat):Prop:=∃i∈is,∃k B o,h[i]? = some B∧B.live=true∧k<B.parts∧φ i k=some (b,o)
def Cx.plus (C:Cx) (S:Nat→Prop):Cx:={ C with I:=fun b=>C.I b∨S b }
theorem Cx.le_plus (C:Cx) (S:Nat→Prop):C.Le (C.plus S):=⟨rfl,fun _ h=>.inl h,fun _ _=>rfl⟩
theorem Cx.plus_mono (C:Cx) {S T:Nat→Prop} (h:∀b,S b→T b):(C.plus S).Le (C.plus T):=⟨rfl,fun _ g=>g.imp id (h _),fun _ _=>rfl⟩
theorem RV.notTup {C:Cx} {x:D} {v:Value} (h:RV C x v) (hx:x.isTup=false):isAgg v=x.isAgg∧RD C x v.cells.toList:=by
 cases x <;> simp only [RV] at h <;> first | exact h | simp [D.isTup] at hx
theorem RV.mk {C:Cx} {x:D} {v:Value} (h:isAgg v=x.isAgg∧RD C x v.cells.toList):RV C x v:=by
 cases x <;> simp only [RV] <;> first | exact h | (simp [RD] at h)
theorem yi {B:Blk} {p:List Nat} {y:D} (h:B.get p=some y):B.live=true∧B.part p<B.parts:=by
 cases B with
 | hole=>simp [Blk.get] at h
 | gone _ _ _=>simp [Blk.get] at h
 | tb fr s idx rows=>
  match p,h with
  | [],h=>simp [Blk.get] at h
  | 0::_,h=>simp [Blk.get] at h
  | [_+1],h=>simp [Blk.get] at h
  | (r+1)::i::p,h=>
   simp only [Blk.get] at h;obtain ⟨xs,hx,_⟩:=aa.1 h;have:=(ao.1 hx).1;exact ⟨rfl,by simp only [Blk.part,Blk.parts]; omega⟩
 | _=>exact ⟨rfl,by simp [Blk.part,Blk.parts]⟩
theorem a2q {B:Blk} {p:List Nat} {q:Sh×List D} (h:B.dels p=some q):B.live=true∧B.part p<B.parts:=by
 have key:(B.get p).bind D.arrOf=some q→B.live=true∧B.part p<B.parts:=by
  intro g;obtain ⟨y,hy,_⟩:=aa.1 g;exact yi hy
 cases B with
 | hole=>simp [Blk.dels,Blk.elems,Blk.get] at h
 | gone _ _ _=>simp [Blk.dels,Blk.elems,Blk.get] at h
 | tb fr s idx rows=>
  match p,h with
  | [],h=>simp [Blk.dels,Blk.elems,Blk.get] at h
  | [0],h=>exact ⟨rfl,by simp [Blk.part,Blk.parts]⟩
  | 0::_::_,h=>simp [Blk.dels,Blk.elems,Blk.get] at h
  | [r+1],h=>
   simp only [Blk.dels,Blk.elems] at h;obtain ⟨xs,hx,_⟩:=ae.1 h;have:=(ao.1 hx).1;exact ⟨rfl,by simp only [Blk.part,Blk.parts]; omega⟩
  | (r+1)::i::p,h=>exact key (by simpa [Blk.dels,Blk.elems] using h)
 | _=>exact ⟨rfl,by simp [Blk.part,Blk.parts]⟩
theorem Mh {C:Cx} {S:Nat→Prop} {s:Sh} {rows:List (List D)}:∀{idx:List Nat} {ds:List D} {cs:List Value},H7 s rows idx=some ds→cs.length=idx.length →
 (∀(k r:Nat) xs,idx[k]? = some r→rows[r]? = some xs→∃b o c us,cs[k]? = some (.slice (some ⟨b,o,none⟩) xs.length c)∧xs.length≤c∧S b∧RDs C s xs us∧CellsAt C.w b o us)→RDs (C.plus S) .leaf ds cs
 | [],ds,cs,h,hl,_=>by
  simp only [H7,ab] at h; subst h;obtain rfl:=ej.1 hl;simp [RDs]
 | r::idx,ds,cs,h,hl,hx=>by
  simp only [H7] at h;obtain ⟨xs,h1,h⟩:=aa.1 h;obtain ⟨es,h2,rfl⟩:=ae.1 h;obtain ⟨b,o,c,us,e1,e2,e3,e4,e5⟩:=hx 0 r xs rfl h1;cases cs with
  | nil=>simp at hl
  | cons u cs=>
   simp only [ct,ab] at e1;subst e1;simp only [RDs];refine ⟨[_],cs,rfl,rfl,?_,Mh h2 (by simpa using hl) fun k r xs hk hr=>hx (k+1) r xs (by simpa using hk) hr⟩
   simp only [RD];exact ⟨_,c,rfl,e2,.inr ⟨b,o,us,rfl,.inr e3,RDs.mono (C.le_plus S) _ _ _ e4,e5⟩⟩
theorem a9c {C:Cx} {S:Nat→Prop} {B:Blk} {l:Nat→Option (Nat×Nat)} {p:List Nat} {s:Sh} {xs:List D} (h:RB C B l) (hg:B.dels p=some (s,xs)) (hS:∀k b o,k<B.parts→l k=some (b,o)→S b) :
 ∃base,B.run p=some (base,s,xs.length)∧(xs=[]∨∃b o us,l (B.part p)=some (b,o)∧RDs (C.plus S) s xs us∧CellsAt C.w b (o+base) us):=by
 have old:B.elems p=some (s,xs)→∃base,B.run p=some (base,s,xs.length)∧(xs=[]∨∃b o us,l (B.part p)=some (b,o)∧RDs (C.plus S) s xs us∧CellsAt C.w b (o+base) us):=by
  intro g;obtain ⟨base,h1,h2⟩:=Cf h g;refine ⟨base,h1,h2.imp id ?_⟩
  rintro ⟨b,o,us,g1,g2,g3⟩
  exact ⟨b,o,us,g1,RDs.mono (C.le_plus S) _ _ _ g2,g3⟩
 cases B with
 | tb fr s' idx rows=>
  match p,hg with
  | [0],hg=>
   simp only [Blk.dels] at hg;obtain ⟨ds,hd,hg⟩:=ae.1 hg;simp only [al] at hg;obtain ⟨rfl,rfl⟩:=hg;simp only [RB] at h;obtain ⟨⟨b,o,cs,h1,h2,h3,h4⟩,h5⟩:=h
   have hr:RDs (C.plus S) .leaf ds cs:=Mh hd h3 fun k r xs hk hx=>by
    obtain ⟨ys,b',o',c,arr,el,fz,g0,g1,g2,g3,g4,g5⟩:=h4 k r hk;obtain rfl:xs=ys:=au (hx.symm.trans g0);obtain ⟨b2,o2,us,q1,q2,q3⟩:=h5 r xs hx;obtain ⟨rfl,rfl⟩:b'=b2∧o'=o2:=by simpa using g1.symm.trans q1
    have:=(ao.1 hx).1;exact ⟨b',o',c,us,g2,g3,hS (r+1) b' o' (by simp only [Blk.parts]; omega) g1,q2,q3.cells⟩
   have hl:=n6 _ _ _ hr;simp only [Sh.size,Nat.mul_one] at hl;refine ⟨0,by simp only [Blk.run]; rw [←hl,h3],.inr ⟨b,o,cs,by simpa [Blk.part] using h1,hr,h2.cells⟩⟩
  | [],hg=>exact old (by simpa [Blk.dels] using hg)
  | 0::_::_,hg=>exact old (by simpa [Blk.dels] using hg)
  | [_+1],hg=>exact old (by simpa [Blk.dels] using hg)
  | (_+1)::_::_,hg=>exact old (by simpa [Blk.dels] using hg)
 | _=>exact old (by simpa [Blk.dels] using hg)
mutual
theorem v5 {C:Cx} {φ:Loc} {h:Heap} (hr:HR C φ h):∀(v:V) (x:D) (u:Value),toD h v=some x→RX C φ h v u →
 RV (C.plus (y9 φ h v.refs)) x u
 | .d x,y,u,e,g=>by
  simp only [toD,ab] at e; subst e;simp only [RX] at g;exact RV.mono (C.le_plus _) _ _ g
 | .sl i p off len cap,y,u,e,g=>by
  simp only [toD] at e;cases hE:(h[i]?).bind (Blk.dels · p) with
  | none=>simp [hE] at e
  | some q=>
   obtain ⟨s,cs⟩:=q;rw [hE] at e;simp only at e
   by_cases hb:off+len≤cs.length
   ·rw [if_pos hb,ab] at e; subst e
    obtain ⟨B,hB,hE'⟩:=aa.1 hE;simp only [RX] at g;obtain ⟨B',base,s',m,a,c,hB',hrun,hm,rfl,hlc,hcap,hloc⟩:=g;obtain rfl:B=B':=au (hB.symm.trans hB');obtain ⟨hlive,hpart⟩:=a2q hE';obtain ⟨base',hrun',hcs⟩:=a9c (S:=y9 φ h [i]) (hr.blk i B hB) hE' fun k b o hk hφ=>⟨i,by simp,k,B,o,hB,hlive,hk,hφ⟩
    obtain ⟨rfl,rfl,rfl⟩:base'=base∧s=s'∧cs.length=m:=by
     have:=hrun'.symm.trans hrun;simp only [ab,al] at this;exact this
    have hlen:((cs.drop off).take len).length=len:=by rw [b8,ec]; omega
    refine RV.mk ⟨rfl,?_⟩;show RD _ _ [Value.slice a len c];simp only [RD];refine ⟨a,c,by rw [hlen],by rw [hlen]; exact hlc,?_⟩
    by_cases h0:len=0
    ·left; subst h0; simp
    ·right
     obtain ⟨b,o,arr,el,fz,hφ,rfl,_,_⟩:=hloc (by omega)
     rcases hcs with rfl | ⟨b',o',us,hφ',hd,hc⟩
     ·simp at hb; omega
     ·obtain ⟨rfl,rfl⟩:b=b'∧o=o':=by
       have:=hφ.symm.trans hφ'
       simpa using this
      refine ⟨b,_,_,rfl,.inr ⟨i,by simp [V.refs],_,B,o,hB,hlive,hpart,hφ⟩,qz len (sq off hd),?_⟩
      exact hc.part _ _
   ·rw [if_neg hb] at e; simp at e
 | .ptr i p,y,u,e,g=>by
  simp only [toD] at e;obtain ⟨d,hd,rfl⟩:=ae.1 e;obtain ⟨B,hB,hg⟩:=aa.1 hd;simp only [RX] at g;obtain ⟨B',b,o,q,hB',hφ,hq,rfl⟩:=g;obtain rfl:B=B':=au (hB.symm.trans hB');obtain ⟨b',o',off,cs,hφ',ho,hx,hc⟩:=zo (hr.blk i B hB) hg
  obtain ⟨rfl,rfl⟩:b=b'∧o=o':=by
   have:=hφ.symm.trans hφ'
   simpa using this
  have e2:=hq.symm.trans ho;simp only [ab] at e2;subst e2;refine RV.mk ⟨rfl,?_⟩;show RD _ _ [Value.pointer _];simp only [RD];obtain ⟨hlive,hpart⟩:=yi hg;exact ⟨b,_,cs,rfl,.inr ⟨i,by simp [V.refs],_,B,o,hB,hlive,hpart,hφ⟩,RD.mono (C.le_plus _) _ _ hx,hc⟩
 | .mp i,y,u,e,g=>by simp [toD] at e
 | .fn f first caps,y,u,e,g=>by
  simp only [toD] at e;obtain ⟨as,ha,e⟩:=aa.1 e;obtain ⟨bs,hb,rfl⟩:=ae.1 e;simp only [RX] at g;obtain ⟨us,vs,rfl,g1,g2⟩:=g;refine RV.mk ⟨rfl,?_⟩;show RD _ _ [Value.func _ _ _];simp only [RD];refine ⟨us,vs,rfl,?_,?_⟩
  ·exact RVs.mono (C.plus_mono fun b ⟨i,hi,r⟩=>⟨i,by simp [V.refs,hi],r⟩) _ _ (wh hr first as _ ha g1)
  ·exact RVs.mono (C.plus_mono fun b ⟨i,hi,r⟩=>⟨i,by simp [V.refs,hi],r⟩) _ _ (wh hr caps bs _ hb g2)
 | .tup vs,y,u,e,g=>by
  simp only [toD] at e;obtain ⟨as,ha,rfl⟩:=ae.1 e;simp only [RX] at g;obtain ⟨us,rfl,g1⟩:=g;simp only [RV];exact ⟨us,rfl,wh hr vs as _ ha g1⟩
theorem wh {C:Cx} {φ:Loc} {h:Heap} (hr:HR C φ h):∀(vs:List V) (xs:List D) (us:List Value),py h vs=some xs→RXs C φ h vs us →
 RVs (C.plus (y9 φ h (V.refss vs))) xs us
 | [],xs,us,e,g=>by
  simp only [py,ab] at e; subst e;simp only [RXs] at g; subst g;simp [RVs]
 | v::vs,xs,us,e,g=>by
  simp only [py] at e;obtain ⟨x,hx,e⟩:=aa.1 e
  by_cases ht:x.isTup=true
  ·rw [if_pos ht] at e; simp at e
  ·rw [if_neg ht] at e
   obtain ⟨ys,hy,rfl⟩:=ae.1 e;simp only [RXs] at g;obtain ⟨u,r,rfl,g1,g2⟩:=g;simp only [RVs];have h1:=RV.mono (C.plus_mono (T:=y9 φ h (V.refss (v::vs))) fun b ⟨i,hi,r⟩=>⟨i,by simp [V.refss,hi],r⟩) _ _ (v5 hr v x u hx g1)
   obtain ⟨ha,hb⟩:=h1.notTup (by simpa using ht)
   exact ⟨u,r,rfl,ha,hb,RVs.mono (C.plus_mono fun b ⟨i,hi,r⟩=>⟨i,by simp [V.refss,hi],r⟩) _ _ (wh hr vs ys r hy g2)⟩
end
def Blk.alike (B B':Blk):Prop:=(∀p,B'.off p=B.off p)∧(∀p,B'.run p=B.run p)∧∀p,B'.part p=B.part p
theorem Blk.alike.refl (B:Blk):B.alike B:=⟨fun _=>rfl,fun _=>rfl,fun _=>rfl⟩
def Wide (w w':World) (b:Nat):Prop:=∀a el fz,w.heap[b]? = some (.cells a el fz)→∃a' el' fz',w'.heap[b]? = some (.cells a' el' fz')∧a.size≤a'.size
theorem Wide.of_eq {w w':World} {b:Nat} (h:w'.heap[b]? = w.heap[b]?):Wide w w' b:=fun a el fz e=>⟨a,el,fz,h.trans e,ba _⟩
mutual
theorem RX.congr {C C':Cx} {φ φ':Loc} {h h':Heap} (hC:C.Le C'):∀(v:V) (u:Value),
 (∀i∈v.refs,∀B,h[i]? = some B→∃B',h'[i]? = some B'∧B.alike B')→(∀i∈v.refs,φ' i=φ i)→(∀b,Wide C.w C'.w b) →
 RX C φ h v u→RX C' φ' h' v u
 | .d x,u,_,_,_,g=>by
  simp only [RX] at g ⊢;exact RV.mono hC x u g
 | .ptr i p,u,h1,h2,_,g=>by
  simp only [RX] at g ⊢;obtain ⟨B,b,o,q,hB,hφ,hq,e⟩:=g;obtain ⟨B',hB',ha⟩:=h1 i (by simp [V.refs]) B hB
  exact ⟨B',b,o,q,hB',by rw [ha.2.2,h2 i (by simp [V.refs])]; exact hφ,(ha.1 p).trans hq,e⟩
 | .mp i,u,h1,h2,_,g=>by
  simp only [RX] at g ⊢;obtain ⟨B,b,o,q,hB,hφ,hq,e⟩:=g;obtain ⟨B',hB',ha⟩:=h1 i (by simp [V.refs]) B hB
  exact ⟨B',b,o,q,hB',by rw [ha.2.2,h2 i (by simp [V.refs])]; exact hφ,(ha.1 []).trans hq,e⟩
 | .sl i p off len cap,u,h1,h2,h3,g=>by
  simp only [RX] at g ⊢;obtain ⟨B,base,s,m,a,c,hB,hr,hm,e,hl,hc,hloc⟩:=g;obtain ⟨B',hB',ha⟩:=h1 i (by simp [V.refs]) B hB
  refine ⟨B',base,s,m,a,c,hB',(ha.2.1 p).trans hr,hm,e,hl,hc,fun h0=>?_⟩
  obtain ⟨b,o,arr,el,fz,hφ,ea,hw,hs⟩:=hloc h0;obtain ⟨arr',el',fz',hw',hs'⟩:=h3 b arr el fz hw;exact ⟨b,o,arr',el',fz',by rw [ha.2.2,h2 i (by simp [V.refs])]; exact hφ,ea,hw',by omega⟩
 | .fn f first caps,u,h1,h2,h3,g=>by
  simp only [RX] at g ⊢;obtain ⟨us,vs,e,g1,g2⟩:=g
  exact ⟨us,vs,by rw [hC.num]; exact e,
   RXs.congr hC first _ (fun i hi=>h1 i (by simp [V.refs,hi])) (fun i hi=>h2 i (by simp [V.refs,hi])) h3 g1,
   RXs.congr hC caps _ (fun i hi=>h1 i (by simp [V.refs,hi])) (fun i hi=>h2 i (by simp [V.refs,hi])) h3 g2⟩
 | .tup xs,u,h1,h2,h3,g=>by
  simp only [RX] at g ⊢;obtain ⟨us,e,g1⟩:=g;exact ⟨us,e,RXs.congr hC xs _ (fun i hi=>h1 i (by simp [V.refs,hi])) (fun i hi=>h2 i (by simp [V.refs,hi])) h3 g1⟩
theorem RXs.congr {C C':Cx} {φ φ':Loc} {h h':Heap} (hC:C.Le C'):∀(xs:List V) (us:List Value),
 (∀i∈V.refss xs,∀B,h[i]? = some B→∃B',h'[i]? = some B'∧B.alike B')→(∀i∈V.refss xs,φ' i=φ i)→(∀b,Wide C.w C'.w b) →
 RXs C φ h xs us→RXs C' φ' h' xs us
 | [],us,_,_,_,g=>by simpa only [RXs] using g
 | x::xs,us,h1,h2,h3,g=>by
  simp only [RXs] at g ⊢;obtain ⟨v,r,e,g1,g2⟩:=g
  exact ⟨v,r,e,
   RX.congr hC x v (fun i hi=>h1 i (by simp [V.refss,hi])) (fun i hi=>h2 i (by simp [V.refss,hi])) h3 g1,
   RXs.congr hC xs r (fun i hi=>h1 i (by simp [V.refss,hi])) (fun i hi=>h2 i (by simp [V.refss,hi])) h3 g2⟩
end
mutual
theorem RX.refs {C:Cx} {φ:Loc} {h:Heap}:∀(v:V) (u:Value),RX C φ h v u→∀i∈v.refs,∃B,h[i]? = some B∧B≠.hole
 | .d x,u,_,i,hi=>by simp [V.refs] at hi
 | .ptr j p,u,g,i,hi=>by
  simp only [RX] at g;obtain ⟨B,b,o,q,hB,_,hq,_⟩:=g;simp only [V.refs,c7] at hi;subst hi;exact ⟨B,hB,by rintro rfl; simp [Blk.off] at hq⟩
 | .mp j,u,g,i,hi=>by
  simp only [RX] at g;obtain ⟨B,b,o,q,hB,_,hq,_⟩:=g;simp only [V.refs,c7] at hi;subst hi;exact ⟨B,hB,by rintro rfl; simp [Blk.off] at hq⟩
 | .sl j p off len cap,u,g,i,hi=>by
  simp only [RX] at g;obtain ⟨B,base,s,m,a,c,hB,hr,_⟩:=g;simp only [V.refs,c7] at hi;subst hi;exact ⟨B,hB,by rintro rfl; cases p <;> simp [Blk.run,Blk.off] at hr⟩
 | .fn f first caps,u,g,i,hi=>by
  simp only [RX] at g;obtain ⟨us,vs,_,g1,g2⟩:=g;simp only [V.refs,bp] at hi;rcases hi with hi | hi
  ·exact RXs.refs first _ g1 i hi
  ·exact RXs.refs caps _ g2 i hi
 | .tup xs,u,g,i,hi=>by
  simp only [RX] at g;obtain ⟨us,_,g1⟩:=g;exact RXs.refs xs _ g1 i (by simpa [V.refs] using hi)
theorem RXs.refs {C:Cx} {φ:Loc} {h:Heap}:∀(xs:List V) (us:List Value),RXs C φ h xs us→∀i∈V.refss xs,∃B,h[i]? = some B∧B≠.hole
 | [],us,_,i,hi=>by simp [V.refss] at hi
 | x::xs,us,g,i,hi=>by
  simp only [RXs] at g;obtain ⟨v,r,_,g1,g2⟩:=g;simp only [V.refss,bp] at hi;rcases hi with hi | hi
  ·exact RX.refs x v g1 i hi
  ·exact RXs.refs xs r g2 i hi
end
structure Step (C C':Cx) (φ φ':Loc) (h h':Heap):Prop where
 le:C.Le C'
 kept:∀b,b<C.w.heap.size→¬ OwnB φ h b→C'.w.heap[b]? = C.w.heap[b]?
 fresh:∀b,C'.I b→C.I b∨C.w.heap.size≤b∨OwnB φ h b
 own:∀b,OwnB φ' h' b→OwnB φ h b∨C.w.heap.size≤b
 size:C.w.heap.size≤C'.w.heap.size
 os:C'.w.os=C.w.os
 out:C'.w.output=C.w.output
 tape:C'.w.tape=C.w.tape
 hr:HR C' φ' h'
 bd:∀b,C'.I b→b<C'.w.heap.size
 wide:∀b,Wide C.w C'.w b
theorem Wide.refl (w:World) (b:Nat):Wide w w b:=.of_eq rfl
theorem Wide.trans {w w' w'':World} {b:Nat} (h:Wide w w' b) (g:Wide w' w'' b):Wide w w'' b:=fun a el fz e=>by
 obtain ⟨a',el',fz',e',hs⟩:=h a el fz e;obtain ⟨a2,el2,fz2,e2,hs2⟩:=g a' el' fz' e';exact ⟨a2,el2,fz2,e2,ju hs hs2⟩
theorem Wide.of_lt {w w':World} (h:∀b,b<w.heap.size→w'.heap[b]? = w.heap[b]?) (b:Nat):Wide w w' b:=fun a el fz e=>
 ⟨a,el,fz,(h b (ch.1 e).1).trans e,ba _⟩
theorem Step.refl {C:Cx} {φ:Loc} {h:Heap} (hr:HR C φ h) (hb:∀b,C.I b→b<C.w.heap.size):Step C C φ φ h h:=
 ⟨.refl C,fun _ _ _=>rfl,fun _ h=>.inl h,fun _ h=>.inl h,ba _,rfl,rfl,rfl,hr,hb,Wide.refl _⟩
theorem Step.trans {C C' C'':Cx} {φ φ' φ'':Loc} {h h' h'':Heap} (a:Step C C' φ φ' h h') (b:Step C' C'' φ' φ'' h' h''):Step C C'' φ φ'' h h'':=by
 refine ⟨a.le.trans b.le,fun k hk hn=>?_,fun k hk=>?_,fun k hk=>?_,ju a.size b.size,b.os.trans a.os,b.out.trans a.out,b.tape.trans a.tape,b.hr,b.bd,fun k=>(a.wide k).trans (b.wide k)⟩
 ·refine (b.kept k (ep hk a.size) fun ho=>?_).trans (a.kept k hk hn)
  rcases a.own k ho with g | g
  ·exact hn g
  ·omega
 ·rcases b.fresh k hk with g | g | g
  ·exact a.fresh k g
  ·exact .inr (.inl (ju a.size g))
  ·rcases a.own k g with g | g
   ·exact .inr (.inr g)
   ·exact .inr (.inl g)
 ·rcases b.own k hk with g | g
  ·exact a.own k g
  ·exact .inr (ju a.size g)
def Keeps (C C':Cx) (φ φ':Loc) (h h':Heap) (K:Nat→Prop):Prop:=
 ∀v u,(∀i∈v.refs,¬ K i)→RX C φ h v u→RX C' φ' h' v u
theorem RAt.lt {C:Cx} {fr:Bool} {b o:Nat} {cs:List Value} (h:RAt C fr b o cs):b<C.w.heap.size:=by
 obtain ⟨a,el,fz,h1,_⟩:=h.cells;exact (ch.1 h1).1
theorem RB.at {C:Cx} {B:Blk} {l:Nat→Option (Nat×Nat)} {k b o:Nat} (hB:B.live=true) (h:RB C B l) (hk:k<B.parts) (e:l k=some (b,o)):b<C.w.heap.size∧(B.own=true→¬ C.I b)∧(B.own=false→C.I b):=by
 have key:∀fr cs o,RAt C fr b o cs→b<C.w.heap.size∧((!fr)=true→¬ C.I b)∧((!fr)=false→C.I b):=by
  intro fr cs o ha;refine ⟨ha.lt,?_⟩;cases fr <;> simp only [RAt,b5,if_false,if_true] at ha <;> simp [ha.1]
 cases B with
 | hole=>simp [Blk.live] at hB
 | gone _ _ _=>simp [Blk.live] at hB
 | box fr d=>
  simp only [Blk.parts,Nat.lt_one_iff] at hk; subst hk;simp only [RB] at h;obtain ⟨b',o',cs,e',_,ha⟩:=h;obtain ⟨rfl,rfl⟩:b=b'∧o=o':=by simpa using e.symm.trans e'
  exact key fr cs o ha
 | sl fr s xs=>
  simp only [Blk.parts,Nat.lt_one_iff] at hk; subst hk;simp only [RB,e] at h;obtain ⟨cs,_,ha⟩:=h;exact key fr cs o ha
 | mp fr es=>
  simp only [Blk.parts,Nat.lt_one_iff] at hk; subst hk;simp only [RB] at h;obtain ⟨b',o',e',ha,arr,clock,h1,_⟩:=h;obtain ⟨rfl,rfl⟩:b=b'∧o=o':=by simpa using e.symm.trans e'
  refine ⟨(ch.1 h1).1,?_⟩;cases fr <;> simp [Blk.own,ha]
 | tb fr s idx rows=>
  simp only [RB] at h;obtain ⟨⟨b',o',cs,e',ha,_⟩,h2⟩:=h;cases k with
  | zero=>
   obtain ⟨rfl,rfl⟩:b=b'∧o=o':=by simpa using e.symm.trans e'
   exact key fr cs o ha
  | succ r=>
   simp only [Blk.parts] at hk;obtain ⟨b',o',cs,e',_,ha⟩:=h2 r rows[r] (ac (by omega))
   obtain ⟨rfl,rfl⟩:b=b'∧o=o':=by simpa using e.symm.trans e'
   exact key fr cs o ha
theorem Blk.own_live {B:Blk} (h:B.own=true):B.live=true:=by cases B <;> simp_all [Blk.own,Blk.live]
theorem OwnB.not_I {C:Cx} {φ:Loc} {h:Heap} (hr:HR C φ h) {b:Nat} (ho:OwnB φ h b):¬ C.I b:=by
 obtain ⟨i,k,B,o,hB,hown,hk,hφ⟩:=ho;exact (RB.at (Blk.own_live hown) (hr.blk i B hB) hk hφ).2.1 hown
theorem OwnB.lt {C:Cx} {φ:Loc} {h:Heap} (hr:HR C φ h) {b:Nat} (ho:OwnB φ h b):b<C.w.heap.size:=by
 obtain ⟨i,k,B,o,hB,hown,hk,hφ⟩:=ho;exact (RB.at (Blk.own_live hown) (hr.blk i B hB) hk hφ).1
structure SR (C:Cx) (φ:Loc) (s:St) (tmps:Array Value):Prop where
 hr:HR C φ s.h
 bd:∀b,C.I b→b<C.w.heap.size
 env:∀n v,s.e.get n=some v→∃u,tmps[n]? = some u∧RX C φ s.h v u
def World.same (w w':World):Prop:=w'.heap=w.heap∧w'.os=w.os∧w'.output=w.output∧w'.tape=w.tape
theorem RAt.world' {C C':Cx} {fr:Bool} {b o:Nat} {cs:List Value} (hI:C'.I b↔C.I b) (hw:C'.w.heap[b]? = C.w.heap[b]?) (h:RAt C fr b o cs):RAt C' fr b o cs:=by
 unfold RAt at h ⊢;cases fr
 ·simp only [b5,if_false] at h ⊢
  obtain ⟨h1,a,el,h2,h3⟩:=h;exact ⟨fun g=>h1 (hI.1 g),a,el,hw.trans h2,h3⟩
 ·simp only [if_true] at h ⊢
  exact ⟨hI.2 h.1,h.2.mono hw⟩
theorem Places.wide {C C':Cx} {s:Sh} {idx:List Nat} {rows:List (List D)} {l:Nat→Option (Nat×Nat)} {cs:List Value} (hw:∀b,Wide C.w C'.w b) (h:Places C s idx rows l cs):Places C' s idx rows l cs:=by
 refine ⟨h.1,fun k r hk=>?_⟩
 obtain ⟨xs,b,o,c,arr,el,fz,h0,h1,h2,h3,h4,h5⟩:=h.2 k r hk;obtain ⟨arr',el',fz',h6,h7⟩:=hw b arr el fz h4;exact ⟨xs,b,o,c,arr',el',fz',h0,h1,h2,h3,h6,by omega⟩
theorem RB.world' {C C':Cx} {B:Blk} {l:Nat→Option (Nat×Nat)} (hC:C.Le C') (hwd:∀b,Wide C.w C'.w b) (hw:∀k b o,k<B.parts→l k=some (b,o)→B.live=true→C'.w.heap[b]? = C.w.heap[b]? ∧ (C'.I b↔C.I b)) (h:RB C B l):RB C' B l:=by
 cases B with
 | hole=>trivial
 | gone _ _ _=>trivial
 | box fr d=>
  simp only [RB] at h ⊢;obtain ⟨b,o,cs,e,hd,ha⟩:=h;obtain ⟨h1,h2⟩:=hw 0 b o (by simp [Blk.parts]) e rfl
  exact ⟨b,o,cs,e,RD.mono hC d cs hd,ha.world' h2 h1⟩
 | sl fr s xs=>
  simp only [RB] at h ⊢;cases e:l 0 with
  | none=>rw [e] at h; exact h
  | some q=>
   obtain ⟨b,o⟩:=q;rw [e] at h;obtain ⟨cs,hd,ha⟩:=h;obtain ⟨h1,h2⟩:=hw 0 b o (by simp [Blk.parts]) e rfl
   exact ⟨cs,RDs.mono hC s xs cs hd,ha.world' h2 h1⟩
 | mp fr es=>
  simp only [RB] at h ⊢;obtain ⟨b,o,e,ha,arr,clock,g1,g2⟩:=h;obtain ⟨h1,h2⟩:=hw 0 b o (by simp [Blk.parts]) e rfl
  exact ⟨b,o,e,h2.trans ha,arr,clock,h1.trans g1,g2⟩
 | tb fr s idx rows=>
  simp only [RB] at h ⊢;obtain ⟨⟨b,o,cs,e,ha,hp⟩,h2⟩:=h;obtain ⟨q1,q2⟩:=hw 0 b o (by simp [Blk.parts]) e rfl
  refine ⟨⟨b,o,cs,e,ha.world' q2 q1,hp.wide hwd⟩,fun r xs hx=>?_⟩
  obtain ⟨b,o,cs,e,hd,ha⟩:=h2 r xs hx;have:=(ao.1 hx).1;obtain ⟨q1,q2⟩:=hw (r+1) b o (by simp only [Blk.parts]; omega) e rfl
  exact ⟨b,o,cs,e,RDs.mono hC s xs cs hd,ha.world' q2 q1⟩
theorem Oh {C:Cx} {φ:Loc} {h:Heap} (hr:HR C φ h) (hb:∀b,C.I b→b<C.w.heap.size) {w':World} (hs:World.same C.w w') :
 Step C { C with w:=w' } φ φ h h∧Keeps C { C with w:=w' } φ φ h h (fun _=>False):=by
 obtain ⟨h1,h2,h3,h4⟩:=hs;have hC:C.Le { C with w:=w' }:=⟨rfl,fun _ g=>g,fun b _=>by rw [h1]⟩
 have hwd:∀b,Wide C.w w' b:=fun b=>.of_eq (by rw [h1])
 refine ⟨⟨hC,fun b _ _=>by rw [h1],fun _ g=>.inl g,fun _ g=>.inl g,by rw [h1]; exact ba _,h2,h3,h4,⟨fun i B hB=>?_,hr.inj⟩,fun b g=>by rw [h1]; exact hb b g,hwd⟩,fun v u _ g=>?_⟩
 ·exact (hr.blk i B hB).world' hC hwd (fun _ b o _ _ _=>⟨by rw [h1],mh⟩)
 ·exact RX.congr hC v u (fun i _ B hB=>⟨B,hB,.refl B⟩) (fun _ _=>rfl) hwd g
def Loc.put (φ:Loc) (i:Nat) (l:Option (Nat×Nat)):Loc:=fun j=>if j=i then (fun _=>l) else φ j
theorem Sn {C:Cx} {φ:Loc} {h:Heap} (hr:HR C φ h) (hb:∀b,C.I b→b<C.w.heap.size) {i:Nat} {B0:Blk} (hi:h[i]? = some B0) {w':World} {B:Blk} {l:Option (Nat×Nat)}
 (hheap:∀b,b<C.w.heap.size→w'.heap[b]? = C.w.heap[b]?) (hsize:C.w.heap.size≤w'.heap.size) (hos:w'.os=C.w.os) (hout:w'.output=C.w.output) (htape:w'.tape=C.w.tape)
 (hl:∀b o,l=some (b,o)→C.w.heap.size≤b) (hp:B.parts=1) (hB:RB { C with w:=w' } B (fun _=>l)) :
 Step C { C with w:=w' } φ (φ.put i l) h (h.set i B)∧Keeps C { C with w:=w' } φ (φ.put i l) h (h.set i B) (fun j=>j=i):=by
 have hC:C.Le { C with w:=w' }:=⟨rfl,fun _ g=>g,fun b g=>hheap b (hb b g)⟩
 have hil:i<h.length:=(ao.1 hi).1;have hwd:∀b,Wide C.w w' b:=Wide.of_lt hheap
 have hne:∀j Bj,j≠i→(h.set i B)[j]? = some Bj→h[j]? = some Bj:=fun j Bj hj e=>by
  rwa [b7 (f9 hj)] at e
 have hlt:∀j k (Bj:Blk) b o,h[j]? = some Bj→Bj.live=true→k<Bj.parts→φ j k=some (b,o)→b<C.w.heap.size:=fun j k Bj b o hj hn hk hφ=>
  (RB.at hn (hr.blk j Bj hj) hk hφ).1
 have hself:∀Bj,(h.set i B)[i]? = some Bj→B=Bj:=fun Bj hj=>by
  rw [b4 hil] at hj;exact au hj
 refine ⟨⟨hC,fun b hbl _=>hheap b hbl,fun _ g=>.inl g,?_,hsize,hos,hout,htape,⟨?_,?_⟩,fun b g=>ep (hb b g) hsize,hwd⟩,?_⟩
 ·rintro b ⟨j,k,Bj,o,hj,ho,hk,hφ⟩
  by_cases hji:j=i
  ·subst hji
   simp only [Loc.put,if_true] at hφ;exact .inr (hl b o hφ)
  ·simp only [Loc.put,if_neg hji] at hφ
   exact .inl ⟨j,k,Bj,o,hne j Bj hji hj,ho,hk,hφ⟩
 ·intro j Bj hj
  by_cases hji:j=i
  ·subst hji
   obtain rfl:=hself Bj hj
   simpa [Loc.put] using hB
  ·have hj':=hne j Bj hji hj
   simp only [Loc.put,if_neg hji];exact (hr.blk j Bj hj').world' hC hwd (fun k b o hk e hn=>⟨hheap b (hlt j k Bj b o hj' hn hk e),mh⟩)
 ·intro j k m n Bj Bk b oj ok hjk hj hk hoj hok hm hn hφj hφk
  by_cases hji:j=i
  ·by_cases hki:k=i
   ·subst hji; subst hki
    obtain rfl:=hself Bj hj;obtain rfl:=hself Bk hk;omega
   ·subst hji
    simp only [Loc.put,if_true] at hφj;simp only [Loc.put,if_neg hki] at hφk;have:=hlt k n Bk b ok (hne k Bk hki hk) (Blk.own_live hok) hn hφk;have:=hl b oj hφj;omega
  ·by_cases hki:k=i
   ·subst hki
    simp only [Loc.put,if_true] at hφk;simp only [Loc.put,if_neg hji] at hφj;have:=hlt j m Bj b oj (hne j Bj hji hj) (Blk.own_live hoj) hm hφj;have:=hl b ok hφk;omega
   ·simp only [Loc.put,if_neg hji] at hφj
    simp only [Loc.put,if_neg hki] at hφk;exact hr.inj j k m n Bj Bk b oj ok hjk (hne j Bj hji hj) (hne k Bk hki hk) hoj hok hm hn hφj hφk
 ·intro v u hv g
  have hnot:∀j∈v.refs,j≠i:=fun j hj e=>hv j hj e
  refine RX.congr hC v u (fun j hj Bj hBj=>⟨Bj,?_,.refl Bj⟩) (fun j hj=>by simp only [Loc.put,if_neg (hnot j hj)]) hwd g
  rw [b7 (f9 (hnot j hj))]; exact hBj
theorem vv {C:Cx} {φ:Loc} {h:Heap} (hr:HR C φ h) (hb:∀b,C.I b→b<C.w.heap.size) {i:Nat} (hi:h[i]? = some .hole) {w':World} {B:Blk} {l:Option (Nat×Nat)}
 (hheap:∀b,b<C.w.heap.size→w'.heap[b]? = C.w.heap[b]?) (hsize:C.w.heap.size≤w'.heap.size) (hos:w'.os=C.w.os) (hout:w'.output=C.w.output) (htape:w'.tape=C.w.tape)
 (hl:∀b o,l=some (b,o)→C.w.heap.size≤b) (hB:RB { C with w:=w' } B (fun _=>l)) (hp:B.parts=1:=by rfl) :
 Step C { C with w:=w' } φ (φ.put i l) h (h.set i B)∧Keeps C { C with w:=w' } φ (φ.put i l) h (h.set i B) (fun _=>False):=by
 obtain ⟨st,kp⟩:=Sn hr hb hi hheap hsize hos hout htape hl hp hB;refine ⟨st,fun v u _ g=>kp v u (fun j hj e=>?_) g⟩
 subst e;obtain ⟨B',hB',hn⟩:=RX.refs v u g j hj;rw [hi] at hB';exact hn (au hB').symm
theorem Blk.freeze_twice (B:Blk):B.freeze.freeze=B.freeze:=by cases B <;> rfl
theorem jo:∀(is:List Nat) (h:Heap) (j:Nat),(freeze h is)[j]? = if j∈is then (h[j]?).map Blk.freeze else h[j]?
 | [],h,j=>by simp [freeze]
 | i::is,h,j=>by
  rw [freeze,jo is,List.getElem?_modify];cases hB:h[j]? with
  | none=>simp
  | some B=>
   by_cases hj:j∈is <;> by_cases hi:i=j <;> simp [hj,hi,Blk.freeze_twice]
   intro e; exact absurd e.symm hi
theorem Blk.freeze_alike (B:Blk):B.alike B.freeze:=by
 cases B with
 | hole=>exact .refl _
 | gone _ _ _=>exact .refl _
 | box fr d=>exact ⟨fun p=>rfl,fun p=>by cases p <;> rfl,fun p=>rfl⟩
 | sl fr s xs=>exact ⟨fun p=>by cases p <;> rfl,fun p=>by cases p <;> rfl,fun p=>rfl⟩
 | mp fr es=>exact ⟨fun p=>by cases p <;> rfl,fun p=>by cases p <;> rfl,fun p=>rfl⟩
 | tb fr s idx rows=>
  have ho:∀p,(Blk.tb fr s idx rows).freeze.off p=(Blk.tb fr s idx rows).off p:=fun p=>by
   match p with
   | []=>rfl
   | [0]=>rfl
   | [r+1]=>rfl
   | 0::i::p=>rfl
   | (r+1)::i::p=>rfl
  refine ⟨ho,fun p=>?_,fun p=>?_⟩
  ·match p with
   | []=>rfl
   | [0]=>rfl
   | [r+1]=>rfl
   | 0::i::p=>simp only [Blk.freeze,Blk.run]; rw [show Blk.off (.tb true s idx rows) (0::i::p)=_ from ho (0::i::p)]
   | (r+1)::i::p=>simp only [Blk.freeze,Blk.run]; rw [show Blk.off (.tb true s idx rows) ((r+1)::i::p)=_ from ho ((r+1)::i::p)]
  ·cases p <;> rfl
theorem Blk.freeze_own (B:Blk):B.freeze.own=false:=by cases B <;> rfl
theorem Blk.freeze_hole {B:Blk} (h:B.freeze=.hole):B=.hole:=by cases B <;> simp_all [Blk.freeze]
theorem Places.le {C C':Cx} {s:Sh} {idx:List Nat} {rows:List (List D)} {l:Nat→Option (Nat×Nat)} {cs:List Value} (hw:C'.w=C.w) (h:Places C s idx rows l cs):Places C' s idx rows l cs:=
 h.wide fun b=>.of_eq (by rw [hw])
theorem I6 {C:Cx} {φ:Loc} {h:Heap} (hr:HR C φ h) (hb:∀b,C.I b→b<C.w.heap.size) (is:List Nat) :
 Step C (C.plus (y9 φ h is)) φ φ h (freeze h is)∧Keeps C (C.plus (y9 φ h is)) φ φ h (freeze h is) (fun _=>False):=by
 have hC:=C.le_plus (y9 φ h is)
 have hlt:∀b,y9 φ h is b→b<C.w.heap.size:=by
  rintro b ⟨i,_,k,B,o,hB,hn,hk,hφ⟩
  exact (RB.at hn (hr.blk i B hB) hk hφ).1
 refine ⟨⟨hC,fun _ _ _=>rfl,?_,?_,ba _,rfl,rfl,rfl,⟨?_,?_⟩,?_,fun b=>.refl _ b⟩,?_⟩
 ·rintro b (g | ⟨i,hi,k,B,o,hB,hn,hk,hφ⟩)
  ·exact .inl g
  ·by_cases ho:B.own=true
   ·exact .inr (.inr ⟨i,k,B,o,hB,ho,hk,hφ⟩)
   ·exact .inl ((RB.at hn (hr.blk i B hB) hk hφ).2.2 (by simpa using ho))
 ·rintro b ⟨j,k,Bj,o,hj,ho,hk,hφ⟩
  rw [jo] at hj
  by_cases hm:j∈is
  ·rw [if_pos hm] at hj
   obtain ⟨B,_,rfl⟩:=ae.1 hj;rw [Blk.freeze_own] at ho; cases ho
  ·rw [if_neg hm] at hj
   exact .inl ⟨j,k,Bj,o,hj,ho,hk,hφ⟩
 ·intro j Bj hj
  rw [jo] at hj
  by_cases hm:j∈is
  ·rw [if_pos hm] at hj
   obtain ⟨B,hB,rfl⟩:=ae.1 hj;have g:=hr.blk j B hB;have hin:∀k b o,B.live=true→k<B.parts→φ j k=some (b,o)→(C.plus (y9 φ h is)).I b:=fun k b o hn hk e=>.inr ⟨j,hm,k,B,o,hB,hn,hk,e⟩
   cases B with
   | hole=>trivial
   | gone _ _ _=>trivial
   | box fr d=>
    simp only [RB,Blk.freeze] at g ⊢;obtain ⟨b,o,cs,e,hd,ha⟩:=g;refine ⟨b,o,cs,e,RD.mono hC d cs hd,?_⟩;simp only [RAt,if_true];exact ⟨hin 0 b o rfl (by simp [Blk.parts]) e,ha.cells⟩
   | sl fr s xs=>
    simp only [RB,Blk.freeze] at g ⊢;cases hφ:φ j 0 with
    | none=>rw [hφ] at g; exact g
    | some q=>
     obtain ⟨b,o⟩:=q;rw [hφ] at g;obtain ⟨cs,hd,ha⟩:=g;refine ⟨cs,RDs.mono hC s xs cs hd,?_⟩;simp only [RAt,if_true];exact ⟨hin 0 b o rfl (by simp [Blk.parts]) hφ,ha.cells⟩
   | mp fr es=>
    simp only [RB,Blk.freeze] at g ⊢;obtain ⟨b,o,e,_,hm'⟩:=g;exact ⟨b,o,e,⟨fun _=>by simp,fun _=>hin 0 b o rfl (by simp [Blk.parts]) e⟩,hm'⟩
   | tb fr s idx rows=>
    simp only [RB,Blk.freeze] at g ⊢;obtain ⟨⟨b,o,cs,e,ha,hp⟩,h2⟩:=g;refine ⟨⟨b,o,cs,e,?_,hp.le rfl⟩,fun r xs hx=>?_⟩
    ·simp only [RAt,if_true]
     exact ⟨hin 0 b o rfl (by simp [Blk.parts]) e,ha.cells⟩
    ·obtain ⟨b,o,cs,e,hd,ha⟩:=h2 r xs hx
     have:=(ao.1 hx).1;refine ⟨b,o,cs,e,RDs.mono hC s xs cs hd,?_⟩;simp only [RAt,if_true];exact ⟨hin (r+1) b o rfl (by simp only [Blk.parts]; omega) e,ha.cells⟩
  ·rw [if_neg hm] at hj
   have g:=hr.blk j Bj hj;refine g.world' hC (fun b=>.refl _ b) fun k b o hk hφ hlv=>⟨rfl,?_,fun g1=>.inl g1⟩
   rintro (g1 | ⟨i,hi,m,B,o',hB,hn,hkm,hφ'⟩)
   ·exact g1
   ·have hij:i≠j:=fun e=>hm (e▸hi)
    by_cases hB':B.own=true
    ·by_cases ho:Bj.own=true
     ·exact (hr.inj i j m k B Bj b o' o (.inl hij) hB hj hB' ho hkm hk hφ' hφ).elim
     ·exact (RB.at hlv g hk hφ).2.2 (by simpa using ho)
    ·exact (RB.at hn (hr.blk i B hB) hkm hφ').2.2 (by simpa using hB')
 ·intro i j k l Bi Bj b oi oj hij hi hj hoi hoj hk hl hφi hφj
  rw [jo] at hi hj
  by_cases hm:i∈is
  ·rw [if_pos hm] at hi
   obtain ⟨B,_,rfl⟩:=ae.1 hi;rw [Blk.freeze_own] at hoi; cases hoi
  ·by_cases hm':j∈is
   ·rw [if_pos hm'] at hj
    obtain ⟨B,_,rfl⟩:=ae.1 hj;rw [Blk.freeze_own] at hoj; cases hoj
   ·rw [if_neg hm] at hi
    rw [if_neg hm'] at hj;exact hr.inj i j k l Bi Bj b oi oj hij hi hj hoi hoj hk hl hφi hφj
 ·rintro b (g | g)
  ·exact hb b g
  ·exact hlt b g
 ·intro v u _ g
  refine RX.congr hC v u (fun i _ B hB=>?_) (fun _ _=>rfl) (fun b=>.refl _ b) g
  rw [jo]
  by_cases hm:i∈is
  ·rw [if_pos hm,hB]; exact ⟨_,rfl,B.freeze_alike⟩
  ·rw [if_neg hm]; exact ⟨B,hB,.refl B⟩
theorem mb (b:Nat):∀(vs:List Value) (o:Nat) (w:World) (a:Array Value) (el:TypeId) (fz:Nat×Nat),w.heap[b]? = some (.cells a el fz)→o+vs.length≤a.size →
 ∃a',(w.setCells b o vs).heap[b]? = some (.cells a' el fz)∧a'.size=a.size∧∀j,a'[j]? = if o≤j∧j<o+vs.length then vs[j-o]? else a[j]?
 | [],o,w,a,el,fz,h,_=>⟨a,h,rfl,fun j=>by simp only [da]; rw [if_neg (by omega)]⟩
 | v::vs,o,w,a,el,fz,h,hl=>by
  simp only [bv] at hl
  have h1:(w.setCell ⟨b,o,none⟩ v).heap[b]? = some (.cells (a.setIfInBounds o v) el fz):=by
   simp only [World.setCell,Array.getElem?_modify,if_true,h,bc];simp
  obtain ⟨a',h2,h3,h4⟩:=mb b vs (o+1) (w.setCell ⟨b,o,none⟩ v) _ el fz h1 (by simp; omega)
  refine ⟨a',by rw [World.setCells]; exact h2,by rw [h3]; simp,fun j=>?_⟩
  rw [h4 j];simp only [bv]
  by_cases hj:j=o
  ·subst hj
   rw [if_neg (by omega),if_pos (by omega),lh,ct,fu,if_pos rfl,if_pos (by omega)]
  ·by_cases hin:o+1≤j∧j<o+1+vs.length
   ·rw [if_pos hin,if_pos (by omega)]
    rw [show j-o=(j-(o+1))+1 by omega,iw]
   ·rw [if_neg hin,if_neg (by omega),fu,if_neg (f9 hj)]
theorem fi (b:Nat):∀(vs:List Value) (o:Nat) (w:World) (k:Nat),k≠b→(w.setCells b o vs).heap[k]? = w.heap[k]?
 | [],_,_,_,_=>rfl
 | v::vs,o,w,k,h=>by
  rw [World.setCells,fi b vs (o+1) _ k h];simp only [World.setCell,Array.getElem?_modify];rw [if_neg (f9 h)]
theorem nk (b:Nat):∀(vs:List Value) (o:Nat) (w:World),(w.setCells b o vs).heap.size=w.heap.size∧(w.setCells b o vs).os=w.os∧(w.setCells b o vs).output=w.output∧(w.setCells b o vs).tape=w.tape
 | [],_,_=>⟨rfl,rfl,rfl,rfl⟩
 | v::vs,o,w=>by
  rw [World.setCells];obtain ⟨h1,h2,h3,h4⟩:=nk b vs (o+1) (w.setCell ⟨b,o,none⟩ v);exact ⟨h1.trans (by simp [World.setCell]),h2,h3,h4⟩
theorem wk {C:Cx} {φ:Loc} {h:Heap} (hr:HR C φ h) (hb:∀b,C.I b→b<C.w.heap.size) {i k0 b o:Nat} {B B':Blk} (hi:h[i]? = some B) (hown:B.own=true) (hk0:k0<B.parts) (hφ:φ i k0=some (b,o)) (hparts:B'.parts=B.parts)
 {w':World} (hoth:∀k,k≠b→w'.heap[k]? = C.w.heap[k]?) (hsize:w'.heap.size=C.w.heap.size) (hos:w'.os=C.w.os) (hout:w'.output=C.w.output) (htape:w'.tape=C.w.tape)
 (hwide:Wide C.w w' b) (hB:RB { C with w:=w' } B' (φ i)) {K:Nat→Prop} (hK:K i∨B.alike B') :
 Step C { C with w:=w' } φ φ h (h.set i B')∧Keeps C { C with w:=w' } φ φ h (h.set i B') K:=by
 have hOB:OwnB φ h b:=⟨i,k0,B,o,hi,hown,hk0,hφ⟩;have hnI:=OwnB.not_I hr hOB;have hC:C.Le { C with w:=w' }:=⟨rfl,fun _ g=>g,fun k g=>hoth k fun e=>hnI (e▸g)⟩
 have hil:i<h.length:=(ao.1 hi).1
 have hwd:∀k,Wide C.w w' k:=fun k=>by
  by_cases hk:k=b
  ·subst hk; exact hwide
  ·exact .of_eq (hoth k hk)
 have hne:∀j Bj,j≠i→(h.set i B')[j]? = some Bj→h[j]? = some Bj:=fun j Bj hj e=>by
  rwa [b7 (f9 hj)] at e
 have hself:∀Bj,(h.set i B')[i]? = some Bj→B'=Bj:=fun Bj hj=>by
  rw [b4 hil] at hj;exact au hj
 have back:∀(j k:Nat) (Bj:Blk),(h.set i B')[j]? = some Bj→Bj.own=true→k<Bj.parts→∃Bj':Blk,h[j]? = some Bj'∧Bj'.own=true∧k<Bj'.parts:=by
  intro j k Bj hj ho hk
  by_cases hji:j=i
  ·subst hji
   obtain rfl:=hself Bj hj;exact ⟨B,hi,hown,by omega⟩
  ·exact ⟨Bj,hne j Bj hji hj,ho,hk⟩
 refine ⟨⟨hC,fun k _ hn=>hoth k fun e=>hn (e▸hOB),fun _ g=>.inl g,?_,by rw [hsize]; exact ba _,hos,hout,htape,⟨?_,?_⟩,fun k g=>by rw [hsize]; exact hb k g,hwd⟩,?_⟩
 ·rintro k ⟨j,m,Bj,o',hj,ho,hm,hφj⟩
  obtain ⟨Bj',h1,h2,h3⟩:=back j m Bj hj ho hm;exact .inl ⟨j,m,Bj',o',h1,h2,h3,hφj⟩
 ·intro j Bj hj
  by_cases hji:j=i
  ·subst hji
   obtain rfl:=hself Bj hj;exact hB
  ·have hj':=hne j Bj hji hj
   refine (hr.blk j Bj hj').world' hC hwd (fun m k o' hm e hn=>⟨hoth k ?_,mh⟩)
   rintro rfl
   by_cases hoj:Bj.own=true
   ·exact hr.inj j i m k0 Bj B k o' o (.inl hji) hj' hi hoj hown hm hk0 e hφ
   ·exact hnI ((RB.at hn (hr.blk j Bj hj') hm e).2.2 (by simpa using hoj))
 ·intro j k m n Bj Bk b' oj ok hjk hj hk hoj hok hm hn hφj hφk
  obtain ⟨Bj',hj',hoj',hm'⟩:=back j m Bj hj hoj hm;obtain ⟨Bk',hk',hok',hn'⟩:=back k n Bk hk hok hn;exact hr.inj j k m n Bj' Bk' b' oj ok hjk hj' hk' hoj' hok' hm' hn' hφj hφk
 ·intro v u hv g
  refine RX.congr hC v u (fun j hj Bj hBj=>?_) (fun _ _=>rfl) hwd g
  by_cases hji:j=i
  ·subst hji
   rw [b4 hil];rw [hi] at hBj;obtain rfl:=au hBj;rcases hK with hK | hK
   ·exact absurd hK (hv j hj)
   ·exact ⟨B',rfl,hK⟩
  ·rw [b7 (f9 hji)]
   exact ⟨Bj,hBj,.refl Bj⟩
theorem Nc {C:Cx} {φ:Loc} {h:Heap} (hr:HR C φ h) (hb:∀b,C.I b→b<C.w.heap.size) {i:Nat} {B0:Blk} (hi:h[i]? = some B0) {w':World} {B:Blk} {l:Option (Nat×Nat)}
 (hheap:∀b,b<C.w.heap.size→w'.heap[b]? = C.w.heap[b]?) (hsize:C.w.heap.size≤w'.heap.size) (hos:w'.os=C.w.os) (hout:w'.output=C.w.output) (htape:w'.tape=C.w.tape)
 (hl:∀b o,l=some (b,o)→C.w.heap.size≤b) (hB:RB { C with w:=w' } B (fun _=>l)) (hp:B.parts=1:=by rfl) :
 Step C { C with w:=w' } φ (φ.put i l) h (h.set i B)∧Keeps C { C with w:=w' } φ (φ.put i l) h (h.set i B) (fun j=>j=i):=
 Sn hr hb hi hheap hsize hos hout htape hl hp hB
theorem Nh {C:Cx} {φ:Loc} {h h':Heap} (hr:HR C φ h) (hb:∀b,C.I b→b<C.w.heap.size) (hh:∀(i:Nat) (B:Blk),h'[i]? = some B→B=.hole∨h[i]? = some B) (hk:∀(i:Nat) (B:Blk),h[i]? = some B→∃B':Blk,h'[i]? = some B'∧(B'=.hole∨B'=B)) :
 Step C C φ φ h h'∧Keeps C C φ φ h h' (fun i=>h'[i]? = some .hole):=by
 refine ⟨⟨.refl C,fun _ _ _=>rfl,fun _ g=>.inl g,?_,ba _,rfl,rfl,rfl,⟨?_,?_⟩,hb,fun b=>.refl _ b⟩,?_⟩
 ·rintro b ⟨j,k,Bj,o,hj,ho,hk,hφ⟩
  rcases hh j Bj hj with rfl | hj'
  ·simp [Blk.own] at ho
  ·exact .inl ⟨j,k,Bj,o,hj',ho,hk,hφ⟩
 ·intro j Bj hj
  rcases hh j Bj hj with rfl | hj'
  ·trivial
  ·exact hr.blk j Bj hj'
 ·intro i j k l Bi Bj b oi oj hij hi hj hoi hoj hk hl hφi hφj
  rcases hh i Bi hi with rfl | hi'
  ·simp [Blk.own] at hoi
  ·rcases hh j Bj hj with rfl | hj'
   ·simp [Blk.own] at hoj
   ·exact hr.inj i j k l Bi Bj b oi oj hij hi' hj' hoi hoj hk hl hφi hφj
 ·intro v u hv g
  refine RX.congr (.refl C) v u (fun i hi B hB=>?_) (fun _ _=>rfl) (fun b=>.refl _ b) g
  obtain ⟨B',hB',e⟩:=hk i B hB;rcases e with rfl | rfl
  ·exact absurd hB' (hv i hi)
  ·exact ⟨B',hB',.refl B'⟩
mutual
def enc:D→Option (List Value)
 | .int k n=>some [.int k n]
 | .bool b=>some [.bool b]
 | .str s=>some [.string s]
 | .arr n s xs=>if xs.length=n then a65 s xs else none
 | .st ss xs=>Lv ss xs
 | .sl _ []=>some [.slice none 0 0]
 | .nilp=>some [.pointer none]
 | .nils _=>some [.slice none 0 0]
 | .nilf=>some [.nilFunc]
 | .nili=>some [.nilIface]
 | _=>none
def a65 (s:Sh):List D→Option (List Value)
 | []=>some []
 | x::xs=>if Sh.beq x.sh s then (enc x).bind fun a=>(a65 s xs).map (a ++ ·) else none
def Lv:List Sh→List D→Option (List Value)
 | [],[]=>some []
 | s::ss,x::xs=>if Sh.beq x.sh s then (enc x).bind fun a=>(Lv ss xs).map (a ++ ·) else none
 | _,_=>none
end
mutual
theorem Vo {C:Cx}:∀(x:D) (cs:List Value),enc x=some cs→RD C x cs
 | .int ..,cs,h | .bool _,cs,h | .str _,cs,h | .nilp,cs,h | .nils _,cs,h | .nilf,cs,h | .nili,cs,h=>by
  simp only [enc,ab] at h; subst h; simp [RD]
 | .arr n s xs,cs,h=>by
  simp only [enc] at h
  by_cases hn:xs.length=n
  ·rw [if_pos hn] at h
   simp only [RD];exact ⟨hn,a13 s xs cs h⟩
  ·rw [if_neg hn] at h; cases h
 | .st ss xs,cs,h=>by
  simp only [enc] at h;simp only [RD];exact Uu ss xs cs h
 | .sl s [],cs,h=>by
  simp only [enc,ab] at h; subst h;simp only [RD];exact ⟨none,0,rfl,ba _,by simp⟩
 | .sl s (_::_),cs,h=>by simp [enc] at h
 | .tup _,cs,h | .ip _,cs,h | .fn ..,cs,h | .iface _ _,cs,h=>by simp [enc] at h
theorem a13 {C:Cx} (s:Sh):∀(xs:List D) (cs:List Value),a65 s xs=some cs→RDs C s xs cs
 | [],cs,h=>by simp only [a65,ab] at h; subst h; simp [RDs]
 | x::xs,cs,h=>by
  simp only [a65] at h
  by_cases hb:Sh.beq x.sh s=true
  ·rw [if_pos hb] at h
   obtain ⟨a,ha,h⟩:=aa.1 h;obtain ⟨r,hr,rfl⟩:=ae.1 h;simp only [RDs];exact ⟨a,r,rfl,Sh.beq_eq _ _ hb,Vo x a ha,a13 s xs r hr⟩
  ·rw [if_neg hb] at h; cases h
theorem Uu {C:Cx}:∀(ss:List Sh) (xs:List D) (cs:List Value),Lv ss xs=some cs→RDst C ss xs cs
 | [],[],cs,h=>by simp only [Lv,ab] at h; subst h; simp [RDst]
 | s::ss,x::xs,cs,h=>by
  simp only [Lv] at h
  by_cases hb:Sh.beq x.sh s=true
  ·rw [if_pos hb] at h
   obtain ⟨a,ha,h⟩:=aa.1 h;obtain ⟨r,hr,rfl⟩:=ae.1 h;simp only [RDst];exact ⟨a,r,rfl,Sh.beq_eq _ _ hb,Vo x a ha,Uu ss xs r hr⟩
  ·rw [if_neg hb] at h; cases h
 | [],_::_,cs,h=>by simp [Lv] at h
 | _::_,[],cs,h=>by simp [Lv] at h
end
def Vr:Value→Value→Bool
 | .int k n,.int k' n'=>k == k'&&n == n'
 | .bool a,.bool b=>a == b
 | .string a,.string b=>decide (a=b)
 | .pointer none,.pointer none=>true
 | .slice none 0 0,.slice none 0 0=>true
 | .nilFunc,.nilFunc=>true
 | .nilIface,.nilIface=>true
 | _,_=>false
theorem a3r {a b:Value} (h:Vr a b=true):a=b:=by
 unfold Vr at h
 split at h <;> simp_all
def Ap:List Value→List Value→Bool
 | [],[]=>true
 | a::as,b::bs=>Vr a b&&Ap as bs
 | _,_=>false
theorem I5:∀{a b:List Value},Ap a b=true→a=b
 | [],[],_=>rfl
 | a::as,b::bs,h=>by
  simp only [Ap,av] at h;rw [a3r h.1,I5 h.2]
 | [],_::_,h | _::_,[],h=>by simp [Ap] at h
def E7 (d:D) (v:Value):Bool:=
 match enc d with
 | some cs=>Ap cs v.cells.toList&&(isAgg v == d.isAgg)
 | none=>false
theorem Lp {C:Cx} {d:D} {v:Value} (h:E7 d v=true):RV C d v:=by
 unfold E7 at h;cases he:enc d with
 | none=>simp [he] at h
 | some cs=>
  rw [he] at h;simp only [av,beq_iff_eq] at h;refine RV.mk ⟨h.2,?_⟩;rw [←I5 h.1];exact Vo d cs he
def ck (num:Nat→Nat):Arg→Operand→Bool
 | .t n,.tmp m=>n == m
 | .c d,.const v=>E7 d v
 | .f f,.func g=>g == num f
 | _,_=>false
theorem c6 {C:Cx} {φ:Loc} {s:St} {a:Act} (hs:SR C φ s a.tmps) {x:Arg} {y:Operand} (hok:ck C.num x y=true) {v:V} (hv:s.e.arg x=some v):RX C φ s.h v (a.eval y):=by
 cases x with
 | t n=>
  cases y <;> simp only [ck,b5] at hok
  rename_i m
  have hnm:n=m:=by simpa using hok
  subst hnm;simp only [Env.arg] at hv;obtain ⟨u,hu,g⟩:=hs.env n v hv;simp only [Act.eval,fb,hu,Option.getD_some];exact g
 | c d=>
  cases y <;> simp only [ck,b5] at hok
  simp only [Env.arg,ab] at hv;subst hv;simp only [RX,Act.eval];exact Lp hok
 | f f=>
  cases y <;> simp only [ck,b5] at hok
  rename_i g
  have hg:g=C.num f:=by simpa using hok
  subst hg;simp only [Env.arg,ab] at hv;subst hv;simp only [RX,Act.eval];refine RV.mk ⟨rfl,?_⟩;show RD C _ [_];simp only [RD];exact ⟨#[],#[],rfl,by simp [RVs],by simp [RVs]⟩
def vz (num:Nat→Nat):List Arg→List Operand→Bool
 | [],[]=>true
 | x::xs,y::ys=>ck num x y&&vz num xs ys
 | _,_=>false
theorem zw {C:Cx} {φ:Loc} {s:St} {a:Act} (hs:SR C φ s a.tmps):∀{xs:List Arg} {ys:List Operand} {vs:List V},vz C.num xs ys=true→s.e.args xs=some vs→RXs C φ s.h vs (ys.map a.eval)
 | [],[],vs,_,hv=>by
  simp only [Env.args,ab] at hv; subst hv;simp [RXs]
 | x::xs,y::ys,vs,hok,hv=>by
  simp only [vz,av] at hok;simp only [Env.args] at hv;obtain ⟨v,h1,hv⟩:=aa.1 hv;obtain ⟨r,h2,rfl⟩:=ae.1 hv;simp only [gq,RXs];exact ⟨_,_,rfl,c6 hs hok.1 h1,zw hs hok.2 h2⟩
 | [],_::_,vs,hok,_=>by simp [vz] at hok
 | _::_,[],vs,hok,_=>by simp [vz] at hok
end Pe
namespace Pe
open Go
variable {P:Program}
theorem E6 (u:Value):u.oneCell'=one u:=by cases u <;> rfl
def nj (P:Program) (t:TypeId) (s:Sh):Bool:=
 (match P.info? t with | some i=>i.size == s.size | none=>false) &&
 (match P.underlying t,s with
  | some (.struct _),.leaf | some (.array _ _),.leaf=>false
  | some (.struct _),_ | some (.array _ _),_=>true
  | some _,.leaf=>true
  | _,_=>false)
theorem gz {t:TypeId} {s:Sh} (h:nj P t s=true):∃i,P.info? t=some i∧i.size=s.size:=by
 unfold nj at h;cases hi:P.info? t with
 | none=>simp [hi] at h
 | some i=>
  rw [hi] at h;simp only [av,beq_iff_eq] at h;exact ⟨i,rfl,h.1⟩
theorem i7 {t:TypeId} {i:TypeInfo} (hi:P.info? t=some i) (w:World):(Go.sizeOf t).run P w=.ok i.size w:=by
 simp [Go.sizeOf,typeInfo,hi]
theorem Ss {t:TypeId} {s:Sh} (h:nj P t s=true) (hs:s≠.leaf):∃d,P.underlying t=some d∧d.isRow=true:=by
 unfold nj at h;simp only [av] at h
 replace h:=h.2
 cases hu:P.underlying t with
 | none=>rw [hu] at h; cases s <;> simp at h
 | some d=>
  rw [hu] at h;refine ⟨d,rfl,?_⟩;cases d <;> cases s <;> simp_all [TypeDesc.isRow]
theorem Hd {t:TypeId} (h:nj P t .leaf=true):∃d,P.underlying t=some d∧d.isRow=false:=by
 unfold nj at h;simp only [av] at h
 replace h:=h.2
 cases hu:P.underlying t with
 | none=>rw [hu] at h; simp at h
 | some d=>
  rw [hu] at h;refine ⟨d,rfl,?_⟩;cases d <;> simp_all [TypeDesc.isRow]
theorem D.isAgg_sh (x:D):x.isAgg=true↔x.sh≠.leaf:=by cases x <;> simp [D.isAgg,D.sh]
theorem CellsAt.range {w:World} {b o:Nat} {cs:List Value} (h:CellsAt w b o cs):w.rangeAt b o cs:=by
 obtain ⟨a,el,fz,h1,h2⟩:=h;intro j v hv;simp only [World.cell?,h1];exact h2 j v hv
theorem Me {C:Cx} {t:TypeId} {y:D} {b o:Nat} {cs:List Value} (ht:nj P t y.sh=true) (hc:CellsAt C.w b o cs) (hd:RD C y cs) :
 ∃u,(Instr.loadAt t (.pointer (some ⟨b,o,none⟩))).run P C.w=.ok u C.w∧RV C y u:=by
 obtain ⟨i,hi,hsz⟩:=gz ht;have hlen:=ji y cs hd
 by_cases hs:y.sh=.leaf
 ·rw [hs] at ht
  obtain ⟨d,hu,hr⟩:=Hd ht;rw [hs,Sh.size] at hlen
  obtain ⟨u,rfl⟩:∃u,cs=[u]:=by
   cases cs with
   | nil=>simp at hlen
   | cons u r=>cases r with
    | nil=>exact ⟨u,rfl⟩
    | cons _ _=>simp at hlen
  have h1:=H4 y _ hd u (by simp)
  have hcell:C.w.cell? ⟨b,o,none⟩=some u:=by simpa using hc.range 0 u (by simp)
  refine ⟨u,?_,RV.mk ⟨?_,?_⟩⟩
  ·have hagg:(Go.isAgg t).run P C.w=.ok false C.w:=by
    unfold Go.isAgg;rw [Sem.run_bind,run_underlying hu];cases d <;> simp_all [TypeDesc.isRow]
   simp [Instr.loadAt,Instr.sureAddr,loadVar,hagg,load,Sem.run,hcell]
  ·have:y.isAgg=false:=by
    cases hy:y.isAgg
    ·rfl
    ·exact absurd hs ((D.isAgg_sh y).1 hy)
   rw [this]; cases u <;> simp_all [one,isAgg]
  ·have:u.cells.toList=[u]:=by cases u <;> simp_all [one,Value.cells]
   rw [this]; exact hd
 ·obtain ⟨d,hu,hr⟩:=Ss ht hs
  refine ⟨.agg cs.toArray,?_,RV.mk ⟨?_,?_⟩⟩
  ·exact run_loadAt_mid C.w b o t cs d hc.range hu hr (by rw [hi,bc,hsz,hlen])
  ·rw [(D.isAgg_sh y).2 hs]; rfl
  ·simpa [Value.cells] using hd
theorem a3u {C:Cx} {t:TypeId} {y:D} {u:Value} {b o:Nat} {a:Array Value} {el:TypeId} (ht:nj P t y.sh=true) (hu:isAgg u=y.isAgg∧RD C y u.cells.toList)
 (hw:C.w.heap[b]? = some (.cells a el (0,0))) (hl:o+y.sh.size≤a.size) :
 (Instr.storeAt t (.pointer (some ⟨b,o,none⟩)) u).run P C.w=.ok () (C.w.setCells b o u.cells.toList):=by
 obtain ⟨i,hi,hsz⟩:=gz ht;have hlen:=ji y _ hu.2
 have hst:=run_storeCells_cells (P:=P) b o u.cells.toList 0 C.w
  (fun j hj=>by
   simp only [World.cell?,hw,dd];have:o+j<a.size:=by omega
   simp [this])
  (fun j hj=>by simp [World.frozen?,hw])
  (fun v hv=>by rw [E6]; exact H4 y _ hu.2 v hv)
 simp only [dd] at hst;have hsz':u.cells.size=i.size:=by rw [hsz,←hlen]; simp
 simp [Instr.storeAt,Instr.sureAddr,storeVar,i7 hi,hsz',hst]
theorem Dq {C:Cx} {place:Nat→Option (Nat×Nat)}:∀(ps:List (Nat×D)) (us:List (Nat×Value)) (xs xs':List D) (cs:Array Value),
 ps.length=us.length→(∀(j:Nat) p u,ps[j]? = some p→us[j]? = some u→p.1=u.1∧isAgg u.2=p.2.isAgg∧RD C p.2 u.2.cells.toList) →
 ry xs ps=some xs' →
 (∀(R:List D→List Value→Prop),(∀(xs:List D) (cs:List Value) (i:Nat) (x y:D) (us:List Value),R xs cs→xs[i]? = some x→x.sh=y.sh→RD C y us→∃o,place i=some (o,us.length)∧o+us.length≤cs.length∧R (xs.set i y) (kw cs o us)) →
  R xs cs.toList→∃cs',Instr.fill place cs us=some cs'∧R xs' cs'.toList)
 | [],[],xs,xs',cs,_,_,hf,R,_,h0=>by
  simp only [ry,ab] at hf; subst hf;exact ⟨cs,rfl,h0⟩
 | (i,x)::ps,(j,u)::us,xs,xs',cs,hl,hr,hf,R,hstep,h0=>by
  obtain ⟨hij,ha,hd⟩:=hr 0 _ _ rfl rfl;simp only at hij ha hd;subst hij;simp only [ry] at hf;cases hx:xs[i]? with
  | none=>simp [hx] at hf
  | some c=>
   rw [hx] at hf;simp only at hf
   by_cases hb:Sh.beq c.sh x.sh=true
   ·rw [if_pos hb] at hf
    obtain ⟨o,hp,hle,hR⟩:=hstep xs cs.toList i c x u.cells.toList h0 hx (Sh.beq_eq _ _ hb) hd
    have hz:∀(l:List (Value×Nat)) (a:Array Value),(l.foldl (fun cs (p:Value×Nat)=>cs.setIfInBounds (o+p.2) p.1) a).toList=l.foldl (fun cs (p:Value×Nat)=>cs.set (o+p.2) p.1) a.toList:=by
     intro l
     induction l with
     | nil=>intro a; rfl
     | cons p l ih=>intro a; simp only [List.foldl_cons]; rw [ih]; simp
    have hsp:∀(vs:List Value) (k:Nat) (a:List Value),o+k+vs.length≤a.length →
     (vs.zipIdx k).foldl (fun cs (p:Value×Nat)=>cs.set (o+p.2) p.1) a=kw a (o+k) vs:=by
     intro vs
     induction vs with
     | nil=>intro k a _; simp [kw]
     | cons v vs ih=>
      intro k a hk;simp only [bv] at hk;simp only [List.zipIdx_cons,List.foldl_cons];rw [ih (k+1) _ (by simp; omega)]
      apply ci;intro q;rw [nu _ _ _ _ (by simp; omega),nu _ _ _ _ (by simp; omega)]
      simp only [bv]
      by_cases h1:q<o+k
      ·rw [if_pos (by omega),if_pos h1,b7 (by omega)]
      ·by_cases h2:q=o+k
       ·subst h2
        rw [if_pos (by omega),if_neg (by omega),if_pos (by omega),b4 (by omega)]
        simp
       ·rw [if_neg (by omega),if_neg h1]
        by_cases h3:q<o+(k+1)+vs.length
        ·rw [if_pos h3,if_pos (by omega),show q-(o+k)=(q-(o+(k+1)))+1 by omega,iw]
        ·rw [if_neg h3,if_neg (by omega),b7 (by omega)]
    have hsz:u.cells.size=u.cells.toList.length:=by simp
    have e:((u.cells.zipIdx.foldl (fun cs (p:Value×Nat)=>cs.setIfInBounds (o+p.2) p.1) cs)).toList=kw cs.toList o u.cells.toList:=by
     rw [←Array.foldl_toList,hz,Array.toList_zipIdx];exact hsp _ 0 _ (by omega)
    obtain ⟨cs',h1,h2⟩:=Dq ps us (xs.set i x) xs' _ (by simpa using hl) (fun j p u hp hu=>hr (j+1) p u hp hu) hf R hstep (by rw [e]; exact hR)
    refine ⟨cs',?_,h2⟩;simp only [Instr.fill,hp];rw [if_neg]
    ·exact h1
    ·simp only [qv] at hle
     simp only [qv,ne_eq,not_true_eq_false,Bool.or_eq_true,decide_eq_true_eq,not_or];refine ⟨by simp,by omega⟩
   ·rw [if_neg hb] at hf; cases hf
 | [],_::_,_,_,_,hl,_,_,_,_,_=>by simp at hl
 | _::_,[],_,_,_,hl,_,_,_,_,_=>by simp at hl
def OpGood (P:Program) (o:Oper) (a:Act) (C:Cx) (φ:Loc) (h:Heap) (v:V) (h':Heap) (K:Nat→Prop):Prop:=
 ∃C' φ' u n,(execOp a.eval o).run P C.w=.ok n C'.w∧(n=.value u∨(n=.skip∧o.dst=none))∧Step C C' φ φ' h h'∧RX C' φ' h' v u∧Keeps C C' φ φ' h h' K
theorem Keeps.refl (C:Cx) (φ:Loc) (h:Heap) (K:Nat→Prop):Keeps C C φ φ h h K:=fun _ _ _ g=>g
theorem Keeps.mono {C C':Cx} {φ φ':Loc} {h h':Heap} {K K':Nat→Prop} (g:Keeps C C' φ φ' h h' K) (hk:∀i,K i→K' i):Keeps C C' φ φ' h h' K':=
 fun v u hv r=>g v u (fun i hi hk'=>hv i hi (hk i hk')) r
theorem Keeps.trans {C C' C'':Cx} {φ φ' φ'':Loc} {h h' h'':Heap} {K:Nat→Prop} (g:Keeps C C' φ φ' h h' K) (g':Keeps C' C'' φ' φ'' h' h'' K):Keeps C C'' φ φ'' h h'' K:=
 fun v u hv r=>g' v u hv (g v u hv r)
section
variable {C:Cx} {φ:Loc} {s:St} {a:Act} {o:Oper} {K:Nat→Prop}
theorem cg (hs:SR C φ s a.tmps) {v:V} {u:Value} (hrun:(execOp a.eval o).run P C.w=.ok (.value u) C.w) (hv:RX C φ s.h v u):OpGood P o a C φ s.h v s.h K:=
 ⟨C,φ,u,_,hrun,.inl rfl,.refl hs.hr hs.bd,hv,Keeps.refl _ _ _ _⟩
theorem a1h (hs:SR C φ s a.tmps) {x:Arg} {y:Operand} (ho:o.op=.move y∨o.op=.assign y) (hok:ck C.num x y=true) {v:V} (hv:s.e.arg x=some v):OpGood P o a C φ s.h v s.h K:=
 cg hs (u:=a.eval y) (by rcases ho with ho | ho <;> simp [execOp,ho]) (c6 hs hok hv)
theorem a23 (hs:SR C φ s a.tmps) {c x x':Arg} {c' y y':Operand} (ho:o.op=.pick c' y y') (hc:ck C.num c c'=true) (hx:ck C.num x y=true) (hx':ck C.num x' y'=true)
 {t:Bool} (ht:s.e.arg c=some (.d (.bool t))) {v:V} (hv:s.e.arg (if t then x else x')=some v):OpGood P o a C φ s.h v s.h K:=by
 have h1:=c6 hs hc ht;simp only [RX,RV,RD] at h1
 have h2:a.eval c'=.bool t:=by
  have:=h1.2;cases hq:a.eval c' <;> rw [hq] at this h1 <;> simp_all [Value.cells,isAgg,D.isAgg]
 refine cg hs (u:=if t then a.eval y else a.eval y') (by simp [execOp,ho,h2,asBool]) ?_
 cases t
 ·exact c6 hs hx' hv
 ·exact c6 hs hx hv
theorem mu {k:IntKind} {n:Int} {u:Value} (h:RX C φ s.h (.d (.int k n)) u):u=.int k n:=by
 simp only [RX,RV,RD] at h;cases u <;> simp_all [Value.cells,isAgg,D.isAgg]
theorem ze {t:Bool} {u:Value} (h:RX C φ s.h (.d (.bool t)) u):u=.bool t:=by
 simp only [RX,RV,RD] at h;cases u <;> simp_all [Value.cells,isAgg,D.isAgg]
theorem Qv {t:ByteArray} {u:Value} (h:RX C φ s.h (.d (.str t)) u):u=.string t:=by
 simp only [RX,RV,RD] at h;cases u <;> simp_all [Value.cells,isAgg,D.isAgg]
theorem gh (C:Cx) (φ:Loc) (h:Heap) (k:IntKind) (n:Int):RX C φ h (.d (.int k n)) (.int k n):=by
 simp only [RX]; exact RV.mk ⟨rfl,by simp [RD,Value.cells]⟩
theorem kl (C:Cx) (φ:Loc) (h:Heap) (t:Bool):RX C φ h (.d (.bool t)) (.bool t):=by
 simp only [RX]; exact RV.mk ⟨rfl,by simp [RD,Value.cells]⟩
theorem Np {t:Sh} {xs:List D} {u:Value} (h:RX C φ s.h (.d (.sl t xs)) u):∃ad c,u=.slice ad xs.length c∧xs.length≤c ∧
 (xs=[]∨∃b o us,ad=some ⟨b,o,none⟩∧C.I b∧RDs C t xs us∧CellsAt C.w b o us):=by
 simp only [RX,RV,RD] at h;obtain ⟨h0,ad,c,e,h1,h2⟩:=h;refine ⟨ad,c,?_,h1,h2⟩;cases u <;> simp_all [Value.cells,isAgg,D.isAgg]
theorem Tg {d:D} {u:Value} (h:RX C φ s.h (.d (.ip d)) u):∃b o us,u=.pointer (some ⟨b,o,none⟩)∧C.I b∧RD C d us∧CellsAt C.w b o us:=by
 simp only [RX,RV,RD] at h;obtain ⟨h0,b,o,us,e,h1,h2,h3⟩:=h;refine ⟨b,o,us,?_,h1,h2,h3⟩;cases u <;> simp_all [Value.cells,isAgg,D.isAgg]
theorem Ht (hs:SR C φ s a.tmps) {i:Nat} {sh:Sh} {y:Operand} (ho:o.op=.move y∨o.op=.assign y) (hy:a.eval y=.slice none 0 0) (hi:s.h[i]? = some .hole) :
 OpGood P o a C φ s.h (.sl i [] 0 0 (some 0)) (s.h.set i (.sl false sh [])) K:=by
 obtain ⟨h1,h2⟩:=vv hs.hr hs.bd hi (w':=C.w) (B:=.sl false sh []) (l:=none) (fun _ _=>rfl) (ba _) rfl rfl rfl (by simp) (by simp [RB])
 refine ⟨C,φ.put i none,.slice none 0 0,_,by rcases ho with ho | ho <;> simp [execOp,ho,hy],.inl rfl,h1,?_,h2.mono (by simp)⟩
 have hil:i<s.h.length:=(ao.1 hi).1;simp only [RX];exact ⟨_,0,sh,0,none,0,b4 hil,by simp [Blk.run],by omega,rfl,by omega,by simp,by simp⟩
theorem Cx.plus_nil (C:Cx) {S:Nat→Prop} (h:∀b,¬ S b):(C.plus S).Le C:=⟨rfl,fun b g=>g.resolve_right (h b),fun _ _=>rfl⟩
theorem ox (hr:HR C φ s.h) (hb:∀b,C.I b→b<C.w.heap.size) {fz:Bool} {is:List Nat} {h':Heap} (hf:freezeIf fz s.h is=some h') :
 ∃C',Step C C' φ φ s.h h'∧Keeps C C' φ φ s.h h' (fun _=>False)∧(C.plus (y9 φ s.h is)).Le C'∧C'.w=C.w∧C'.num=C.num:=by
 unfold freezeIf at hf;cases fz
 ·simp only [b5,if_false] at hf
  by_cases he:is.isEmpty=true
  ·rw [if_pos he,ab] at hf
   subst hf;have:is=[]:=by simpa using he
   subst this;exact ⟨C,.refl hr hb,Keeps.refl _ _ _ _,C.plus_nil (by rintro b ⟨i,hi,_⟩; simp at hi),rfl,rfl⟩
  ·rw [if_neg he] at hf; cases hf
 ·simp only [if_true,ab] at hf
  subst hf;obtain ⟨h1,h2⟩:=I6 hr hb is;exact ⟨_,h1,h2,.refl _,rfl,rfl⟩
theorem dk {h:Heap} {i:Nat} {B:Blk} {h':Heap} (e:i8 h i B=some h'):h[i]? = some .hole∧h'=h.set i B:=by
 unfold i8 at e
 split at e
 ·rename_i hi; exact ⟨hi,(au e).symm⟩
 ·cases e
theorem pz (w:World) (ob:Obj):(w.alloc ob).heap[w.heap.size]? = some ob:=by
 show (w.heap.push ob)[w.heap.size]? = _;simp
theorem Co (hr:HR C φ s.h) (hb:∀b,C.I b→b<C.w.heap.size) {i:Nat} {x:D} {cs:Array Value} (t:TypeId) (hd:RD C x cs.toList) (hi:s.h[i]? = some .hole) :
 Step C { C with w:=C.w.alloc (.cells cs t (0,0)) } φ (φ.put i (some (C.w.heap.size,0))) s.h (s.h.set i (.box false x)) ∧
 Keeps C { C with w:=C.w.alloc (.cells cs t (0,0)) } φ (φ.put i (some (C.w.heap.size,0))) s.h (s.h.set i (.box false x)) (fun _=>False) ∧
 RX { C with w:=C.w.alloc (.cells cs t (0,0)) } (φ.put i (some (C.w.heap.size,0))) (s.h.set i (.box false x)) (.ptr i []) (.pointer (some ⟨C.w.heap.size,0,none⟩)):=by
 have hC:C.Le { C with w:=C.w.alloc (.cells cs t (0,0)) }:=⟨rfl,fun _ g=>g,fun b g=>dz _ _ _ (hb b g)⟩
 have hB:RB { C with w:=C.w.alloc (.cells cs t (0,0)) } (.box false x) (fun _=>some (C.w.heap.size,0)):=by
  simp only [RB];refine ⟨_,_,cs.toList,rfl,RD.mono hC _ _ hd,?_⟩;simp only [RAt,b5,if_false];refine ⟨fun g=>by have:=hb _ g; omega,cs,t,pz _ _,fun j u hj=>?_⟩
  rw [b9]; simpa using hj
 obtain ⟨h1,h2⟩:=vv hr hb hi (w':=C.w.alloc (.cells cs t (0,0))) (B:=.box false x) (l:=some (C.w.heap.size,0))
  (fun b hbl=>dz _ _ _ hbl) (by simp) rfl rfl rfl (by intro b o e; simp only [ab,al] at e; omega) hB
 refine ⟨h1,h2,?_⟩;have hil:i<s.h.length:=(ao.1 hi).1;simp only [RX];exact ⟨_,_,_,(0,x.sh),b4 hil,by simp [Loc.put],by simp only [Blk.off]; cases x <;> rfl,rfl⟩
theorem a7g (hs:SR C φ s a.tmps) {fz:Bool} {i:Nat} {x:Arg} {t:TypeId} {y:Operand} (ho:o.op=.box t y) (hok:ck C.num x y=true)
 {v:V} (hv:s.e.arg x=some v) {d:D} (hd:toD s.h v=some d) (hnt:d.isTup=false) {h1:Heap} (hf:freezeIf fz s.h v.refs=some h1) (hi:h1[i]? = some .hole) :
 OpGood P o a C φ s.h (.ptr i []) (h1.set i (.box false d)) K:=by
 have hx:=v5 hs.hr v d _ hd (c6 hs hok hv);obtain ⟨C1,st1,k1,hle,hw,_⟩:=ox hs.hr hs.bd hf;obtain ⟨ha,hcells⟩:=(RV.mono hle _ _ hx).notTup hnt;obtain ⟨st2,k2,hp⟩:=Co (C:=C1) (s:=⟨s.e,h1⟩) st1.hr st1.bd t hcells hi;refine ⟨_,_,_,_,?_,.inl rfl,st1.trans st2,hp,(k1.trans k2).mono (by simp)⟩
 simp only [execOp,ho,Instr.box,newVar,newRow,newObj,Sem.run_bind,Sem.run_pure,Result.andThen_ok,Sem.run,hw];rfl
def o6 (P:Program) (t:TypeId) (z:D):Bool:=
 match P.info? t with
 | some i=>match i.zero with
  | some v=>E7 z v
  | none=>false
 | none=>false
theorem pr {t:TypeId} {z:D} (h:o6 P t z=true):∃i v,P.info? t=some i∧i.zero=some v∧(∀w,(zeroValue t).run P w=.ok v w)∧(∀C,RV C z v)∧z.isTup=false:=by
 unfold o6 at h;cases hi:P.info? t with
 | none=>simp [hi] at h
 | some i=>
  rw [hi] at h;simp only at h;cases hz:i.zero with
  | none=>simp [hz] at h
  | some v=>
   rw [hz] at h;refine ⟨i,v,rfl,hz,fun w=>by simp [zeroValue,typeInfo,hi,hz],fun C=>Lp h,?_⟩
   cases z <;> simp_all [E7,enc,D.isTup]
theorem Wd (hs:SR C φ s a.tmps) {fz:Bool} {i:Nat} {z:D} {t:TypeId} (ho:o.op=.alloc t) (hz:o6 P t z=true)
 {h1:Heap} (hf:freezeIf fz s.h (V.refs (.d z))=some h1) (hi:h1[i]? = some .hole) :
 OpGood P o a C φ s.h (.ptr i []) (h1.set i (.box false z)) K:=by
 obtain ⟨inf,u,hinf,hiz,hrun,hzv,hnt⟩:=pr hz;obtain ⟨C1,st1,k1,hle,hw,_⟩:=ox hs.hr hs.bd hf;obtain ⟨ha,hcells⟩:=(hzv C1).notTup hnt;obtain ⟨st2,k2,hp⟩:=Co (C:=C1) (s:=⟨s.e,h1⟩) st1.hr st1.bd t hcells hi;refine ⟨_,_,_,_,?_,.inl rfl,st1.trans st2,hp,(k1.trans k2).mono (by simp)⟩
 simp only [execOp,ho,Instr.alloc,Sem.run_bind,hrun,newVar,newRow,newObj,Sem.run_pure,Result.andThen_ok,Sem.run,hw];rfl
theorem Oi (hs:SR C φ s a.tmps) {sh:Sh} {x:Arg} {t:TypeId} {y:Operand} (ho:o.op=.load t y) (hok:ck C.num x y=true) (ht:nj P t sh=true) {d:D}
 (hv:(s.e.arg x=some (.d (.ip d))∧d.sh=sh)∨∃i p B,s.e.arg x=some (.ptr i p)∧s.h[i]? = some B∧B.get p=some d∧d.sh=sh) :
 OpGood P o a C φ s.h (.d d) s.h K:=by
 rcases hv with ⟨hv,rfl⟩ | ⟨i,p,B,hv,hB,hg,rfl⟩
 ·obtain ⟨b,off,us,e,_,hd,hc⟩:=Tg (c6 hs hok hv)
  obtain ⟨u,hrun,hu⟩:=Me (P:=P) ht hc hd;exact cg hs (u:=u) (by simp [execOp,ho,e,hrun]) (by simpa only [RX] using hu)
 ·have h1:=c6 hs hok hv
  simp only [RX] at h1;obtain ⟨B',b,off,q,hB',hφ,hq,e⟩:=h1;obtain rfl:B=B':=au (hB.symm.trans hB');obtain ⟨b',o',off',cs,hφ',ho',hx,hc⟩:=zo (hs.hr.blk i B hB) hg;obtain ⟨rfl,rfl⟩:b=b'∧off=o':=by simpa using hφ.symm.trans hφ'
  have e2:=hq.symm.trans ho';simp only [ab] at e2;subst e2;obtain ⟨u,hrun,hu⟩:=Me (P:=P) ht hc hx;exact cg hs (u:=u) (by simp [execOp,ho,e,hrun]) (by simpa only [RX] using hu)
theorem a15 {C:Cx} {t:Sh} {xs:List D} {cs us:List Value} {i:Nat} {p:List Nat} {z z' y:D} (hd:RDs C t xs cs) (hz:xs[i]? = some z) (hu:RD C y us) (hz':z.set p y=some z') :
 ∃off,t.off p=some (off,y.sh)∧RDs C t (xs.set i z') (kw cs (i*t.size+off) us)∧i*t.size+off+us.length≤cs.length:=by
 obtain ⟨h1,h2,h3⟩:=uv hd hz;obtain ⟨off,ho,hsh,hx,hle⟩:=Qs p h2 hu hz';have hil:i<xs.length:=(ao.1 hz).1;have hle':off+us.length≤t.size:=by rw [b8] at hle; omega
 have hx':=J9 hd hil (hsh.trans h1) hx;rw [H3 _ _ _ _ _ h3 hle'] at hx';exact ⟨off,by rw [←h1]; exact ho,hx',by omega⟩
theorem abs {B B':Blk} {l:Nat→Option (Nat×Nat)} {b o0:Nat} {p:List Nat} {y:D} {us:List Value} (h:RB C B l) (hl:l (B.part p)=some (b,o0)) (hu:RD C y us) (h0:0<us.length) (hset:B.set p y=some B') :
 ∃off arr el,B.own=true∧B'.parts=B.parts∧B.part p<B.parts∧B.alike B'∧B.off p=some (off,y.sh)∧C.w.heap[b]? = some (.cells arr el (0,0))∧o0+off+us.length≤arr.size ∧
  ∀w':World,C.Le { C with w:=w' }→¬ C.I b→(∀k,k≠b→w'.heap[k]? = C.w.heap[k]?)→(∀k,Wide C.w w' k)→(∀k b' o',k<B.parts→k≠B.part p→l k=some (b',o')→b'≠b) →
   (∀arr',w'.heap[b]? = some (.cells arr' el (0,0))→(∀j,arr'[j]? = if o0+off≤j∧j<o0+off+us.length then us[j-(o0+off)]? else arr[j]?)→RB { C with w:=w' } B' l):=by
 have hin:∀(cs:List Value) (off:Nat) (arr:Array Value),(∀(j:Nat) u,cs[j]? = some u→arr[o0+j]? = some u)→off+us.length≤cs.length→0<us.length→o0+off+us.length≤arr.size:=by
  intro cs off arr hc hle h0;have:=hc (off+us.length-1) _ (ac (by omega))
  have:=(ch.1 this).1;omega
 have hafter:∀(cs:List Value) (off:Nat) (arr arr':Array Value),(∀(j:Nat) u,cs[j]? = some u→arr[o0+j]? = some u)→off+us.length≤cs.length →
  (∀j,arr'[j]? = if o0+off≤j∧j<o0+off+us.length then us[j-(o0+off)]? else arr[j]?)→∀(j:Nat) u,(kw cs off us)[j]? = some u→arr'[o0+j]? = some u:=by
  intro cs off arr arr' hc hle he j u hj;rw [nu _ _ _ _ hle] at hj;rw [he]
  by_cases h1:j<off
  ·rw [if_pos h1] at hj
   rw [if_neg (by omega)]; exact hc j u hj
  ·rw [if_neg h1] at hj
   by_cases h2:j<off+us.length
   ·rw [if_pos h2] at hj
    rw [if_pos (by omega),show o0+j-(o0+off)=j-off by omega]; exact hj
   ·rw [if_neg h2] at hj
    rw [if_neg (by omega)]; exact hc j u hj
 cases B with
 | hole=>simp [Blk.set] at hset
 | gone _ _ _=>simp [Blk.set] at hset
 | box fr d=>
  cases fr
  ·simp only [Blk.set] at hset
   obtain ⟨d',hd',rfl⟩:=ae.1 hset;simp only [RB] at h;obtain ⟨b',o',cs,e,hd,ha⟩:=h;obtain ⟨rfl,rfl⟩:b=b'∧o0=o':=by simpa using hl.symm.trans e
   simp only [RAt,b5,if_false] at ha;obtain ⟨hnI,arr,el,hw,hc⟩:=ha;obtain ⟨off,ho,hsh,hx,hle⟩:=Qs p hd hu hd';refine ⟨off,arr,el,rfl,rfl,by simp [Blk.part,Blk.parts],⟨fun q=>by simp only [Blk.off,hsh],fun q=>?_,fun q=>rfl⟩,by simpa [Blk.off] using ho,hw,?_,?_⟩
   ·cases q <;> simp only [Blk.run,Blk.off,hsh]
   ·exact hin cs off arr hc hle h0
   ·intro w' hC hnI' _ _ _ arr' hw' he
    simp only [RB];refine ⟨b,o0,kw cs off us,e,RD.mono hC _ _ hx,?_⟩;simp only [RAt,b5,if_false];exact ⟨hnI',arr',el,hw',hafter cs off arr arr' hc hle he⟩
  ·simp [Blk.set] at hset
 | sl fr t xs=>
  cases p with
  | nil=>cases fr <;> simp [Blk.set] at hset
  | cons i p=>
   cases fr
   ·simp only [Blk.set] at hset
    obtain ⟨z,hz,hset⟩:=aa.1 hset;obtain ⟨z',hz',rfl⟩:=ae.1 hset;simp only [Blk.part] at hl;simp only [RB,hl] at h;obtain ⟨cs,hd,ha⟩:=h;simp only [RAt,b5,if_false] at ha;obtain ⟨hnI,arr,el,hw,hc⟩:=ha;obtain ⟨off,ho,hx',hle2⟩:=a15 hd hz hu hz';have hil:i<xs.length:=(ao.1 hz).1;refine ⟨i*t.size+off,arr,el,rfl,rfl,by simp [Blk.part,Blk.parts],⟨fun q=>?_,fun q=>?_,fun q=>rfl⟩,?_,hw,?_,?_⟩
    ·cases q <;> simp [Blk.off]
    ·cases q <;> simp [Blk.run,Blk.off]
    ·simp only [Blk.off,if_pos hil,ho]; rfl
    ·exact hin cs _ arr hc hle2 h0
    ·intro w' hC hnI' _ _ _ arr' hw' he
     simp only [RB,hl];refine ⟨kw cs (i*t.size+off) us,RDs.mono hC _ _ _ hx',?_⟩;simp only [RAt,b5,if_false];exact ⟨hnI',arr',el,hw',hafter cs _ arr arr' hc hle2 he⟩
   ·simp [Blk.set] at hset
 | mp fr es=>cases p <;> simp [Blk.set] at hset
 | tb fr t idx rows=>
  cases fr
  ·match p,hset with
   | [],hset=>simp [Blk.set] at hset
   | 0::_,hset=>simp [Blk.set] at hset
   | [_+1],hset=>simp [Blk.set] at hset
   | (r+1)::i::p,hset=>
    simp only [Blk.set] at hset;obtain ⟨xs,hr,hset⟩:=aa.1 hset;obtain ⟨z,hz,hset⟩:=aa.1 hset;obtain ⟨z',hz',rfl⟩:=ae.1 hset;simp only [Blk.part] at hl;simp only [RB] at h;obtain ⟨⟨b1,o1,cs1,e1,ha1,hp1⟩,h2⟩:=h;obtain ⟨b',o',cs,e,hd,ha⟩:=h2 r xs hr;obtain ⟨rfl,rfl⟩:b=b'∧o0=o':=by simpa using hl.symm.trans e
    simp only [RAt,b5,if_false] at ha;obtain ⟨hnI,arr,el,hw,hc⟩:=ha;obtain ⟨off,ho,hx',hle2⟩:=a15 hd hz hu hz';have hil:i<xs.length:=(ao.1 hz).1;have hrl:r<rows.length:=(ao.1 hr).1
    have hrow:∀q:Nat,((rows.set r (xs.set i z'))[q]?).map List.length=(rows[q]?).map List.length:=by
     intro q
     by_cases hq:r=q
     ·subst hq
      rw [b4 hrl,hr]; simp
     ·rw [b7 hq]
    have hoff:∀q,(Blk.tb false t idx (rows.set r (xs.set i z'))).off q=(Blk.tb false t idx rows).off q:=by
     intro q
     match q with
     | []=>rfl
     | [0]=>rfl
     | [_+1]=>rfl
     | 0::k::q=>rfl
     | (m+1)::k::q=>
      simp only [Blk.off];have:=hrow m;cases h1:rows[m]? with
      | none=>rw [h1] at this; simp at this; simp [this]
      | some ys=>
       rw [h1] at this;cases h2:(rows.set r (xs.set i z'))[m]? with
       | none=>rw [h2] at this; simp at this
       | some ys'=>rw [h2] at this; simp at this; simp [this]
    refine ⟨i*t.size+off,arr,el,rfl,by simp [Blk.parts],by simp only [Blk.part,Blk.parts]; omega,⟨hoff,fun q=>?_,fun q=>by cases q <;> rfl⟩,?_,hw,?_,?_⟩
    ·match q with
     | []=>rfl
     | [0]=>rfl
     | [m+1]=>
      simp only [Blk.run];have:=hrow m;cases h1:rows[m]? with
      | none=>rw [h1] at this; simp at this; simp [this]
      | some ys=>
       rw [h1] at this;cases h2:(rows.set r (xs.set i z'))[m]? with
       | none=>rw [h2] at this; simp at this
       | some ys'=>rw [h2] at this; simp at this; simp [this]
     | 0::k::q=>simp only [Blk.run,hoff]
     | (m+1)::k::q=>simp only [Blk.run,hoff]
    ·simp only [Blk.off,hr,ah,if_pos hil,ho]; rfl
    ·exact hin cs _ arr hc hle2 h0
    ·intro w' hC hnI' hoth hwd hinj arr' hw' he
     have hb1:b1≠b:=hinj 0 b1 o1 (by simp [Blk.parts]) (by simp [Blk.part]) e1
     simp only [RB];refine ⟨⟨b1,o1,cs1,e1,ha1.world' (C:=C) mh (hoth b1 hb1),hp1.1,fun k q hk=>?_⟩,fun q ys hy=>?_⟩
     ·obtain ⟨ys',b2,o2,c,Ii,el2,fz2,hy',g1,g2,g3,g4,g5⟩:=hp1.2 k q hk
      have:=hrow q;rw [hy',bc] at this;obtain ⟨ys,hy,hlen⟩:=ae.1 this;obtain ⟨arr3,el3,fz3,g6,g7⟩:=hwd b2 Ii el2 fz2 g4;exact ⟨ys,b2,o2,c,arr3,el3,fz3,hy,g1,by rw [hlen]; exact g2,by omega,g6,by omega⟩
     ·by_cases hq:r=q
      ·subst hq
       rw [b4 hrl] at hy;obtain rfl:=au hy;refine ⟨b,o0,_,e,RDs.mono hC _ _ _ hx',?_⟩;simp only [RAt,b5,if_false];exact ⟨hnI',arr',el,hw',hafter cs _ arr arr' hc hle2 he⟩
      ·rw [b7 hq] at hy
       obtain ⟨b2,o2,cs2,q1,q2,q3⟩:=h2 q ys hy;have hql:=(ao.1 hy).1;have hb2:b2≠b:=hinj (q+1) b2 o2 (by simp only [Blk.parts]; omega) (by simp only [Blk.part]; omega) q1
       exact ⟨b2,o2,cs2,q1,RDs.mono hC _ _ _ q2,q3.world' (C:=C) mh (hoth b2 hb2)⟩
  ·match p,hset with
   | [],hset=>simp [Blk.set] at hset
   | [_],hset=>simp [Blk.set] at hset
   | _::_::_,hset=>simp [Blk.set] at hset
theorem Xc (hs:SR C φ s a.tmps) {fz:Bool} {sh:Sh} {x y:Arg} {t:TypeId} {x' y':Operand} (ho:o.op=.store t x' y') (hdst:o.dst=none) (hx:ck C.num x x'=true) (hy:ck C.num y y'=true)
 (ht:nj P t sh=true) (hpos:0<sh.size) {v:V} (hv:s.e.arg y=some v) {d:D} (hd:toD s.h v=some d) (hnt:d.isTup=false) (hsh:d.sh=sh) {h1:Heap} (hf:freezeIf fz s.h v.refs=some h1)
 {i:Nat} {p:List Nat} (hp:s.e.arg x=some (.ptr i p)) {B B':Blk} (hB:h1[i]? = some B) (hset:B.set p d=some B') :
 OpGood P o a C φ s.h (.tup []) (h1.set i B') K:=by
 subst hsh;have hd0:=v5 hs.hr v d _ hd (c6 hs hy hv);obtain ⟨C1,st1,k1,hle,hw,hnum⟩:=ox hs.hr hs.bd hf;obtain ⟨ha,hcells⟩:=(RV.mono hle _ _ hd0).notTup hnt;have hptr:=k1 _ _ (by simp) (c6 hs hx hp)
 simp only [RX] at hptr;obtain ⟨B0,b,o0,q,hB0,hφ,hq,e⟩:=hptr;obtain rfl:B=B0:=au (hB.symm.trans hB0);have hrb:=st1.hr.blk i B hB;have hlen:=ji d _ hcells;obtain ⟨off,arr,el,hown,hown',hpt,hal,hoff,hwb,hsz,hafter⟩:=abs hrb hφ hcells (by omega) hset
 have e2:=hq.symm.trans hoff;simp only [ab] at e2;subst e2;have hrun:=a3u (P:=P) (C:=C1) (o:=o0+off) ht ⟨ha,hcells⟩ hwb (by omega)
 obtain ⟨arr',hw',hsz',he⟩:=mb b (a.eval y').cells.toList (o0+off) C1.w arr el (0,0) hwb (by omega)
 have hnI:¬ C1.I b:=OwnB.not_I st1.hr ⟨i,_,B,o0,hB,hown,hpt,hφ⟩;obtain ⟨r1,r2,r3,r4⟩:=nk b (a.eval y').cells.toList (o0+off) C1.w;have hC:C1.Le { C1 with w:=C1.w.setCells b (o0+off) (a.eval y').cells.toList }:=⟨rfl,fun _ g=>g,fun k g=>fi b _ _ _ k fun e=>hnI (e▸g)⟩
 have hwide:Wide C1.w (C1.w.setCells b (o0+off) (a.eval y').cells.toList) b:=fun Ii el2 fz2 h2=>by
  rw [hwb] at h2;simp only [ab,Obj.cells.injEq] at h2;obtain ⟨rfl,rfl,rfl⟩:=h2;exact ⟨arr',el,_,hw',by omega⟩
 have hwd:∀k,Wide C1.w (C1.w.setCells b (o0+off) (a.eval y').cells.toList) k:=fun k=>by
  by_cases hk:k=b
  ·subst hk; exact hwide
  ·exact .of_eq (fi b _ _ _ k hk)
 obtain ⟨st2,k2⟩:=wk st1.hr st1.bd hB hown hpt hφ hown' (fun k hk=>fi b (a.eval y').cells.toList (o0+off) C1.w k hk) r1 r2 r3 r4
  hwide
  (hafter _ hC hnI (fun k hk=>fi b _ _ _ k hk) hwd (fun k b' o' hk hne hφ' e=>st1.hr.inj i i k _ B B b o' o0 (.inr hne) hB hB hown hown hk hpt (e▸hφ') hφ) arr' hw' he) (K:=fun _=>False) (.inr hal)
 refine ⟨_,_,.tuple #[],_,?_,.inr ⟨rfl,hdst⟩,st1.trans st2,by simp [RX,RXs],(k1.trans k2).mono (by simp)⟩
 simp only [execOp,ho,e,Sem.run_bind,←hw,hrun,Result.andThen_ok,Sem.run_pure]
end
section
variable {C:Cx} {φ:Loc} {s:St} {a:Act} {o:Oper} {K:Nat→Prop}
theorem aix {d:D} {u:Value} (h:RX C φ s.h (.d d) u):RV C d u:=by simpa only [RX] using h
theorem a2b (hs:SR C φ s a.tmps) {op:BinOp} {k:IntKind} {x y:Int} {t yt:TypeId} {x' y':Operand} (ho:o.op=.binOp op t x' y' yt) (hx:a.eval x'=.int k x) (hy:a.eval y'=.int k y)
 {d:D} (hd:wv op k x y=some d) (hsh:op≠.shl∧op≠.shr):OpGood P o a C φ s.h (.d d) s.h K:=by
 have hg:∀op t x' y',(eqGuard op t x' y' (.int k x) (.int k y)).run P C.w=.ok () C.w:=by
  intro op t x' y';unfold eqGuard;cases op <;> simp
 cases op <;> simp only [wv,ab,reduceCtorEq] at hd
 case add=>subst hd; exact cg hs (u:=_) (by simp [execOp,ho,hx,hy,hg,binOp,Go.Op.intArith]) (gh ..)
 case sub=>subst hd; exact cg hs (u:=_) (by simp [execOp,ho,hx,hy,hg,binOp,Go.Op.intArith]) (gh ..)
 case mul=>subst hd; exact cg hs (u:=_) (by simp [execOp,ho,hx,hy,hg,binOp,Go.Op.intArith]) (gh ..)
 case quo=>
  by_cases h0:y=0
  ·rw [if_pos h0] at hd; cases hd
  ·rw [if_neg h0,ab] at hd; subst hd
   exact cg hs (u:=_) (by simp [execOp,ho,hx,hy,hg,binOp,Go.Op.intDiv,h0]) (gh ..)
 case rem=>
  by_cases h0:y=0
  ·rw [if_pos h0] at hd; cases hd
  ·rw [if_neg h0,ab] at hd; subst hd
   exact cg hs (u:=_) (by simp [execOp,ho,hx,hy,hg,binOp,Go.Op.intDiv,h0]) (gh ..)
 case and=>subst hd; exact cg hs (u:=_) (by simp [execOp,ho,hx,hy,hg,binOp,Go.Op.intBits]) (gh ..)
 case or=>subst hd; exact cg hs (u:=_) (by simp [execOp,ho,hx,hy,hg,binOp,Go.Op.intBits]) (gh ..)
 case xor=>subst hd; exact cg hs (u:=_) (by simp [execOp,ho,hx,hy,hg,binOp,Go.Op.intBits]) (gh ..)
 case eql=>subst hd; exact cg hs (u:=_) (by simp [execOp,ho,hx,hy,hg,binOp,Go.Op.intCmp]; rfl) (by rw [show (x == y)=decide (x=y) from rfl]; exact kl ..)
 case neq=>subst hd; exact cg hs (u:=_) (by simp [execOp,ho,hx,hy,hg,binOp,Go.Op.intCmp]; rfl) (by rw [show (x != y) = !decide (x=y) from rfl]; exact kl ..)
 case lss=>subst hd; exact cg hs (u:=_) (by simp [execOp,ho,hx,hy,hg,binOp,Go.Op.intCmp]) (kl ..)
 case leq=>subst hd; exact cg hs (u:=_) (by simp [execOp,ho,hx,hy,hg,binOp,Go.Op.intCmp]) (kl ..)
 case gtr=>subst hd; exact cg hs (u:=_) (by simp [execOp,ho,hx,hy,hg,binOp,Go.Op.intCmp]) (kl ..)
 case geq=>subst hd; exact cg hs (u:=_) (by simp [execOp,ho,hx,hy,hg,binOp,Go.Op.intCmp]) (kl ..)
theorem L7 (hs:SR C φ s a.tmps) {op:BinOp} {k yk:IntKind} {x y:Int} {t yt:TypeId} {x' y':Operand} (ho:o.op=.binOp op t x' y' yt) (hx:a.eval x'=.int k x) (hy:a.eval y'=.int yk y)
 {d:D} (hd:Dt op k x y=some d) (hop:op=.shl∨op=.shr):OpGood P o a C φ s.h (.d d) s.h K:=by
 unfold Dt at hd
 by_cases h0:y<0
 ·rw [if_pos h0] at hd; cases hd
 ·rw [if_neg h0] at hd
  rcases hop with rfl | rfl <;> simp only [ab] at hd <;> subst hd <;>
   exact cg hs (u:=_) (by simp [execOp,ho,hx,hy,eqGuard,binOp,Go.Op.shift,h0]) (gh ..)
theorem ac0 (hs:SR C φ s a.tmps) {op:UnOp} {t:TypeId} {x:Arg} {x':Operand} (ho:o.op=.unOp op t x') (hok:ck C.num x x'=true) {d r:D} (hv:s.e.arg x=some (.d d)) (hd:unD op d=some r) :
 OpGood P o a C φ s.h (.d r) s.h K:=by
 have h1:=c6 hs hok hv;cases op <;> cases d <;> simp only [unD,reduceCtorEq,ab] at hd
 case neg.int k n=>
  subst hd;exact cg hs (u:=_) (by simp [execOp,ho,mu h1,Go.Op.unary,Go.Op.intArith]; rfl) (by simpa using gh ..)
 case not.bool b=>
  subst hd;exact cg hs (u:=_) (by simp [execOp,ho,ze h1,Go.Op.unary]) (kl ..)
theorem a3t (hs:SR C φ s a.tmps) {src dst:TypeId} {k:IntKind} {x:Arg} {x':Operand} (ho:o.op=.convert src dst x') (hok:ck C.num x x'=true) (hsrc:(P.underlying src).isSome=true) (hdst:P.underlying dst=some (.int k))
 {q:IntKind} {n:Int} (hv:s.e.arg x=some (.d (.int q n))):OpGood P o a C φ s.h (.d (.int k (k.wrap n))) s.h K:=by
 have h1:=mu (c6 hs hok hv);obtain ⟨ds,hds⟩:=Option.isSome_iff_exists.1 hsrc;refine cg hs (u:=.int k (k.wrap n)) ?_ (gh ..);simp only [execOp,ho,h1,convert,Sem.run_bind,run_underlying hds,run_underlying hdst,Result.andThen_ok];cases ds <;> simp [Conv.intToInt]
theorem a78 (hs:SR C φ s a.tmps) {x y:Arg} {x' y':Operand} {ts:Array TypeId} (ho:o.op=.call { callee:=.builtin .max,args:=#[x',y'],argTypes:=ts }) (hx:ck C.num x x'=true) (hy:ck C.num y y'=true)
 {k:IntKind} {m n:Int} (hvx:s.e.arg x=some (.d (.int k m))) (hvy:s.e.arg y=some (.d (.int k n))):OpGood P o a C φ s.h (.d (.int k (if m<n then n else m))) s.h K:=by
 have h1:=mu (c6 hs hx hvx);have h2:=mu (c6 hs hy hvy);exact cg hs (u:=.int k (if m<n then n else m)) (by simp [execOp,ho,resolve,invoke,builtin,h1,h2,Builtin.max_,Builtin.max2]) (gh ..)
theorem a6r (hs:SR C φ s a.tmps) {x y:Arg} {x' y':Operand} {ts:Array TypeId} (ho:o.op=.call { callee:=.builtin .min,args:=#[x',y'],argTypes:=ts }) (hx:ck C.num x x'=true) (hy:ck C.num y y'=true)
 {k:IntKind} {m n:Int} (hvx:s.e.arg x=some (.d (.int k m))) (hvy:s.e.arg y=some (.d (.int k n))):OpGood P o a C φ s.h (.d (.int k (if n<m then n else m))) s.h K:=by
 have h1:=mu (c6 hs hx hvx);have h2:=mu (c6 hs hy hvy);exact cg hs (u:=.int k (if n<m then n else m)) (by simp [execOp,ho,resolve,invoke,builtin,h1,h2,Builtin.min_,Builtin.min2]) (gh ..)
theorem Ji (hs:SR C φ s a.tmps) {x:Arg} {x':Operand} {t:TypeId} (ho:o.op=.call { callee:=.builtin .len,args:=#[x'],argTypes:=#[t] }) (hok:ck C.num x x'=true)
 {n:Nat} (hv:((∃e,P.underlying t=some (.slice e))∧((∃sh cs,s.e.arg x=some (.d (.sl sh cs))∧n=cs.length)∨∃i p off cap,s.e.arg x=some (.sl i p off n cap))) ∨
  (P.underlying t=some .string∧∃b:ByteArray,s.e.arg x=some (.d (.str b))∧n=b.size)):OpGood P o a C φ s.h (.d (.int .i64 n)) s.h K:=by
 refine cg hs (u:=.int .i64 n) ?_ (gh ..);rcases hv with ⟨⟨e,he⟩,⟨sh,cs,hv,rfl⟩ | ⟨i,p,off,cap,hv⟩⟩ | ⟨ht,b,hv,rfl⟩
 ·obtain ⟨ad,c,h1,_⟩:=Np (c6 hs hok hv)
  simp [execOp,ho,resolve,invoke,builtin,h1,Builtin.len_,run_underlying he,goInt]
 ·have h1:=c6 hs hok hv
  simp only [RX] at h1;obtain ⟨B,base,sh,m,ad,c,_,_,_,h1,_⟩:=h1;simp [execOp,ho,resolve,invoke,builtin,h1,Builtin.len_,run_underlying he,goInt]
 ·have h1:=Qv (c6 hs hok hv)
  simp [execOp,ho,resolve,invoke,builtin,h1,Builtin.len_,run_underlying ht,goInt]
theorem Dc {x:Arg} {k:Nat} (h:(s.e.arg x).bind V.nat? = some k):∃q,s.e.arg x=some (.d (.int q k)):=by
 obtain ⟨v,hv,h⟩:=aa.1 h;unfold V.nat? at h
 split at h
 ·rename_i q n
  by_cases h0:0≤n
  ·rw [if_pos h0,ab] at h
   refine ⟨q,?_⟩;rw [hv,←h,Int.toNat_of_nonneg h0]
  ·rw [if_neg h0] at h; cases h
 ·cases h
theorem Bq {x:D} {t:TypeId} {w:World} (ht:nj P t x.sh=true) {arr:Array Value} {off:Nat} (hd:RD C x ((arr.toList.drop off).take x.sh.size)) (hle:off+x.sh.size≤arr.size) :
 ∃u,(part t arr off).run P w=.ok u w∧RV C x u:=by
 obtain ⟨i,hi,hsz⟩:=gz ht
 by_cases hs:x.sh=.leaf
 ·rw [hs] at ht
  obtain ⟨d,hu,hr⟩:=Hd ht;rw [hs,Sh.size] at hd hle
  have hagg:(Go.isAgg t).run P w=.ok false w:=by
   unfold Go.isAgg;rw [Sem.run_bind,run_underlying hu];cases d <;> simp_all [TypeDesc.isRow]
  have hlt:off<arr.size:=by omega
  have he:(arr.toList.drop off).take 1=[arr[off]]:=by
   rw [c8 (by simpa using hlt)]
   simp
  rw [he] at hd;have h1:=H4 x _ hd (arr[off]) (by simp)
  refine ⟨arr[off],?_,RV.mk ⟨?_,?_⟩⟩
  ·simp [part,hagg,mz hlt]
  ·have:x.isAgg=false:=by
    cases hy:x.isAgg
    ·rfl
    ·exact absurd hs ((D.isAgg_sh x).1 hy)
   rw [this]; cases hq:arr[off] <;> simp_all [one,isAgg]
  ·have:(arr[off]).cells.toList=[arr[off]]:=by cases hq:arr[off] <;> simp_all [one,Value.cells]
   rw [this]; exact hd
 ·obtain ⟨d,hu,hr⟩:=Ss ht hs
  have hagg:(Go.isAgg t).run P w=.ok true w:=by
   unfold Go.isAgg;rw [Sem.run_bind,run_underlying hu];cases d <;> simp_all [TypeDesc.isRow]
  refine ⟨.agg (arr.extract off (off+x.sh.size)),?_,RV.mk ⟨?_,?_⟩⟩
  ·simp [part,hagg,i7 hi,hsz]
  ·rw [(D.isAgg_sh x).2 hs]; rfl
  ·have:(arr.extract off (off+x.sh.size)).toList=(arr.toList.drop off).take x.sh.size:=by
    rw [Array.toList_extract,List.extract_eq_take_drop]
    congr 1
    omega
   simpa [Value.cells,this] using hd
theorem a9k {d:D} {u:Value} (ha:d.isAgg=true) (h:RX C φ s.h (.d d) u):∃arr,u=.agg arr∧RD C d arr.toList:=by
 have:=aix h;have hnt:d.isTup=false:=by cases d <;> simp_all [D.isAgg,D.isTup]
 obtain ⟨h1,h2⟩:=this.notTup hnt;rw [ha] at h1;cases u <;> simp [isAgg] at h1
 rename_i arr
 exact ⟨arr,rfl,by simpa [Value.cells] using h2⟩
theorem a5b (hs:SR C φ s a.tmps) {sh:Sh} {x j:Arg} {t e:TypeId} {n:Nat} {x' j':Operand} (ho:o.op=.index t x' j') (hx:ck C.num x x'=true) (hj:ck C.num j j'=true)
 (ht:P.underlying t=some (.array n e)) (he:nj P e sh=true) {m:Nat} {cs:List D} {k:Nat} {d:D} (hv:s.e.arg x=some (.d (.arr m sh cs))) (hnm:m=n) (hk:(s.e.arg j).bind V.nat? = some k) (hd:cs[k]? = some d) :
 OpGood P o a C φ s.h (.d d) s.h K:=by
 subst hnm;obtain ⟨q,hk'⟩:=Dc hk;have h2:=mu (c6 hs hj hk');obtain ⟨arr,h1,hrd⟩:=a9k rfl (c6 hs hx hv);simp only [RD] at hrd;obtain ⟨g1,g2,g3⟩:=uv hrd.2 hd;have hlt:k<m:=by rw [←hrd.1]; exact (ao.1 hd).1
 rw [←g1] at g2 g3 he;obtain ⟨u,hu,hru⟩:=Bq (P:=P) (C:=C) (w:=C.w) he g2 (by simpa using g3)
 obtain ⟨i,hi,hsz⟩:=gz he;refine cg hs (u:=u) ?_ (by simpa only [RX] using hru)
 simp [execOp,ho,h1,h2,Instr.index,asIntOf,run_underlying ht,hlt,i7 hi,hsz,hu]
theorem a3z (hs:SR C φ s a.tmps) {x j:Arg} {t:TypeId} {x' j':Operand} (ho:o.op=.index t x' j') (hx:ck C.num x x'=true) (hj:ck C.num j j'=true)
 (ht:P.underlying t=some .string) {b:ByteArray} {k:Nat} {c:UInt8} (hv:s.e.arg x=some (.d (.str b))) (hk:(s.e.arg j).bind V.nat? = some k) (hd:b[k]? = some c) :
 OpGood P o a C φ s.h (.d (.int .u8 c.toNat)) s.h K:=by
 obtain ⟨q,hk'⟩:=Dc hk;have h2:=mu (c6 hs hj hk');have h1:=Qv (c6 hs hx hv);refine cg hs (u:=.int .u8 c.toNat) ?_ (gh ..);simp [execOp,ho,h1,h2,Instr.index,asIntOf,run_underlying ht,hd]
def il (P:Program):Nat→List Field→List Sh→Bool
 | _,[],[]=>true
 | off,f::fs,sh::ss=>f.offset == off&&nj P f.type sh&&il P (off+sh.size) fs ss
 | _,_,_=>false
theorem uo:∀{fs:List Field} {ss:List Sh} {off:Nat} {j:Nat} {sh:Sh},il P off fs ss=true→ss[j]? = some sh →
 ∃f,fs[j]? = some f∧f.offset=off+Sh.sizes (ss.take j)∧nj P f.type sh=true
 | [],[],off,j,sh,_,h=>by simp at h
 | f::fs,t::ss,off,j,sh,hok,h=>by
  simp only [il,av,beq_iff_eq] at hok;cases j with
  | zero=>
   simp at h; subst h;exact ⟨f,rfl,by simp [Sh.sizes,hok.1.1],hok.1.2⟩
  | succ j=>
   simp at h;obtain ⟨g,h1,h2,h3⟩:=uo hok.2 h;exact ⟨g,by simpa using h1,by rw [h2,jf,Sh.sizes]; omega,h3⟩
 | [],_::_,_,_,_,hok,_=>by simp [il] at hok
 | _::_,[],_,_,_,hok,_=>by simp [il] at hok
theorem a6h (hs:SR C φ s a.tmps) {ss:List Sh} {x:Arg} {t:TypeId} {fs:Array Field} {j:Nat} {x':Operand} (ho:o.op=.field t x' j) (hx:ck C.num x x'=true)
 (ht:P.underlying t=some (.struct fs)) (hf:il P 0 fs.toList ss=true) {cs:List D} {d:D} (hv:s.e.arg x=some (.d (.st ss cs))) (hd:cs[j]? = some d) :
 OpGood P o a C φ s.h (.d d) s.h K:=by
 obtain ⟨arr,h1,hrd⟩:=a9k rfl (c6 hs hx hv);simp only [RD] at hrd;obtain ⟨sh,g0,g1,g2,g3⟩:=wa hrd hd;obtain ⟨f,f1,f2,f3⟩:=uo hf g0;rw [←g1] at g2 g3 f3;obtain ⟨u,hu,hru⟩:=Bq (P:=P) (C:=C) (w:=C.w) f3 g2 (by simpa using g3)
 refine cg hs (u:=u) ?_ (by simpa only [RX] using hru)
 have f1':fs[j]? = some f:=by simpa using f1
 rw [b9] at f2;simp [execOp,ho,h1,Instr.field,run_underlying ht,f1',asAgg,f2,hu]
theorem Ur (hs:SR C φ s a.tmps) {x:Arg} {j:Nat} {x':Operand} (ho:o.op=.extract x' j) (hx:ck C.num x x'=true) {v:V}
 (hv:(∃ds d,s.e.arg x=some (.d (.tup ds))∧ds[j]? = some d∧v=.d d)∨∃vs,s.e.arg x=some (.tup vs)∧vs[j]? = some v):OpGood P o a C φ s.h v s.h K:=by
 have get1:∀(xs:List D) (us:List Value) (j:Nat) (d:D),RVs C xs us→xs[j]? = some d→∃u,us[j]? = some u∧isAgg u=d.isAgg∧RD C d u.cells.toList:=by
  intro xs
  induction xs with
  | nil=>intro us j d _ h; simp at h
  | cons y ys ih=>
   intro us j d h hj;simp only [RVs] at h;obtain ⟨u,r,rfl,h1,h2,h3⟩:=h;cases j with
   | zero=>simp at hj; subst hj; exact ⟨u,rfl,h1,h2⟩
   | succ j=>simpa using ih r j d h3 (by simpa using hj)
 have get2:∀(xs:List V) (us:List Value) (j:Nat) (d:V),RXs C φ s.h xs us→xs[j]? = some d→∃u,us[j]? = some u∧RX C φ s.h d u:=by
  intro xs
  induction xs with
  | nil=>intro us j d _ h; simp at h
  | cons y ys ih=>
   intro us j d h hj;simp only [RXs] at h;obtain ⟨u,r,rfl,h1,h3⟩:=h;cases j with
   | zero=>simp at hj; subst hj; exact ⟨u,rfl,h1⟩
   | succ j=>simpa using ih r j d h3 (by simpa using hj)
 rcases hv with ⟨ds,d,hv,hd,rfl⟩ | ⟨vs,hv,hd⟩
 ·have h1:=aix (c6 hs hx hv)
  simp only [RV] at h1;obtain ⟨us,e,h1⟩:=h1;obtain ⟨u,hu,h2⟩:=get1 _ _ _ _ h1 hd;have hu':us[j]? = some u:=by simpa using hu
  exact cg hs (u:=u) (by simp [execOp,ho,e,Instr.extract,hu']) (by simp only [RX]; exact RV.mk h2)
 ·have h1:=c6 hs hx hv
  simp only [RX] at h1;obtain ⟨us,e,h1⟩:=h1;obtain ⟨u,hu,h2⟩:=get2 _ _ _ _ h1 hd;have hu':us[j]? = some u:=by simpa using hu
  exact cg hs (u:=u) (by simp [execOp,ho,e,Instr.extract,hu']) h2
theorem a2g (hs:SR C φ s a.tmps) {f:Nat} {xs ys:List Arg} {xs' ys':Array Operand} (ho:o.op=.makeFunc (.func (C.num f)) xs' ys') (hx:vz C.num xs xs'.toList=true) (hy:vz C.num ys ys'.toList=true)
 {us vs:List V} (hu:s.e.args xs=some us) (hv:s.e.args ys=some vs):OpGood P o a C φ s.h (.fn f us vs) s.h K:=by
 have h1:=zw hs hx hu;have h2:=zw hs hy hv;refine cg hs (u:=.func (.func (C.num f)) (xs'.map a.eval) (ys'.map a.eval)) (by simp [execOp,ho,Instr.makeFunc]) ?_
 simp only [RX];exact ⟨_,_,rfl,by simpa using h1,by simpa using h2⟩
end
section
variable {C:Cx} {φ:Loc} {s:St} {a:Act} {o:Oper} {K:Nat→Prop}
theorem Sh.off_append:∀(p q:List Nat) (s:Sh) (r:Nat×Sh),s.off p=some r→s.off (p++q)=(r.2.off q).map fun t=>(r.1+t.1,t.2)
 | [],q,s,r,h=>by
  have:r=(0,s):=by cases s <;> simpa [Sh.off] using h.symm
  subst this;simp
 | i::p,q,s,r,h=>by
  cases s with
  | leaf=>simp [Sh.off] at h
  | arr n t=>
   simp only [Sh.off] at h
   by_cases hi:i<n
   ·rw [if_pos hi] at h
    obtain ⟨r',hr',rfl⟩:=ae.1 h;rw [cz];simp only [Sh.off,if_pos hi,Sh.off_append p q t r' hr',Option.map_map]
    congr 1
    funext t; simp [fm]
   ·rw [if_neg hi] at h; cases h
  | st ss=>
   simp only [Sh.off] at h;cases hs:ss[i]? with
   | none=>simp [hs] at h
   | some t=>
    rw [hs] at h;obtain ⟨r',hr',rfl⟩:=ae.1 h;rw [cz];simp only [Sh.off,hs,Sh.off_append p q t r' hr',Option.map_map]
    congr 1
    funext t; simp [fm]
theorem Jm {t:Sh} {n i:Nat} {p q:List Nat} {r:Nat×Sh} (h:(if i<n then (t.off p).map fun q=>(i*t.size+q.1,q.2) else none)=some r) :
 (if i<n then (t.off (p++q)).map fun q=>(i*t.size+q.1,q.2) else none)=(r.2.off q).map fun t=>(r.1+t.1,t.2):=by
 by_cases hi:i<n
 ·rw [if_pos hi] at h ⊢
  obtain ⟨r',hr',rfl⟩:=ae.1 h;simp only [Sh.off_append p q t r' hr',Option.map_map]
  congr 1
  funext t; simp [fm]
 ·rw [if_neg hi] at h; cases h
theorem Blk.off_append {B:Blk} (hlv:B.live=true) {p q:List Nat} {r:Nat×Sh} (h:B.off p=some r):B.off (p++q)=(r.2.off q).map fun t=>(r.1+t.1,t.2):=by
 cases B with
 | hole=>simp [Blk.off] at h
 | gone _ _ _=>simp [Blk.live] at hlv
 | box fr d=>simp only [Blk.off] at h ⊢; exact Sh.off_append p q _ r h
 | sl fr t xs=>
  cases p with
  | nil=>simp [Blk.off] at h
  | cons i p=>
   simp only [Blk.off] at h;rw [cz];simp only [Blk.off];exact Jm h
 | mp fr es=>
  cases p with
  | nil=>
   simp only [Blk.off,ab] at h;subst h;cases q <;> simp [Blk.off,Sh.off]
  | cons i p=>simp [Blk.off] at h
 | tb fr s idx rows=>
  match p,h with
  | [],h=>simp [Blk.off] at h
  | [0],h=>simp [Blk.off] at h
  | [_+1],h=>simp [Blk.off] at h
  | 0::i::p,h=>
   simp only [Blk.off] at h;simp only [cz,Blk.off];have:=Jm (t:=.leaf) (n:=idx.length) (i:=i) (p:=p) (q:=q) (r:=r) (by simpa [Sh.size] using h)
   simpa [Sh.size] using this
  | (m+1)::i::p,h=>
   simp only [Blk.off] at h;obtain ⟨cs,hc,h⟩:=aa.1 h;simp only [cz,Blk.off,hc,ah];exact Jm h
theorem Blk.part_append {B:Blk} (hlv:B.live=true) {p:List Nat} (q:List Nat) (h:(∃r,B.off p=some r)∨∃r,B.run p=some r):B.part (p++q)=B.part p:=by
 cases B with
 | gone _ _ _=>simp [Blk.live] at hlv
 | tb fr s idx rows=>
  cases p with
  | nil=>rcases h with ⟨r,h⟩ | ⟨r,h⟩ <;> simp [Blk.run,Blk.off] at h
  | cons a p=>rfl
 | _=>simp [Blk.part]
theorem Blk.off_elem {B:Blk} (hlv:B.live=true) {p:List Nat} {base:Nat} {t:Sh} {m k:Nat} (h:B.run p=some (base,t,m)) (hk:k<m):B.off (p++[k])=some (base+k*t.size,t):=by
 have key:∀o,B.off p=some (o,.arr m t)→B.off (p++[k])=some (o+k*t.size,t):=by
  intro o ho;rw [Blk.off_append hlv ho];simp only [Sh.off,if_pos hk];cases t <;> simp []
 have gen:(match B.off p with | some (o,.arr n s)=>some (o,s,n) | _=>none)=some (base,t,m)→B.off (p++[k])=some (base+k*t.size,t):=by
  intro h
  split at h
  ·rename_i o n t' ho
   simp only [ab,al] at h;obtain ⟨rfl,rfl,rfl⟩:=h;exact key _ ho
  ·cases h
 cases B with
 | hole=>simp [Blk.run,Blk.off] at h
 | gone _ _ _=>simp [Blk.live] at hlv
 | box fr d=>exact gen h
 | sl fr t' xs=>
  cases p with
  | nil=>
   simp only [Blk.run,ab,al] at h;obtain ⟨rfl,rfl,rfl⟩:=h;simp only [cw,Blk.off,if_pos hk];cases t' <;> simp [Sh.off]
  | cons i p=>exact gen h
 | mp fr es=>cases p <;> simp [Blk.run,Blk.off] at h
 | tb fr s idx rows=>
  match p,h with
  | [],h=>simp [Blk.run,Blk.off] at h
  | [0],h=>
   simp only [Blk.run,ab,al] at h;obtain ⟨rfl,rfl,rfl⟩:=h;simp [Blk.off,hk,Sh.off,Sh.size]
  | [r+1],h=>
   simp only [Blk.run] at h;obtain ⟨cs,hc,h⟩:=ae.1 h;simp only [al] at h;obtain ⟨rfl,rfl,rfl⟩:=h;simp only [cz,cw,Blk.off,hc,ah,if_pos hk];cases s <;> simp [Sh.off]
  | 0::i::p,h=>exact gen h
  | (r+1)::i::p,h=>exact gen h
theorem La {B:Blk} {p:List Nat} {q:Sh×List D} (h:B.elems p=some q):B.live=true:=by
 cases B with
 | hole=>simp [Blk.elems,Blk.get] at h
 | gone _ _ _=>simp [Blk.elems,Blk.get] at h
 | _=>rfl
theorem ku (b o n:Nat):(⟨b,o,none⟩:Addr).add n=⟨b,o+n,none⟩:=Addr.add_mid b o n
theorem B9 (hs:SR C φ s a.tmps) {sh:Sh} {x j:Arg} {t e:TypeId} {x' j':Operand} (ho:o.op=.indexAddr t x' j') (hx:ck C.num x x'=true) (hj:ck C.num j j'=true)
 (he:nj P e sh=true) {k:Nat} (hk:(s.e.arg j).bind V.nat? = some k) {v:V}
 (hv:(P.underlying t=some (.slice e)∧((∃i p off n cap q B,s.e.arg x=some (.sl i p off n cap)∧s.h[i]? = some B∧B.elems p=some (sh,q)∧k<n∧v=.ptr i (p++[off+k])) ∨
  ∃cs c,s.e.arg x=some (.d (.sl sh cs))∧cs[k]? = some c∧v=.d (.ip c))) ∨
  ∃n,P.underlying t=some (.array n e)∧((∃i p B cs,s.e.arg x=some (.ptr i p)∧s.h[i]? = some B∧B.get p=some (.arr n sh cs)∧k<n∧v=.ptr i (p++[k])) ∨
   ∃cs c,s.e.arg x=some (.d (.ip (.arr n sh cs)))∧cs[k]? = some c∧v=.d (.ip c))):OpGood P o a C φ s.h v s.h K:=by
 obtain ⟨q,hk'⟩:=Dc hk;have h2:=mu (c6 hs hj hk');obtain ⟨inf,hinf,hsz⟩:=gz he;rcases hv with ⟨ht,⟨i,p,off,n,cap,xs,B,hv,hB,hE,hkn,rfl⟩ | ⟨cs,c,hv,hc,rfl⟩⟩ | ⟨n,ht,⟨i,p,B,cs,hv,hB,hg,hkn,rfl⟩ | ⟨cs,c,hv,hc,rfl⟩⟩
 ·have h1:=c6 hs hx hv
  simp only [RX] at h1;obtain ⟨B',base,t',m,ad,cc,hB',hrun,hm,e1,hlc,_,hloc⟩:=h1;obtain rfl:B=B':=au (hB.symm.trans hB');obtain ⟨base',hrun',_⟩:=Cf (hs.hr.blk i B hB) hE
  obtain ⟨rfl,rfl,rfl⟩:base'=base∧sh=t'∧xs.length=m:=by
   have:=hrun'.symm.trans hrun
   simpa using this
  obtain ⟨b,o',arr,el,fz,hφ,rfl,_,_⟩:=hloc (by omega)
  refine cg hs (u:=.pointer (some ⟨b,o'+base'+off*sh.size+k*sh.size,none⟩)) ?_ ?_
  ·simp [execOp,ho,e1,h2,Instr.indexAt,asIntOf,run_underlying ht,hkn,i7 hinf,hsz,ku]
  ·simp only [RX]
   refine ⟨B,b,o',(base'+(off+k)*sh.size,sh),hB,by rw [Blk.part_append (La hE) _ (.inr ⟨_,hrun⟩)]; exact hφ,Blk.off_elem (La hE) hrun (by omega),?_⟩
   rw [lr]
   congr 3; omega
 ·obtain ⟨ad,cc,e1,hlc,hloc⟩:=Np (c6 hs hx hv)
  have hlt:k<cs.length:=(ao.1 hc).1;rcases hloc with rfl | ⟨b,o',us,rfl,hI,hrd,hcell⟩
  ·simp at hlt
  ·obtain ⟨g1,g2,g3⟩:=uv hrd hc
   refine cg hs (u:=.pointer (some ⟨b,o'+k*sh.size,none⟩)) ?_ ?_
   ·simp [execOp,ho,e1,h2,Instr.indexAt,asIntOf,run_underlying ht,hlt,i7 hinf,hsz,ku]
   ·simp only [RX]
    refine RV.mk ⟨rfl,?_⟩;show RD C _ [_];simp only [RD];exact ⟨b,_,_,rfl,hI,g2,hcell.part _ _⟩
 ·have h1:=c6 hs hx hv
  simp only [RX] at h1;obtain ⟨B',b,o',r,hB',hφ,hr,e1⟩:=h1;obtain rfl:B=B':=au (hB.symm.trans hB');obtain ⟨b',o2,off',cs',hφ',ho',hx',hc'⟩:=zo (hs.hr.blk i B hB) hg;have er:=hr.symm.trans ho';simp only [ab] at er;subst er;refine cg hs (u:=.pointer (some ⟨b,o'+off'+k*sh.size,none⟩)) ?_ ?_
  ·simp [execOp,ho,e1,h2,Instr.indexAt,Instr.sureAddr,asIntOf,run_underlying ht,hkn,i7 hinf,hsz,ku]
  ·simp only [RX]
   refine ⟨B,b,o',(off'+k*sh.size,sh),hB,by rw [Blk.part_append (yi hg).1 _ (.inl ⟨_,hr⟩)]; exact hφ,?_,by simp [fm]⟩
   rw [Blk.off_append (yi hg).1 hr];simp only [D.sh,Sh.off,if_pos hkn];cases sh <;> simp []
 ·obtain ⟨b,o',us,e1,hI,hrd,hcell⟩:=Tg (c6 hs hx hv)
  simp only [RD] at hrd;obtain ⟨g1,g2,g3⟩:=uv hrd.2 hc;have hlt:k<n:=by rw [←hrd.1]; exact (ao.1 hc).1
  refine cg hs (u:=.pointer (some ⟨b,o'+k*sh.size,none⟩)) ?_ ?_
  ·simp [execOp,ho,e1,h2,Instr.indexAt,Instr.sureAddr,asIntOf,run_underlying ht,hlt,i7 hinf,hsz,ku]
  ·simp only [RX]
   refine RV.mk ⟨rfl,?_⟩;show RD C _ [_];simp only [RD];exact ⟨b,_,_,rfl,hI,g2,hcell.part _ _⟩
theorem Nv (hs:SR C φ s a.tmps) {ss:List Sh} {x:Arg} {t:TypeId} {fs:Array Field} {j:Nat} {x':Operand} (ho:o.op=.fieldAddr t x' j) (hx:ck C.num x x'=true)
 (ht:P.underlying t=some (.struct fs)) (hf:il P 0 fs.toList ss=true) (hj:∃sh,ss[j]? = some sh∧0<sh.size) {v:V}
 (hv:(∃i p B d,s.e.arg x=some (.ptr i p)∧s.h[i]? = some B∧B.get p=some d∧d.sh=.st ss∧v=.ptr i (p++[j])) ∨
  ∃cs c,s.e.arg x=some (.d (.ip (.st ss cs)))∧cs[j]? = some c∧v=.d (.ip c)):OpGood P o a C φ s.h v s.h K:=by
 obtain ⟨sh,hsj,hpos⟩:=hj;obtain ⟨f,f1,f2,f3⟩:=uo hf hsj;have f1':fs[j]? = some f:=by simpa using f1
 rw [b9] at f2;obtain ⟨inf,hinf,hsz⟩:=gz f3
 have hplace:∀b o',(fieldPlace ⟨b,o',none⟩ f).run P C.w=.ok ⟨b,o'+Sh.sizes (ss.take j),none⟩ C.w:=by
  intro b o';have:¬ inf.size=0:=by omega
  simp [fieldPlace,i7 hinf,this,ku,f2]
 rcases hv with ⟨i,p,B,d,hv,hB,hg,hd,rfl⟩ | ⟨cs,c,hv,hc,rfl⟩
 ·have h1:=c6 hs hx hv
  simp only [RX] at h1;obtain ⟨B',b,o',r,hB',hφ,hr,e1⟩:=h1;obtain rfl:B=B':=au (hB.symm.trans hB');obtain ⟨b',o2,off',cs',hφ',ho',hx',hc'⟩:=zo (hs.hr.blk i B hB) hg;have er:=hr.symm.trans ho';simp only [ab] at er;subst er;refine cg hs (u:=.pointer (some ⟨b,o'+off'+Sh.sizes (ss.take j),none⟩)) ?_ ?_
  ·simp [execOp,ho,e1,Instr.fieldAt,Instr.sureAddr,run_underlying ht,f1',hplace]
  ·simp only [RX]
   refine ⟨B,b,o',(off'+Sh.sizes (ss.take j),sh),hB,by rw [Blk.part_append (yi hg).1 _ (.inl ⟨_,hr⟩)]; exact hφ,?_,by simp [fm]⟩
   rw [Blk.off_append (yi hg).1 hr,hd];simp only [Sh.off,hsj];cases sh <;> simp []
 ·obtain ⟨b,o',us,e1,hI,hrd,hcell⟩:=Tg (c6 hs hx hv)
  simp only [RD] at hrd;obtain ⟨sh',g0,g1,g2,g3⟩:=wa hrd hc;refine cg hs (u:=.pointer (some ⟨b,o'+Sh.sizes (ss.take j),none⟩)) ?_ ?_
  ·simp [execOp,ho,e1,Instr.fieldAt,Instr.sureAddr,run_underlying ht,f1',hplace]
  ·simp only [RX]
   refine RV.mk ⟨rfl,?_⟩;show RD C _ [_];simp only [RD];exact ⟨b,_,_,rfl,hI,g2,hcell.part _ _⟩
def p9 (num:Nat→Nat):Option Arg→Option Operand→Bool
 | none,none=>true
 | some x,some y=>ck num x y
 | _,_=>false
theorem qh (hs:SR C φ s a.tmps) {x:Arg} {y:Operand} (hok:ck C.num x y=true) {k m:Nat} (hk:(s.e.arg x).bind V.nat? = some k) (hle:k≤m) (c:BoundsCode) :
 (Instr.sliceBound (a.eval y) m c).run P C.w=.ok k C.w:=by
 obtain ⟨q,hk'⟩:=Dc hk;have h2:=mu (c6 hs hok hk');have:(k:Int)≤(m:Int):=by omega
 simp [Instr.sliceBound,h2,asIntOf,hle]
theorem Ct (hs:SR C φ s a.tmps) {lo hi mx:Option Arg} {lo' hi' mx':Option Operand} (h1:p9 C.num lo lo'=true) (h2:p9 C.num hi hi'=true) (h3:p9 C.num mx mx'=true)
 {isS:Bool} {len cap l hh m:Nat} (hm:match mx with | some x=>(s.e.arg x).bind V.nat? = some m∧m≤cap∧hi.isSome=true | none=>m=cap)
 (hh2:match hi with | some x=>(s.e.arg x).bind V.nat? = some hh | none=>hh=len) (hl:match lo with | some x=>(s.e.arg x).bind V.nat? = some l | none=>l=0) (hle:l≤hh) (hle2:hh≤m) :
 (Instr.sliceBounds isS len cap (lo'.map a.eval) (hi'.map a.eval) (mx'.map a.eval)).run P C.w=.ok (l,hh,m) C.w:=by
 unfold Instr.sliceBounds;cases mx with
 | none=>
  cases mx' with
  | some _=>simp [p9] at h3
  | none=>
   simp only at hm; subst hm;cases hi with
   | none=>
    cases hi' with
    | some _=>simp [p9] at h2
    | none=>
     simp only at hh2; subst hh2;cases lo with
     | none=>
      cases lo' with
      | some _=>simp [p9] at h1
      | none=>simp only at hl; subst hl; simp
     | some lo=>
      cases lo' with
      | none=>simp [p9] at h1
      | some lo'=>simp [qh hs h1 hl hle]
   | some hi=>
    cases hi' with
    | none=>simp [p9] at h2
    | some hi'=>
     cases lo with
     | none=>
      cases lo' with
      | some _=>simp [p9] at h1
      | none=>simp only at hl; subst hl; simp [qh hs h2 hh2 hle2]
     | some lo=>
      cases lo' with
      | none=>simp [p9] at h1
      | some lo'=>simp [qh hs h2 hh2 hle2,qh hs h1 hl hle]
 | some mx=>
  cases mx' with
  | none=>simp [p9] at h3
  | some mx'=>
   simp only at hm;obtain ⟨hm1,hm2,hm3⟩:=hm;cases hi with
   | none=>simp at hm3
   | some hi=>
    cases hi' with
    | none=>simp [p9] at h2
    | some hi'=>
     cases lo with
     | none=>
      cases lo' with
      | some _=>simp [p9] at h1
      | none=>simp only at hl; subst hl; simp [qh hs h3 hm1 hm2,qh hs h2 hh2 hle2]
     | some lo=>
      cases lo' with
      | none=>simp [p9] at h1
      | some lo'=>simp [qh hs h3 hm1 hm2,qh hs h2 hh2 hle2,qh hs h1 hl hle]
def W1 (mx:Option Arg) (cap:Option Nat) (m l:Nat):Option Nat:=
 match mx with
 | some _=>some (m-l)
 | none=>cap.map (· - l)
theorem Er (hs:SR C φ s a.tmps) {sh:Sh} {x:Arg} {t e:TypeId} {x':Operand} {lo hi mx:Option Arg} {lo' hi' mx':Option Operand} (ho:o.op=.slice t x' lo' hi' mx') (hx:ck C.num x x'=true)
 (h1:p9 C.num lo lo'=true) (h2:p9 C.num hi hi'=true) (h3:p9 C.num mx mx'=true) (hmh:mx.isSome=true→hi.isSome=true) (he:nj P e sh=true) (hps:0<sh.size)
 {len l hh m:Nat} (hm:ee s.e mx len=some m) (hh2:ee s.e hi len=some hh) (hl:ee s.e lo 0=some l) (hle:l≤hh) (hle2:hh≤m) (hle3:m≤len) {v:V}
 (hv:(P.underlying t=some (.slice e)∧((∃cs,s.e.arg x=some (.d (.sl sh cs))∧len=cs.length∧v=.d (.sl sh ((cs.drop l).take (hh-l)))) ∨
  ∃i p off cap B q,s.e.arg x=some (.sl i p off len cap)∧s.h[i]? = some B∧B.elems p=some (sh,q)∧v=.sl i p (off+l) (hh-l) (W1 mx cap m l))) ∨
  (P.underlying t=some (.array len e)∧((∃i p B cs,s.e.arg x=some (.ptr i p)∧s.h[i]? = some B∧B.get p=some (.arr len sh cs)∧v=.sl i p l (hh-l) (some (m-l))) ∨
   ∃cs,s.e.arg x=some (.d (.ip (.arr len sh cs)))∧v=.d (.sl sh ((cs.drop l).take (hh-l)))))):OpGood P o a C φ s.h v s.h K:=by
 obtain ⟨inf,hinf,hsz⟩:=gz he
 -- the bounds,whatever the capacity is
 have hb:∀isS cap,len≤cap→∃m',(Instr.sliceBounds isS len cap (lo'.map a.eval) (hi'.map a.eval) (mx'.map a.eval)).run P C.w=.ok (l,hh,m') C.w∧hh≤m'∧m'≤cap∧(match mx with | some _=>m'=m | none=>m'=cap):=by
  intro isS cap hc;cases mx with
  | none=>
   refine ⟨cap,Ct hs h1 h2 h3 rfl ?_ ?_ hle (by omega),by omega,ba _,rfl⟩
   ·cases hi <;> first | simpa [ee] using hh2 | simpa [ee] using hh2.symm
   ·cases lo <;> first | simpa [ee] using hl | simpa [ee] using hl.symm
  | some mx=>
   refine ⟨m,Ct hs h1 h2 h3 ⟨by simpa [ee] using hm,by omega,hmh rfl⟩ ?_ ?_ hle hle2,hle2,by omega,rfl⟩
   ·cases hi <;> first | simpa [ee] using hh2 | simpa [ee] using hh2.symm
   ·cases lo <;> first | simpa [ee] using hl | simpa [ee] using hl.symm
 rcases hv with ⟨ht,⟨cs,hv,rfl,rfl⟩ | ⟨i,p,off,cap,B,q,hv,hB,hE,rfl⟩⟩ | ⟨ht,⟨i,p,B,cs,hv,hB,hg,rfl⟩ | ⟨cs,hv,rfl⟩⟩
 ·obtain ⟨ad,c,e1,hlc,hloc⟩:=Np (c6 hs hx hv)
  obtain ⟨m',hrun,hm1,hm2,_⟩:=hb true c hlc;have hlen:((cs.drop l).take (hh-l)).length=hh-l:=by rw [b8,ec]; omega
  refine cg hs (u:=.slice (if m'=l then ad else ad.map (·.add (l*sh.size))) (hh-l) (m'-l)) ?_ ?_
  ·simp [execOp,ho,e1,Instr.sliceAt,Instr.slice,run_underlying ht,hrun,i7 hinf,hsz]
  ·simp only [RX]
   refine RV.mk ⟨rfl,?_⟩;show RD C _ [_];simp only [RD];refine ⟨_,_,by rw [hlen],by rw [hlen]; omega,?_⟩
   by_cases h0:hh-l=0
   ·left; rw [h0]; simp
   ·right
    rcases hloc with rfl | ⟨b,o',us,rfl,hI,hrd,hcell⟩
    ·simp at hle3; omega
    ·refine ⟨b,o'+l*sh.size,_,?_,hI,qz (hh-l) (sq l hrd),hcell.part _ _⟩
     rw [if_neg (by omega),bc,ku]
 ·have g:=c6 hs hx hv
  simp only [RX] at g;obtain ⟨B',base,t',mm,ad,c,hB',hrunB,hmm,e1,hlc,hcap,hloc⟩:=g;obtain rfl:B=B':=au (hB.symm.trans hB');obtain ⟨base',hrun',_⟩:=Cf (hs.hr.blk i B hB) hE
  obtain ⟨rfl,rfl,rfl⟩:base'=base∧sh=t'∧q.length=mm:=by
   have:=hrun'.symm.trans hrunB
   simpa using this
  obtain ⟨m',hrun,hm1,hm2,hm3⟩:=hb true c hlc;refine cg hs (u:=.slice (if m'=l then ad else ad.map (·.add (l*sh.size))) (hh-l) (m'-l)) ?_ ?_
  ·simp [execOp,ho,e1,Instr.sliceAt,Instr.slice,run_underlying ht,hrun,i7 hinf,hsz]
  ·simp only [RX]
   refine ⟨B,base',sh,q.length,_,_,hB,hrunB,by omega,rfl,by omega,?_,?_⟩
   ·intro k hk
    cases mx with
    | none=>
     simp only [W1] at hk;obtain ⟨c',hc',rfl⟩:=ae.1 hk;simp only at hm3;rw [hm3,hcap c' hc']
    | some _=>
     simp only [W1,ab] at hk;simp only at hm3;omega
   ·intro hpos
    obtain ⟨b,o',arr,el,fz,hφ,rfl,hw,hsz'⟩:=hloc (by omega)
    refine ⟨b,o',arr,el,fz,hφ,?_,hw,?_⟩
    ·rw [if_neg (by omega),bc,ku,lr]
     congr 2; omega
    ·have:(off+l+(m'-l))*sh.size≤(off+c)*sh.size:=ff _ (by omega)
     omega
 ·have g:=c6 hs hx hv
  simp only [RX] at g;obtain ⟨B',b,o',r,hB',hφ,hr,e1⟩:=g;obtain rfl:B=B':=au (hB.symm.trans hB');obtain ⟨b',o2,off',us,hφ',ho',hx',hc'⟩:=zo (hs.hr.blk i B hB) hg;have er:=hr.symm.trans ho';simp only [ab] at er;subst er;obtain ⟨rfl,rfl⟩:b=b'∧o'=o2:=by simpa using hφ.symm.trans hφ'
  obtain ⟨m',hrun,hm1,hm2,hm3⟩:=hb false len (ba _)
  have hmm:m'=m:=by
   cases mx with
   | none=>simp only at hm3; simp [ee] at hm; omega
   | some _=>exact hm3
  subst hmm;simp only [RD] at hx';refine cg hs (u:=.slice (some (if m'=l then ⟨b,o'+off',none⟩ else ⟨b,o'+off'+l*sh.size,none⟩)) (hh-l) (m'-l)) ?_ ?_
  ·simp [execOp,ho,e1,Instr.sliceAt,Instr.sureAddr,run_underlying ht,hrun,i7 hinf,hsz,ku]
  ·obtain ⟨arr,el,fz,hw,hcc⟩:=hc'
   simp only [RX];refine ⟨B,off',sh,len,_,_,hB,?_,by omega,rfl,by omega,by simp,fun hpos=>⟨b,o',arr,el,fz,hφ,?_,hw,?_⟩⟩
   ·simp only [D.sh] at hr
    cases B with
    | hole=>simp [Blk.off] at hr
    | box fr d=>simp only [Blk.run,hr]
    | sl fr t2 xs=>
     cases p with
     | nil=>simp [Blk.off] at hr
     | cons k p=>simp only [Blk.run,hr]
    | mp fr es=>cases p <;> simp [Blk.off] at hr
    | gone _ _ _=>simp [Blk.get] at hg
    | tb fr t2 idx rows=>
     match p,hr with
     | [],hr=>simp [Blk.off] at hr
     | [0],hr=>simp [Blk.off] at hr
     | [_+1],hr=>simp [Blk.off] at hr
     | 0::_::_,hr=>simp only [Blk.run,hr]
     | (_+1)::_::_,hr=>simp only [Blk.run,hr]
   ·rw [if_neg (by omega)]
   ·have hl1:=n6 sh cs us hx'.2
    rw [hx'.1] at hl1;have hle4:(l+(m'-l))*sh.size≤len*sh.size:=ff _ (by omega)
    by_cases hz:us.length=0
    ·exfalso
     have:0<len*sh.size:=Nat.mul_pos (by omega) hps
     omega
    ·have:=hcc (us.length-1) _ (ac (by omega))
     have:=(ch.1 this).1;omega
 ·obtain ⟨b,o',us,e1,hI,hrd,hcell⟩:=Tg (c6 hs hx hv)
  simp only [RD] at hrd;obtain ⟨m',hrun,hm1,hm2,hm3⟩:=hb false len (ba _);have hlen:((cs.drop l).take (hh-l)).length=hh-l:=by rw [b8,ec]; omega
  refine cg hs (u:=.slice (some (if m'=l then ⟨b,o',none⟩ else ⟨b,o'+l*sh.size,none⟩)) (hh-l) (m'-l)) ?_ ?_
  ·simp [execOp,ho,e1,Instr.sliceAt,Instr.sureAddr,run_underlying ht,hrun,i7 hinf,hsz,ku]
  ·simp only [RX]
   refine RV.mk ⟨rfl,?_⟩;show RD C _ [_];simp only [RD];refine ⟨_,_,by rw [hlen],by rw [hlen]; omega,?_⟩
   by_cases h0:hh-l=0
   ·left; rw [h0]; simp
   ·right
    refine ⟨b,o'+l*sh.size,_,?_,hI,qz (hh-l) (sq l hrd.2),hcell.part _ _⟩;rw [if_neg (by omega)]
end
def uk (num:Nat→Nat):List (Nat×Arg)→List (Nat×Operand)→Bool
 | [],[]=>true
 | (i,x)::ps,(j,y)::qs=>i == j&&ck num x y&&uk num ps qs
 | _,_=>false
section
variable {C:Cx} {φ:Loc} {s:St} {a:Act} {o:Oper} {K:Nat→Prop}
theorem yv (hs:SR C φ s a.tmps) {C1:Cx}:∀{ps:List (Nat×Arg)} {qs:List (Nat×Operand)} {xs:List (Nat×D)},uk C.num ps qs=true→kj s.e s.h ps=some xs →
 (C.plus (y9 φ s.h (fe s.e ps))).Le C1 →
 xs.length=qs.length∧∀(j:Nat) p u,xs[j]? = some p→(qs.map fun q=>(q.1,a.eval q.2))[j]? = some u→p.1=u.1∧isAgg u.2=p.2.isAgg∧RD C1 p.2 u.2.cells.toList
 | [],[],xs,_,hx,_=>by
  simp only [kj,ab] at hx; subst hx;simp
 | (i,x)::ps,(k,y)::qs,xs,hok,hx,hC=>by
  simp only [uk,av,beq_iff_eq] at hok;obtain ⟨⟨rfl,hy⟩,hok⟩:=hok;simp only [kj] at hx;obtain ⟨v,hv,hx⟩:=aa.1 hx;obtain ⟨d,hd,hx⟩:=aa.1 hx
  by_cases ht:d.isTup=true
  ·rw [if_pos ht] at hx; cases hx
  ·rw [if_neg ht] at hx
   obtain ⟨r,hr,rfl⟩:=ae.1 hx;have hC1:(C.plus (y9 φ s.h v.refs)).Le C1:=(C.plus_mono fun b ⟨j,hj,g⟩=>⟨j,by simp [fe,hv,hj],g⟩).trans hC
   have hC2:(C.plus (y9 φ s.h (fe s.e ps))).Le C1:=(C.plus_mono fun b ⟨j,hj,g⟩=>⟨j,by simp [fe,hj],g⟩).trans hC
   obtain ⟨h1,h2⟩:=yv hs hok hr hC2;refine ⟨by simpa using h1,fun j p u hp hu=>?_⟩
   cases j with
   | zero=>
    simp at hp hu; subst hp; subst hu;obtain ⟨g1,g2⟩:=(RV.mono hC1 _ _ (v5 hs.hr v d _ hd (c6 hs hy hv))).notTup (by simpa using ht)
    exact ⟨rfl,g1,g2⟩
   | succ j=>exact h2 j p u (by simpa using hp) (by simpa using hu)
 | [],_::_,_,hok,_,_=>by simp [uk] at hok
 | _::_,[],_,hok,_,_=>by simp [uk] at hok
theorem Ti {C1:Cx} {sh:Sh} {xs':List D} {ps:List (Nat×D)} {us:List (Nat×Value)} {xs:List D} {cs:Array Value} (hl:ps.length=us.length)
 (hr:∀(j:Nat) p u,ps[j]? = some p→us[j]? = some u→p.1=u.1∧isAgg u.2=p.2.isAgg∧RD C1 p.2 u.2.cells.toList) (hf:ry xs ps=some xs') (h0:RDs C1 sh xs cs.toList) :
 ∃cs',Instr.fill (fun i=>some (i*sh.size,sh.size)) cs us=some cs'∧RDs C1 sh xs' cs'.toList∧xs'.length=xs.length:=by
 obtain ⟨cs',h1,h2,h3⟩:=Dq ps us xs xs' cs hl hr hf (fun ys qs=>RDs C1 sh ys qs∧ys.length=xs.length) (by
  rintro ys qs i x y vs ⟨g1,g2⟩ hx hxy hy
  obtain ⟨k1,k2,k3⟩:=uv g1 hx;have hvl:=ji y vs hy;have e:vs.length=sh.size:=by rw [hvl,←hxy,k1]
  exact ⟨i*sh.size,by rw [e],by omega,J9 g1 (ao.1 hx).1 (by rw [←hxy,k1]) hy,by rw [bx]; exact g2⟩) ⟨h0,rfl⟩
 exact ⟨cs',h1,h2,h3⟩
theorem Lr (hs:SR C φ s a.tmps) {fz:Bool} {z:D} {ps:List (Nat×Arg)} {t:TypeId} {qs:Array (Nat×Operand)} (ho:o.op=.build t qs) (hok:uk C.num ps qs.toList=true) (hz:o6 P t z=true)
 {xs:List (Nat×D)} (hx:kj s.e s.h ps=some xs) {h1:Heap} (hf:freezeIf fz s.h (fe s.e ps)=some h1) {d:D}
 (hd:(∃n sh cs cs' e,z=.arr n sh cs∧ry cs xs=some cs'∧d=.arr n sh cs'∧P.underlying t=some (.array n e)∧nj P e sh=true) ∨
  ∃ss cs cs' fs,z=.st ss cs∧ry cs xs=some cs'∧d=.st ss cs'∧P.underlying t=some (.struct fs)∧il P 0 fs.toList ss=true) :
 OpGood P o a C φ s.h (.d d) h1 K:=by
 obtain ⟨inf,u,hinf,hiz,hrun,hzv,hnt⟩:=pr hz;obtain ⟨C1,st1,k1,hle,hw,_⟩:=ox hs.hr hs.bd hf;obtain ⟨hxl,hxr⟩:=yv hs hok hx hle;have hxl':xs.length=(qs.toList.map fun q=>(q.1,a.eval q.2)).length:=by simpa using hxl
 obtain ⟨ha,hcells⟩:=(hzv C1).notTup hnt;rcases hd with ⟨n,sh,cs,cs',e,rfl,hfill,rfl,ht,he⟩ | ⟨ss,cs,cs',fs,rfl,hfill,rfl,ht,hfs⟩
 ·simp only [RD] at hcells
  obtain ⟨r,hr1,hr2,hr3⟩:=Ti hxl' hxr hfill hcells.2;obtain ⟨ie,hie,hse⟩:=gz he;refine ⟨C1,φ,.agg r,_,?_,.inl rfl,st1,?_,k1.mono (by simp)⟩
  ·simp only [execOp,ho,Instr.build,Sem.run_bind,hrun,run_underlying ht,i7 hie,hse,Result.andThen_ok,qj,hr1,Sem.run_pure,hw]
  ·simp only [RX]
   refine RV.mk ⟨rfl,?_⟩;simp only [RD,Value.cells];exact ⟨by rw [hr3]; exact hcells.1,hr2⟩
 ·simp only [RD] at hcells
  have hplaces:∀(fs:List Field) (ss:List Sh) (off:Nat),il P off fs ss=true→∀(i:Nat) sh,ss[i]? = some sh→(fs.map fun f=>(f.offset,(P.info? f.type).elim 0 (·.size)))[i]? = some (off+Sh.sizes (ss.take i),sh.size):=by
   intro fs ss off hfs i sh hi;obtain ⟨f,g1,g2,g3⟩:=uo hfs hi;obtain ⟨ie,hie,hse⟩:=gz g3;rw [cb,g1,bc,g2,hie];simp [hse]
  have hmap:∀(fs:List Field) (ss:List Sh) (off:Nat),il P off fs ss=true→fs.mapM (fun f=>(P.info? f.type).map fun i=>(f.offset,i.size))=some (fs.map fun f=>(f.offset,(P.info? f.type).elim 0 (·.size))):=by
   intro fs
   induction fs with
   | nil=>intro ss off _; rfl
   | cons f fs ih=>
    intro ss off hfs;cases ss with
    | nil=>simp [il] at hfs
    | cons sh ss=>
     simp only [il,av,beq_iff_eq] at hfs;obtain ⟨ie,hie,hse⟩:=gz hfs.1.2;simp [List.mapM_cons,hie,ih ss _ hfs.2]
  have hpl:=hmap fs.toList ss 0 hfs
  obtain ⟨r,hr1,hr2⟩:=Dq (C:=C1) (place:=fun i=>(fs.map fun f=>(f.offset,(P.info? f.type).elim 0 (·.size)))[i]?) xs _ cs cs' u.cells hxl' hxr hfill (fun ys rs=>RDst C1 ss ys rs) (by
   intro ys rs i x y vs g1 hx hxy hy;obtain ⟨sh,k0,k1,k2,k3⟩:=wa g1 hx;have hvl:=ji y vs hy;have e:vs.length=sh.size:=by rw [hvl,←hxy,k1]
   refine ⟨Sh.sizes (ss.take i),?_,by omega,Mv g1 hx hxy.symm hy⟩
   have:=hplaces fs.toList ss 0 hfs i sh k0;rw [b9] at this;rw [e,←this];simp) hcells
  refine ⟨C1,φ,.agg r,_,?_,.inl rfl,st1,?_,k1.mono (by simp)⟩
  ·have hb:P.built t (qs.map fun (i,x)=>(i,a.eval x)).toList=some r:=by
    simp only [Program.built,hinf,ht,hiz,hpl,qj];rw [←hr1]; congr 1; funext i; simp
   simp only [execOp,ho,Sem.run_bind,run_build C.w t _ r hb,Result.andThen_ok,Sem.run_pure,hw]
  ·simp only [RX]
   refine RV.mk ⟨rfl,?_⟩;simp only [RD,Value.cells];exact hr2
theorem xt (hr:HR C φ s.h) (hb:∀b,C.I b→b<C.w.heap.size) {i:Nat} {sh:Sh} {xs:List D} {cs:Array Value} {us:List Value} (t:TypeId) (hd:RDs C sh xs us) (hcs:∀(j:Nat) u,us[j]? = some u→cs[j]? = some u)
 (hi:s.h[i]? = some .hole) {len c:Nat} {cap:Option Nat} (hlen:len=xs.length) (hlc:len≤c) (hcap:∀k,cap=some k→c=k) (hsz:c*sh.size≤cs.size) :
 Step C { C with w:=C.w.alloc (.cells cs t (0,0)) } φ (φ.put i (some (C.w.heap.size,0))) s.h (s.h.set i (.sl false sh xs)) ∧
 Keeps C { C with w:=C.w.alloc (.cells cs t (0,0)) } φ (φ.put i (some (C.w.heap.size,0))) s.h (s.h.set i (.sl false sh xs)) (fun _=>False) ∧
 RX { C with w:=C.w.alloc (.cells cs t (0,0)) } (φ.put i (some (C.w.heap.size,0))) (s.h.set i (.sl false sh xs)) (.sl i [] 0 len cap) (.slice (some ⟨C.w.heap.size,0,none⟩) len c):=by
 have hC:C.Le { C with w:=C.w.alloc (.cells cs t (0,0)) }:=⟨rfl,fun _ g=>g,fun b g=>dz _ _ _ (hb b g)⟩
 have hB:RB { C with w:=C.w.alloc (.cells cs t (0,0)) } (.sl false sh xs) (fun _=>some (C.w.heap.size,0)):=by
  simp only [RB];refine ⟨us,RDs.mono hC _ _ _ hd,?_⟩;simp only [RAt,b5,if_false];refine ⟨fun g=>by have:=hb _ g; omega,cs,t,pz _ _,fun j u hj=>?_⟩
  rw [b9]; exact hcs j u hj
 obtain ⟨h1,h2⟩:=vv hr hb hi (w':=C.w.alloc (.cells cs t (0,0))) (B:=.sl false sh xs) (l:=some (C.w.heap.size,0))
  (fun b hbl=>dz _ _ _ hbl) (by simp) rfl rfl rfl (by intro b o e; simp only [ab,al] at e; omega) hB
 refine ⟨h1,h2,?_⟩;have hil:i<s.h.length:=(ao.1 hi).1;simp only [RX];refine ⟨_,0,sh,xs.length,_,c,b4 hil,by simp [Blk.run],by omega,rfl,hlc,hcap,fun _=>⟨C.w.heap.size,0,cs,t,(0,0),by simp [Loc.put],by simp,pz _ _,by simpa using hsz⟩⟩
theorem ij (cs:Array Value) (hpos:0<cs.size):∀n,((Array.range (n*cs.size)).map fun i=>cs[i%cs.size]!).toList=(List.replicate n cs.toList).flatten
 | 0=>by simp
 | n+1=>by
  have ih:=ij cs hpos n;rw [List.replicate_succ',List.flatten_append,←ih];apply ci;intro j;simp only [qj,Array.toList_range,cb]
  by_cases hj:j<n*cs.size
  ·rw [bi (by simpa using hj)]
   rw [db (by rw [fq]; omega),cb,db hj]
  ·rw [bj (by simpa using hj)]
   simp only [af,d8,List.flatten_cons,List.flatten_nil,ov,i5]
   by_cases hj2:j<(n+1)*cs.size
   ·rw [db hj2,bc]
    have:j-n*cs.size<cs.size:=by rw [fq] at hj2; omega
    have hm:j%cs.size=j-n*cs.size:=by
     have e:j=(j-n*cs.size)+cs.size*n:=by rw [zy cs.size n]; omega
     conv=>lhs; rw [e]
     rw [Nat.add_mul_mod_self_left,Nat.mod_eq_of_lt this]
    rw [hm,mz this,getElem!_pos cs _ this]
   ·rw [bq (by simpa using hj2),Option.map_none,Array.getElem?_eq_none (by rw [fq] at hj2; omega)]
theorem S3 (hs:SR C φ s a.tmps) {fz:Bool} {i n:Nat} {sh:Sh} {z:D} {ps:List (Nat×Arg)} {t e:TypeId} {qs:Array (Nat×Operand)} (ho:o.op=.buildSlice t n qs) (ht:P.underlying t=some (.slice e))
 (he:nj P e sh=true) (hok:uk C.num ps qs.toList=true) (hz:o6 P e z=true) (hzs:z.sh=sh) (hpos:0<sh.size) (hbig:n*sh.size≤16777216)
 {xs:List (Nat×D)} (hx:kj s.e s.h ps=some xs) {h1:Heap} (hf:freezeIf fz s.h (fe s.e ps)=some h1) {cs:List D} (hfill:ry (List.replicate n z) xs=some cs) (hi:h1[i]? = some .hole) :
 OpGood P o a C φ s.h (.sl i [] 0 n (some n)) (h1.set i (.sl false sh cs)) K:=by
 obtain ⟨inf,u,hinf,hiz,hrun,hzv,hnt⟩:=pr hz;obtain ⟨ie,hie,hse⟩:=gz he;obtain ⟨C1,st1,k1,hle,hw,_⟩:=ox hs.hr hs.bd hf;obtain ⟨hxl,hxr⟩:=yv hs hok hx hle;have hxl':xs.length=(qs.toList.map fun q=>(q.1,a.eval q.2)).length:=by simpa using hxl
 obtain ⟨ha,hcells⟩:=(hzv C1).notTup hnt;have hul:u.cells.size=sh.size:=by rw [←hzs,←ji z _ hcells]; simp
 have h0:RDs C1 sh (List.replicate n z) ((Array.range (n*sh.size)).map fun i=>u.cells[i%u.cells.size]!).toList:=by
  rw [←hul,ij u.cells (by omega)]
  exact re hzs hcells n
 obtain ⟨r,hr1,hr2,hr3⟩:=Ti hxl' hxr hfill h0;have hrl:=n6 sh cs _ hr2;have hcl:cs.length=n:=by rw [hr3]; simp
 obtain ⟨st2,k2,hv⟩:=xt (C:=C1) (s:=⟨s.e,h1⟩) st1.hr st1.bd (cs:=r) e hr2 (fun j u hj=>by simpa using hj) hi (len:=n) (c:=n) (cap:=some n) hcl.symm (ba _) (by simp)
  (by rw [hcl] at hrl; simp at hrl; omega)
 refine ⟨_,_,_,_,?_,.inl rfl,st1.trans st2,hv,(k1.trans k2).mono (by simp)⟩
 have hz0:∀(f g:Nat→Value),n*sh.size=0→(Array.range (n*sh.size)).map f=(Array.range (n*sh.size)).map g:=by
  intro f g h; rw [h]; simp
 have hnb:¬ (n*sh.size > 2^24):=by omega
 by_cases h0:n*sh.size=0
 ·simp only [execOp,ho,Instr.buildSlice,Sem.run_bind,run_underlying ht,i7 hie,hse,Result.andThen_ok,if_neg hnb,if_pos h0,qj,Sem.run_pure,hw]
  rw [hz0 _ (fun i=>u.cells[i%u.cells.size]!) h0,hr1]
  simp only [newRow,newObj,Sem.run_bind,Sem.run,Sem.run_pure,Result.andThen_ok];rfl
 ·simp only [execOp,ho,Instr.buildSlice,Sem.run_bind,run_underlying ht,i7 hie,hse,Result.andThen_ok,if_neg hnb,if_neg h0,hrun,qj,Sem.run_pure,hr1,newRow,newObj,Sem.run,hw]
  rfl
theorem a2r (hs:SR C φ s a.tmps) {i bytes:Nat} {sh:Sh} {z:D} {x y:Arg} {t e:TypeId} {x' y':Operand} (ho:o.op=.makeSlice t x' y') (ht:P.underlying t=some (.slice e))
 (he:nj P e sh=true) (hbytes:∃inf,P.info? e=some inf∧inf.bytes=bytes) (hx:ck C.num x x'=true) (hy:ck C.num y y'=true) (hz:o6 P e z=true) (hzs:z.sh=sh) (hpos:0<sh.size)
 {n m:Nat} (hn:(s.e.arg x).bind V.nat? = some n) (hm:(s.e.arg y).bind V.nat? = some m) (hnm:n≤m) (hroom:m*bytes≤1099511627776) (hm63:m≤9223372036854775807) (hi:s.h[i]? = some .hole) :
 OpGood P o a C φ s.h (.sl i [] 0 n (if n=m then some n else none)) (s.h.set i (.sl false sh (List.replicate n z))) K:=by
 obtain ⟨inf,u,hinf,hiz,hrun,hzv,hnt⟩:=pr hz;obtain ⟨ie,hie,hse⟩:=gz he;obtain ⟨ib,hib,hbb⟩:=hbytes;obtain rfl:ie=ib:=au (hie.symm.trans hib);obtain ⟨ha,hcells⟩:=(hzv C).notTup hnt;have hul:u.cells.size=sh.size:=by rw [←hzs,←ji z _ hcells]; simp
 obtain ⟨qn,hn'⟩:=Dc hn;obtain ⟨qm,hm'⟩:=Dc hm;have e1:=mu (c6 hs hx hn');have e2:=mu (c6 hs hy hm')
 obtain ⟨st2,k2,hv⟩:=xt (C:=C) (s:=s) hs.hr hs.bd (cs:=(Array.range (m*sh.size)).map fun i=>u.cells[i%u.cells.size]!) (us:=(List.replicate n u.cells.toList).flatten) e (re hzs hcells n)
  (fun j v hj=>by
   have hfl:=ij u.cells (by omega) m
   rw [hul] at hfl;rw [hul,←i5,hfl];obtain ⟨k,rfl⟩:∃k,m=n+k:=⟨m-n,by omega⟩
   rw [←List.replicate_append_replicate,List.flatten_append,bi]
   ·exact hj
   ·exact (ao.1 hj).1) hi (len:=n) (c:=m) (cap:=if n=m then some n else none) (by simp) hnm (by
    intro k hk
    by_cases h:n=m
    ·rw [if_pos h] at hk; simp at hk; omega
    ·rw [if_neg h] at hk; cases hk) (by simp)
 refine ⟨_,_,_,_,?_,.inl rfl,st2,hv,k2.mono (by simp)⟩
 have hw64:∀k:Nat,k≤9223372036854775807→IntKind.i64.wrap (k:Int)=k:=by
  intro k hk;simp [IntKind.wrap,IntKind.bits,IntKind.signed]; omega
 have hnot:¬ ((ie.bytes:Int)*(m:Int) > 2^48):=by
  rw [hbb,lm];have:((m*bytes:Nat):Int)≤1099511627776:=by omega
  rw [Int.natCast_mul] at this;omega
 have hz0:∀(f g:Nat→Value),m*sh.size=0→(Array.range (m*sh.size)).map f=(Array.range (m*sh.size)).map g:=by
  intro f g h; rw [h]; simp
 have hti:∀w',(typeInfo e).run P w'=.ok ie w':=fun w'=>by simp [typeInfo,hie]
 have hc1:¬ ((m:Int)<0):=by omega
 have hc2:¬ ((n:Int)<0):=by omega
 have hc3:¬ ((n:Int) > (m:Int)):=by omega
 by_cases h0:m*sh.size=0
 ·simp only [execOp,ho,e1,e2,Instr.makeSlice,asInt,asIntOf,Sem.run_bind,run_underlying ht,hti,Result.andThen_ok,Sem.run_pure,hw64 m hm63,hw64 n (by omega),hc1,hc2,hc3,hnot,decide_false,Bool.or_false,b5,
   if_false,Go.run_askRoom,i7 hie,hse,xj,if_pos h0]
  rw [hz0 _ (fun i=>u.cells[i%u.cells.size]!) h0]
  simp only [newRow,newObj,Sem.run_bind,Sem.run,Sem.run_pure,Result.andThen_ok];rfl
 ·simp only [execOp,ho,e1,e2,Instr.makeSlice,asInt,asIntOf,Sem.run_bind,run_underlying ht,hti,Result.andThen_ok,Sem.run_pure,hw64 m hm63,hw64 n (by omega),hc1,hc2,hc3,hnot,decide_false,Bool.or_false,b5,
   if_false,Go.run_askRoom,i7 hie,hse,xj,if_neg h0,hrun,newRow,newObj,Sem.run]
  rfl
end
section
variable {C:Cx} {φ:Loc} {s:St} {a:Act} {o:Oper} {K:Nat→Prop}
theorem Rr {h:Heap} (hr:HR C φ h) (hb:∀b,C.I b→b<C.w.heap.size) {i b o o':Nat} {B B':Blk} (hi:h[i]? = some B) (hown:B.own=true) (hp1:B.parts=1) (hφ:φ i 0=some (b,o))
 {w':World} (hoth:∀k,k≠b→w'.heap[k]? = C.w.heap[k]?) (hsize:w'.heap.size=C.w.heap.size) (hos:w'.os=C.w.os) (hout:w'.output=C.w.output) (htape:w'.tape=C.w.tape)
 (hwide:Wide C.w w' b) (hp2:B'.parts=1) (hB:RB { C with w:=w' } B' (fun _=>some (b,o'))) :
 Step C { C with w:=w' } φ (φ.put i (some (b,o'))) h (h.set i B')∧Keeps C { C with w:=w' } φ (φ.put i (some (b,o'))) h (h.set i B') (fun j=>j=i):=by
 have hOB:OwnB φ h b:=⟨i,0,B,o,hi,hown,by omega,hφ⟩
 have hnI:=OwnB.not_I hr hOB;have hC:C.Le { C with w:=w' }:=⟨rfl,fun _ g=>g,fun k g=>hoth k fun e=>hnI (e▸g)⟩
 have hil:i<h.length:=(ao.1 hi).1
 have hwd:∀k,Wide C.w w' k:=fun k=>by
  by_cases hk:k=b
  ·subst hk; exact hwide
  ·exact .of_eq (hoth k hk)
 have hne:∀j Bj,j≠i→(h.set i B')[j]? = some Bj→h[j]? = some Bj:=fun j Bj hj e=>by
  rwa [b7 (f9 hj)] at e
 have hself:∀Bj,(h.set i B')[i]? = some Bj→B'=Bj:=fun Bj hj=>by
  rw [b4 hil] at hj;exact au hj
 have back:∀(j k:Nat) (Bj:Blk) b' oj,(h.set i B')[j]? = some Bj→Bj.own=true→k<Bj.parts→φ.put i (some (b,o')) j k=some (b',oj)→∃(Bj':Blk) (oj':Nat),h[j]? = some Bj'∧Bj'.own=true∧k<Bj'.parts∧φ j k=some (b',oj'):=by
  intro j k Bj b' oj hj ho hk hφj
  by_cases hji:j=i
  ·subst hji
   obtain rfl:=hself Bj hj;obtain rfl:k=0:=by omega
   simp only [Loc.put,if_true,ab,al] at hφj;exact ⟨B,o,hi,hown,by omega,by rw [hφ,hφj.1]⟩
  ·simp only [Loc.put,if_neg hji] at hφj
   exact ⟨Bj,oj,hne j Bj hji hj,ho,hk,hφj⟩
 refine ⟨⟨hC,fun k _ hn=>hoth k fun e=>hn (e▸hOB),fun _ g=>.inl g,?_,by rw [hsize]; exact ba _,hos,hout,htape,⟨?_,?_⟩,fun k g=>by rw [hsize]; exact hb k g,hwd⟩,?_⟩
 ·rintro k ⟨j,m,Bj,o2,hj,ho,hm,hφj⟩
  obtain ⟨Bj',oj',h1,h2,h3,h4⟩:=back j m Bj k o2 hj ho hm hφj;exact .inl ⟨j,m,Bj',oj',h1,h2,h3,h4⟩
 ·intro j Bj hj
  by_cases hji:j=i
  ·subst hji
   obtain rfl:=hself Bj hj
   simpa [Loc.put] using hB
  ·have hj':=hne j Bj hji hj
   simp only [Loc.put,if_neg hji];refine (hr.blk j Bj hj').world' hC hwd (fun m k o2 hm e hn=>⟨hoth k ?_,mh⟩)
   rintro rfl
   by_cases hoj:Bj.own=true
   ·exact hr.inj j i m 0 Bj B k o2 o (.inl hji) hj' hi hoj hown hm (by omega) e hφ
   ·exact hnI ((RB.at hn (hr.blk j Bj hj') hm e).2.2 (by simpa using hoj))
 ·intro j k m n Bj Bk b' oj ok hjk hj hk hoj hok hm hn hφj hφk
  obtain ⟨Bj',oj',hj',hoj',hm',hφj'⟩:=back j m Bj b' oj hj hoj hm hφj;obtain ⟨Bk',ok',hk',hok',hn',hφk'⟩:=back k n Bk b' ok hk hok hn hφk;exact hr.inj j k m n Bj' Bk' b' oj' ok' hjk hj' hk' hoj' hok' hm' hn' hφj' hφk'
 ·intro v u hv g
  have hnot:∀j∈v.refs,j≠i:=fun j hj e=>hv j hj e
  refine RX.congr hC v u (fun j hj Bj hBj=>⟨Bj,?_,.refl Bj⟩) (fun j hj=>by simp only [Loc.put,if_neg (hnot j hj)]) hwd g
  rw [b7 (f9 (hnot j hj))]; exact hBj
theorem Bt (hr:HR C φ s.h) {v:V} {u:Value} {t:Sh} {ys:List D} (hd:toE s.h v=some (.sl t ys)) (hv:RX C φ s.h v u) :
 ∃ad c,u=.slice ad ys.length c∧ys.length≤c∧(ys=[]∨∃b o us,ad=some ⟨b,o,none⟩∧RDs C t ys us∧CellsAt C.w b o us):=by
 cases v with
 | d x=>
  simp only [toE,ab] at hd; subst hd;obtain ⟨ad,c,e,hl,h⟩:=Np hv;refine ⟨ad,c,e,hl,h.imp id ?_⟩
  rintro ⟨b,o,us,e',_,h1,h2⟩
  exact ⟨b,o,us,e',h1,h2⟩
 | sl i p off len cap=>
  simp only [toE] at hd;cases hE:(s.h[i]?).bind (Blk.elems · p) with
  | none=>simp [hE] at hd
  | some q=>
   obtain ⟨sh,cs⟩:=q;rw [hE] at hd;simp only at hd
   by_cases hb:off+len≤cs.length
   ·rw [if_pos hb,ab,D.sl.injEq] at hd
    obtain ⟨rfl,rfl⟩:=hd;obtain ⟨B,hB,hE'⟩:=aa.1 hE;simp only [RX] at hv;obtain ⟨B',base,s',m,ad,c,hB',hrun,hm,e,hlc,hcap,hloc⟩:=hv;obtain rfl:B=B':=au (hB.symm.trans hB');obtain ⟨base',hrun',hcs⟩:=Cf (hr.blk i B hB) hE'
    obtain ⟨rfl,rfl,rfl⟩:base'=base∧sh=s'∧cs.length=m:=by
     have:=hrun'.symm.trans hrun
     simpa using this
    have hlen:((cs.drop off).take len).length=len:=by rw [b8,ec]; omega
    refine ⟨ad,c,by rw [hlen]; exact e,by rw [hlen]; exact hlc,?_⟩
    by_cases h0:len=0
    ·left; subst h0; simp
    ·right
     obtain ⟨b,o,arr,el,fz,hφ,rfl,_,_⟩:=hloc (by omega)
     rcases hcs with rfl | ⟨b',o',us,hφ',hd,hc⟩
     ·simp at hb; omega
     ·obtain ⟨rfl,rfl⟩:b=b'∧o=o':=by simpa using hφ.symm.trans hφ'
      exact ⟨b,_,_,rfl,qz len (sq off hd),hc.part _ _⟩
   ·rw [if_neg hb] at hd; cases hd
 | ptr i p=>simp [toE] at hd
 | mp i=>simp [toE] at hd
 | fn f x y=>simp [toE] at hd
 | tup vs=>simp [toE] at hd
theorem a9n {w:World} {t:Sh} {ys:List D} {ad:Option Addr} {c:Nat} {us:List Value} {tx e':TypeId} (hk:P.underlying tx=some (.slice e')) {size:Nat} (hsz:size=t.size)
 (hrd:RDs C t ys us) (hcell:ys=[]∨∃b o,ad=some ⟨b,o,none⟩∧CellsAt w b o us):Src P size tx (.slice ad ys.length c) ys.length us w:=by
 subst hsz;have hlen:=n6 t ys us hrd;have hone:∀u∈us,u.oneCell'=true:=fun u hu=>by rw [E6]; exact J2 t ys us hrd u hu
 by_cases h0:ys=[]
 ·subst h0
  simp only [RDs] at hrd; subst hrd;refine ⟨.inl ⟨e',hk⟩,fun _=>rfl,?_,?_,by simp,by simp⟩
  ·cases ad with
   | none=>exact run_firstCells_none w t.size 0 0 c
   | some x=>exact run_firstCells_some w t.size 0 x 0 c [] (by simp) (by simp)
  ·cases ad with
   | none=>exact run_firstCells_none w.drew t.size 0 0 c
   | some x=>exact run_firstCells_some w.drew t.size 0 x 0 c [] (by simp) (by simp)
 ·rcases hcell with h | ⟨b,o,rfl,hc⟩
  ·exact absurd h h0
  ·exact Src.ofSlice w hk ⟨b,o,none⟩ ys.length c us hlen (fun j v hj=>by rw [ku]; exact hc.range j v hj) hone
structure AppIn (P:Program) (C:Cx) (φ:Loc) (s:St) (a:Act) (sh:Sh) (t tx:TypeId) (x' y':Operand) (j off n:Nat) (cap:Option Nat) (fr:Bool) (cs ys:List D):Prop where
 ty:∃e i z bytes,P.underlying t=some (.slice e)∧P.info? e=some i∧i.zero=some z∧i.size=sh.size∧i.bytes=bytes∧z.cells.size=sh.size∧(n+ys.length)*bytes≤1099511627776
 tx:∃e',P.underlying tx=some (.slice e')
 pos:0<sh.size
 len:n+ys.length≤1099511627776
 x:RX C φ s.h (.sl j [] off n cap) (a.eval x')
 blk:s.h[j]? = some (.sl fr sh cs)
 le:off+n≤cs.length
 y:∃ad c,a.eval y'=.slice ad ys.length c∧(ys=[]∨∃b o us,ad=some ⟨b,o,none⟩∧RDs C sh ys us∧CellsAt C.w b o us)
theorem Hn (hs:SR C φ s a.tmps) {sh:Sh} {t tx ty:TypeId} {x' y':Operand} {j off n:Nat} {cap:Option Nat} {fr:Bool} {cs ys:List D} (h:AppIn P C φ s a sh t tx x' y' j off n cap fr cs ys)
 {ad:Option Addr} {c:Nat} (hx:a.eval x'=.slice ad n c) (hc:c<n+ys.length) :
 ∃(el:TypeId) (us:List Value) (arr:Array Value) (c':Nat),(Builtin.append_ #[t,tx] ty #[a.eval x',a.eval y']).run P C.w=.ok (.slice (some ⟨C.w.heap.size,0,none⟩) (n+ys.length) c') (C.w.drew.alloc (.cells arr el (0,0))) ∧
  RDs C sh ((cs.drop off).take n++ys) us∧(∀(k:Nat) u,us[k]? = some u→arr[k]? = some u)∧n+ys.length≤c'∧c'*sh.size≤arr.size:=by
 obtain ⟨⟨e,i,z,bytes,ht,hi,hz,hsz,hby,hzs,hbig⟩,⟨e',htx⟩,hpos,hlen,hX,hblk,hle,ady,cy,hy,hsrc⟩:=h
 -- the old elements
 have hold:∃vs,RDs C sh ((cs.drop off).take n) vs∧(Builtin.firstCells i.size n (.slice ad n c)).run P C.w.drew=.ok vs.toArray C.w.drew:=by
  rw [hx] at hX;simp only [RX] at hX;obtain ⟨B,base,s',m,ad',c',hB,hrun,hm,e1,hlc,_,hloc⟩:=hX;simp only [Value.slice.injEq] at e1;obtain ⟨rfl,_,rfl⟩:=e1
  by_cases h0:n=0
  ·subst h0
   refine ⟨[],by simp [RDs],?_⟩
   cases ad with
   | none=>exact run_firstCells_none C.w.drew i.size 0 0 c
   | some x=>exact run_firstCells_some C.w.drew i.size 0 x 0 c [] (by simp) (by simp)
  ·obtain ⟨b,o',arr,el,fz,hφ,rfl,hw,hsz'⟩:=hloc (by omega)
   obtain rfl:B=_:=au (hB.symm.trans hblk);simp only [Blk.run,ab,al] at hrun;obtain ⟨rfl,rfl,rfl⟩:=hrun;have hrb:=hs.hr.blk j _ hB;simp only [Blk.part] at hφ;simp only [RB,hφ] at hrb;obtain ⟨us,hrd,hat⟩:=hrb;have hp:=qz n (sq off hrd);refine ⟨_,hp,?_⟩;have hcl:((cs.drop off).take n).length=n:=by rw [b8,ec]; omega
   have hl2:=n6 _ _ _ hp;rw [hcl] at hl2;refine run_firstCells_some C.w.drew i.size n _ n c _ (by rw [hl2,hsz]) (fun k v hk=>?_)
   have:=(hat.cells.part (off*sh.size) (n*sh.size)).range k v hk;rw [ku];rw [dd]
   simpa using this
 obtain ⟨vs,hvs,hfirst⟩:=hold
 obtain ⟨us,hus,hsrc'⟩:∃us,RDs C sh ys us∧(ys=[]∨∃b o,ady=some ⟨b,o,none⟩∧CellsAt C.w b o us):=by
  rcases hsrc with rfl | ⟨b,o,us,e1,h1,h2⟩
  ·exact ⟨[],by simp [RDs],.inl rfl⟩
  ·exact ⟨us,h1,.inr ⟨b,o,e1,h2⟩⟩
 have hS:=a9n (P:=P) (c:=cy) htx hsz hus hsrc';have hfit:Builtin.nextslicecap (n+ys.length) c*i.bytes≤281474976710656:=growslice_fits hc (by rw [hby]; omega)
 have hrun:=run_append_grow_src (P:=P) C.w t tx ty e i z ht hi hz ad n c vs hfirst (.slice ady ys.length cy) ys.length us hS hc (by omega) hfit
 refine ⟨e,vs++us,_,_,by rw [hx,hy]; exact hrun,pf hvs hus,fun k u hk=>?_,grownCap_ge _ _ _ _,?_⟩
 ·rw [me]
  ·simpa using hk
  ·simpa using (ao.1 hk).1
 ·have hcl:((cs.drop off).take n++ys).length=n+ys.length:=by rw [bg,b8,ec]; omega
  have h1:=n6 _ _ _ (pf hvs hus);rw [hcl] at h1;have hge:=grownCap_ge C.w (n+ys.length) c e;simp only [Array.size_append,List.size_toArray,Builtin.zeroCells,Array.size_map,Array.size_range,hzs,h1];rw [←lr];exact ff _ (by omega)
theorem A1 (hs:SR C φ s a.tmps) {sh:Sh} {t tx:TypeId} {x' y':Operand} {j off n:Nat} {cap:Option Nat} {cs ys:List D} (ho:o.op=.call { callee:=.builtin .append,args:=#[x',y'],argTypes:=#[t,tx] })
 (h:AppIn P C φ s a sh t tx x' y' j off n cap false cs ys) :
 OpGood P o a C φ s.h (.sl j [] 0 (n+ys.length) none) (s.h.set j (.sl false sh ((cs.drop off).take n++ys))) (fun i=>i=j):=by
 have hX:=h.x;simp only [RX] at hX;obtain ⟨B,base,s',m,ad,c,hB,hrun,hm,hx,hlc,_,hloc⟩:=hX;obtain rfl:B=_:=au (hB.symm.trans h.blk);simp only [Blk.run,ab,al] at hrun;obtain ⟨rfl,rfl,rfl⟩:=hrun;have hil:j<s.h.length:=(ao.1 hB).1
 have hexec:∀v w',(Builtin.append_ #[t,tx] o.type #[a.eval x',a.eval y']).run P C.w=.ok v w'→(execOp a.eval o).run P C.w=.ok (.value v) w':=by
  intro v w' hr;simp [execOp,ho,resolve,invoke,builtin,hr]
 by_cases hgrow:c<n+ys.length
 ·obtain ⟨el,us,arr,c',hr,hrd,harr,hc',hsz⟩:=Hn hs h (ty:=o.type) hx hgrow
  have hC1:∀b,b<C.w.heap.size→(C.w.drew.alloc (.cells arr el (0,0))).heap[b]? = C.w.heap[b]?:=fun b hb=>dz C.w.drew _ _ hb
  have hC:C.Le { C with w:=C.w.drew.alloc (.cells arr el (0,0)) }:=⟨rfl,fun _ g=>g,fun b g=>hC1 b (hs.bd b g)⟩
  have hget:(C.w.drew.alloc (.cells arr el (0,0))).heap[C.w.heap.size]? = some (.cells arr el (0,0)):=pz C.w.drew _
  obtain ⟨st,k⟩:=Nc hs.hr hs.bd hB (w':=C.w.drew.alloc (.cells arr el (0,0))) (B:=.sl false sh ((cs.drop off).take n++ys)) (l:=some (C.w.heap.size,0)) hC1
   (by show C.w.heap.size≤(C.w.heap.push _).size; simp) rfl rfl rfl (by intro b o e; simp only [ab,al] at e; omega) (by
    simp only [RB];refine ⟨us,RDs.mono hC _ _ _ hrd,?_⟩;simp only [RAt,b5,if_false];exact ⟨fun g=>by have:=hs.bd _ g; omega,arr,el,hget,fun q u hq=>by rw [b9]; exact harr q u hq⟩)
  refine ⟨_,_,_,_,hexec _ _ hr,.inl rfl,st,?_,k⟩;simp only [RX];refine ⟨_,0,sh,_,_,c',b4 hil,by simp [Blk.run]; rfl,?_,rfl,hc',by simp,fun _=>⟨C.w.heap.size,0,arr,el,(0,0),by simp [Loc.put],by simp,hget,by simpa using hsz⟩⟩
  have:=h.le;omega
 ·obtain ⟨⟨e,i,z,bytes,ht,hi,hz,hsz,hby,hzs,hbig⟩,⟨e',htx⟩,hpos,hlen,hX,hblk,hle,ady,cy,hy,hsrc⟩:=h
  obtain ⟨us,hus,hsrc'⟩:∃us,RDs C sh ys us∧(ys=[]∨∃b o,ady=some ⟨b,o,none⟩∧CellsAt C.w b o us):=by
   rcases hsrc with rfl | ⟨b,o,us,e1,h1,h2⟩
   ·exact ⟨[],by simp [RDs],.inl rfl⟩
   ·exact ⟨us,h1,.inr ⟨b,o,e1,h2⟩⟩
  have hS:=a9n (P:=P) (c:=cy) htx hsz hus hsrc'
  by_cases hc0:c=0
  ·-- nothing is there and nothing is appended
   have hn0:n=0:=by omega
   have hy0:ys=[]:=ej.1 (by omega)
   subst hn0; subst hy0; subst hc0;simp only [RDs] at hus; subst hus;have hr:=run_append_nothing (P:=P) C.w t tx o.type e i ht hi ad 0 0 (ba _) (.slice ady 0 cy) hS;obtain ⟨st,k⟩:=Nc hs.hr hs.bd hB (w':=C.w) (B:=.sl false sh ((cs.drop off).take 0++[])) (l:=none) (fun _ _=>rfl) (ba _) rfl rfl rfl (by simp) (by simp [RB])
   refine ⟨C,_,_,_,hexec _ _ (by rw [hx,hy]; exact hr),.inl rfl,st,?_,k⟩
   simp only [RX];exact ⟨_,0,sh,_,ad,0,b4 hil,by simp [Blk.run]; rfl,by simp,rfl,by simp,by simp,by simp⟩
  ·obtain ⟨b,o',arr,el,fz,hφ,rfl,hw,hsz'⟩:=hloc (by omega)
   have hrb:=hs.hr.blk j _ hB;simp only [Blk.part] at hφ;simp only [RB,hφ] at hrb;obtain ⟨os,hrd,hat⟩:=hrb;simp only [RAt,b5,if_false] at hat;obtain ⟨hnI,Ii,el2,hw2,hcells⟩:=hat
   obtain ⟨rfl,rfl,rfl⟩:arr=Ii∧el=el2∧fz=(0,0):=by
    have:=hw.symm.trans hw2
    simpa using this
   simp only [dd] at hsz' hx;have hul:=n6 _ _ _ hus
   have hfit:o'+off*sh.size+n*sh.size+us.length≤arr.size:=by
    rw [hul];have:(off+n+ys.length)*sh.size≤(off+c)*sh.size:=ff _ (by omega)
    rw [lr,lr] at this;omega
   have hr:=run_append_room_src (P:=P) C.w t tx o.type e i ht hi b (o'+off*sh.size) n c (.slice ady ys.length cy) ys.length us (by rw [hsz] at hS ⊢; exact hS) (by omega)
    (fun k hk=>by
     simp only [World.cell?,hw];have:o'+off*sh.size+n*i.size+k<arr.size:=by rw [hsz]; omega
     simp [this])
    (fun k hk=>by simp [World.frozen?,hw])
   rw [hsz] at hr;obtain ⟨arr',hw',hsz2,he⟩:=mb b us (o'+off*sh.size+n*sh.size) C.w arr el (0,0) hw hfit;obtain ⟨r1,r2,r3,r4⟩:=nk b us (o'+off*sh.size+n*sh.size) C.w;have hC:C.Le { C with w:=C.w.setCells b (o'+off*sh.size+n*sh.size) us }:=⟨rfl,fun _ g=>g,fun k g=>fi b _ _ _ k fun e=>hnI (e▸g)⟩
   have hp:=qz n (sq off hrd);have hcl:((cs.drop off).take n).length=n:=by rw [b8,ec]; omega
   have hl2:=n6 _ _ _ hp;rw [hcl] at hl2;have hosl:=n6 _ _ _ hrd
   obtain ⟨st,k⟩:=Rr hs.hr hs.bd hB rfl rfl hφ (B':=.sl false sh ((cs.drop off).take n++ys)) (o':=o'+off*sh.size) (fun k hk=>fi b us (o'+off*sh.size+n*sh.size) C.w k hk) r1 r2 r3 r4
    (fun Ii el2 fz2 h2=>by
     rw [hw] at h2;simp only [ab,Obj.cells.injEq] at h2;obtain ⟨rfl,rfl,rfl⟩:=h2;exact ⟨arr',el,_,hw',by omega⟩) rfl
    (by
     simp only [RB];refine ⟨_,RDs.mono hC _ _ _ (pf hp hus),?_⟩;simp only [RAt,b5,if_false];refine ⟨hnI,arr',el,hw',fun q u hq=>?_⟩
     rw [he]
     by_cases hq1:q<n*sh.size
     ·rw [bi (by omega),eh,if_pos hq1,ig] at hq
      rw [if_neg (by omega),fm]
      exact hcells _ _ hq
     ·rw [bj (by omega),hl2] at hq
      have hqb:=(ao.1 hq).1;rw [if_pos (by omega),show o'+off*sh.size+q-(o'+off*sh.size+n*sh.size)=q-n*sh.size by omega]
      exact hq)
   refine ⟨_,_,_,_,hexec _ _ (by rw [hx,hy]; exact hr),.inl rfl,st,?_,k⟩
   simp only [RX];refine ⟨_,0,sh,_,_,c,b4 hil,by simp [Blk.run]; rfl,?_,rfl,by omega,by simp,fun _=>⟨b,o'+off*sh.size,arr',el,(0,0),by simp [Loc.put],by simp,hw',?_⟩⟩
   ·have:=hm; omega
   ·rw [lr] at hsz'
    rw [b9,dd]; omega
theorem Id (hs:SR C φ s a.tmps) {sh:Sh} {t tx:TypeId} {x' y':Operand} {i:Nat} {ys:List D} (ho:o.op=.call { callee:=.builtin .append,args:=#[x',y'],argTypes:=#[t,tx] }) (hx:a.eval x'=.slice none 0 0) (hi:s.h[i]? = some .hole)
 (hty:∃e i z bytes,P.underlying t=some (.slice e)∧P.info? e=some i∧i.zero=some z∧i.size=sh.size∧i.bytes=bytes∧z.cells.size=sh.size∧(0+ys.length)*bytes≤1099511627776) (htx:∃e',P.underlying tx=some (.slice e')) (hpos:0<sh.size)
 (hlen:0+ys.length≤1099511627776) (hy:∃ad c,a.eval y'=.slice ad ys.length c∧(ys=[]∨∃b o us,ad=some ⟨b,o,none⟩∧RDs C sh ys us∧CellsAt C.w b o us)) :
 OpGood P o a C φ s.h (.sl i [] 0 (0+ys.length) none) (s.h.set i (.sl false sh ys)) (fun _=>False):=by
 obtain ⟨st,k⟩:=vv hs.hr hs.bd hi (w':=C.w) (B:=.sl false sh []) (l:=none) (fun _ _=>rfl) (ba _) rfl rfl rfl (by simp) (by simp [RB])
 have hil:i<s.h.length:=(ao.1 hi).1
 have hs1:SR C (φ.put i none) ⟨s.e,s.h.set i (.sl false sh [])⟩ a.tmps:=⟨st.hr,st.bd,fun n v hn=>by
  obtain ⟨u,h1,h2⟩:=hs.env n v hn;exact ⟨u,h1,k v u (by simp) h2⟩⟩
 have hself:(s.h.set i (.sl false sh []))[i]? = some (.sl false sh []):=b4 hil
 have app:AppIn P C (φ.put i none) ⟨s.e,s.h.set i (.sl false sh [])⟩ a sh t tx x' y' i 0 0 (some 0) false [] ys:=by
  refine ⟨hty,htx,hpos,hlen,?_,hself,by simp,hy⟩
  simp only [RX];exact ⟨_,0,sh,0,none,0,hself,by simp [Blk.run],by omega,hx,by omega,by simp,by simp⟩
 obtain ⟨C',φ',u,n,hrun,hn,st2,hx2,k2⟩:=A1 hs1 ho app;have e:(s.h.set i (.sl false sh [])).set i (.sl false sh ((([]:List D).drop 0).take 0++ys))=s.h.set i (.sl false sh ys):=by simp
 rw [e] at st2 hx2 k2;refine ⟨C',φ',u,n,hrun,hn,st.trans st2,hx2,fun v w hv hx=>?_⟩
 refine k2 v w (fun j hj hji=>?_) (k v w hv hx)
 obtain ⟨B,hB,hne⟩:=RX.refs v w hx j hj;rw [hji,hi] at hB;exact hne (au hB).symm
theorem Ij (hs:SR C φ s a.tmps) {sh:Sh} {t tx:TypeId} {x' y':Operand} {i j off n:Nat} {fr:Bool} {cs ys:List D} (ho:o.op=.call { callee:=.builtin .append,args:=#[x',y'],argTypes:=#[t,tx] })
 (h:AppIn P C φ s a sh t tx x' y' j off n (some n) fr cs ys) (hys:ys≠[]) (hi:s.h[i]? = some .hole) :
 OpGood P o a C φ s.h (.sl i [] 0 (n+ys.length) none) (s.h.set i (.sl false sh ((cs.drop off).take n++ys))) K:=by
 have hX:=h.x;simp only [RX] at hX;obtain ⟨B,base,s',m,ad,c,hB,hrun,hm,hx,hlc,hcap,hloc⟩:=hX;have hcn:=hcap n rfl;subst hcn;have hpos:0<ys.length:=kv.2 hys
 have hexec:∀v w',(Builtin.append_ #[t,tx] o.type #[a.eval x',a.eval y']).run P C.w=.ok v w'→(execOp a.eval o).run P C.w=.ok (.value v) w':=by
  intro v w' hr;simp [execOp,ho,resolve,invoke,builtin,hr]
 obtain ⟨el,us,arr,c',hr,hrd,harr,hc',hsz⟩:=Hn hs h (ty:=o.type) hx (by omega)
 have hC1:∀b,b<C.w.heap.size→(C.w.drew.alloc (.cells arr el (0,0))).heap[b]? = C.w.heap[b]?:=fun b hb=>dz C.w.drew _ _ hb
 have hC:C.Le { C with w:=C.w.drew.alloc (.cells arr el (0,0)) }:=⟨rfl,fun _ g=>g,fun b g=>hC1 b (hs.bd b g)⟩
 have hget:(C.w.drew.alloc (.cells arr el (0,0))).heap[C.w.heap.size]? = some (.cells arr el (0,0)):=pz C.w.drew _;have hil:i<s.h.length:=(ao.1 hi).1
 obtain ⟨st,k⟩:=vv hs.hr hs.bd hi (w':=C.w.drew.alloc (.cells arr el (0,0))) (B:=.sl false sh ((cs.drop off).take c++ys)) (l:=some (C.w.heap.size,0)) hC1
  (by show C.w.heap.size≤(C.w.heap.push _).size; simp) rfl rfl rfl (by intro b o e; simp only [ab,al] at e; omega) (by
   simp only [RB];refine ⟨us,RDs.mono hC _ _ _ hrd,?_⟩;simp only [RAt,b5,if_false];exact ⟨fun g=>by have:=hs.bd _ g; omega,arr,el,hget,fun q u hq=>by rw [b9]; exact harr q u hq⟩)
 refine ⟨_,_,_,_,hexec _ _ hr,.inl rfl,st,?_,k.mono (by simp)⟩
 simp only [RX];refine ⟨_,0,sh,_,_,c',b4 hil,by simp [Blk.run]; rfl,?_,rfl,hc',by simp,fun _=>⟨C.w.heap.size,0,arr,el,(0,0),by simp [Loc.put],by simp,hget,by simpa using hsz⟩⟩
 have:=h.le;omega
end
mutual
def Ih (P:Program):TypeId→Q→Bool
 | t,.int=>match P.underlying t with | some (.int _)=>true | _=>false
 | t,.bool=>match P.underlying t with | some .bool=>true | _=>false
 | t,.str=>match P.underlying t with | some .string=>true | _=>false
 | t,.arr n s q=>match P.underlying t with | some (.array n' e)=>n' == n&&nj P e s&&Ih P e q | _=>false
 | t,.st ss qs=>match P.underlying t with | some (.struct fs)=>!P.stoodInHeld t&&il P 0 fs.toList ss&&Oc P fs.toList qs | _=>false
def Oc (P:Program):List Field→List Q→Bool
 | [],[]=>true
 | f :: fs, q :: qs => f.name != "_" && Ih P f.type q && Oc P fs qs
 | _,_=>false
end
mutual
def Q.depth:Q→Nat
 | .int | .bool | .str=>1
 | .arr _ _ q=>q.depth+1
 | .st _ qs=>Q.depths qs+1
def Q.depths:List Q→Nat
 | []=>0
 | q::qs=>max q.depth (Q.depths qs)
end
def aas (P:Program) (d:Nat) (t:TypeId) (q:Q):Prop:=
 ∀(C:Cx) (w:World) (x y:D) (u v:Value) (r:Bool),isAgg u=x.isAgg→isAgg v=y.isAgg→RD C x u.cells.toList→RD C y v.cells.toList→D.beq q x y=some r→(Go.Op.equalIn d t u v).run P w=.ok r w
theorem Cq {C:Cx} {w:World} {d:Nat} {e:TypeId} {s:Sh} {q:Q} (he:nj P e s=true) (hq:aas P d e q) (xa ya:Array Value):∀(xs ys:List D) (i:Nat) (r:Bool),
 RDs C s xs (xa.toList.drop (i*s.size))→RDs C s ys (ya.toList.drop (i*s.size))→D.beqs q xs ys=some r→i*s.size+xs.length*s.size≤xa.size→i*s.size+ys.length*s.size≤ya.size →
 (Go.Op.eqItems d e (P.cellsOf e) xa ya (List.range' i xs.length)).run P w=.ok r w
 | [],[],i,r,_,_,hb,_,_=>by
  simp only [D.beqs,ab] at hb; subst hb;simp [Go.Op.eqItems]
 | x::xs,y::ys,i,r,hx,hy,hb,hlx,hly=>by
  obtain ⟨inf,hi,hsz⟩:=gz he;have hcell:P.cellsOf e=s.size:=by simp [Program.cellsOf,hi,hsz]
  simp only [RDs] at hx hy;obtain ⟨a,ra,hxa,hxs,hxd,hxr⟩:=hx;obtain ⟨b,rb,hyb,hys,hyd,hyr⟩:=hy;have hal:a.length=s.size:=by rw [ji x a hxd,hxs]
  have hbl:b.length=s.size:=by rw [ji y b hyd,hys]
  simp only [bv,fq] at hlx hly;have ex:(xa.toList.drop (i*s.size)).take x.sh.size=a:=by rw [hxa,hxs,←hal,pv]
  have ey:(ya.toList.drop (i*s.size)).take y.sh.size=b:=by rw [hyb,hys,←hbl,pv]
  obtain ⟨u,hu,hru⟩:=Bq (P:=P) (C:=C) (x:=x) (w:=w) (arr:=xa) (off:=i*s.size) (by rw [hxs]; exact he) (by rw [ex]; exact hxd) (by rw [hxs]; omega)
  obtain ⟨v,hv,hrv⟩:=Bq (P:=P) (C:=C) (x:=y) (w:=w) (arr:=ya) (off:=i*s.size) (by rw [hys]; exact he) (by rw [ey]; exact hyd) (by rw [hys]; omega)
  have nt:∀(z:D) (cs:List Value),RD C z cs→z.isTup=false:=by
   intro z cs h; cases z <;> simp_all [RD,D.isTup]
  obtain ⟨u1,u2⟩:=hru.notTup (nt x a hxd);obtain ⟨v1,v2⟩:=hrv.notTup (nt y b hyd);simp only [D.beqs] at hb;obtain ⟨r0,h0,hb⟩:=aa.1 hb;have hq0:=hq C w x y u v r0 u1 v1 u2 v2 h0;rw [bv,List.range'_succ];simp only [Go.Op.eqItems,hcell,Sem.run_bind,hu,hv,hq0,Result.andThen_ok];cases r0
  ·simp only [b5,if_false,ab] at hb
   subst hb; simp
  ·simp only [if_true] at hb
   have e1:(i+1)*s.size=i*s.size+s.size:=fq _ _;have:=Cq (w:=w) he hq xa ya xs ys (i+1) r (by rw [e1,←jc,hxa,←hal,kb]; exact hxr) (by rw [e1,←jc,hyb,←hbl,kb]; exact hyr) hb (by omega) (by omega)
   rw [hcell] at this
   simpa using this
 | [],_::_,_,_,_,_,hb,_,_=>by simp [D.beqs] at hb
 | _::_,[],_,_,_,_,hb,_,_=>by simp [D.beqs] at hb
theorem Aw {C:Cx} {w:World} {d:Nat} (xa ya:Array Value):∀(fs:List Field) (ss:List Sh) (qs:List Q) (xs ys:List D) (off:Nat) (r:Bool),il P off fs ss=true→Oc P fs qs=true →
 (∀f∈fs,∀q∈qs,Ih P f.type q=true→aas P d f.type q) →
 RDst C ss xs (xa.toList.drop off)→RDst C ss ys (ya.toList.drop off)→D.beqf qs xs ys=some r→off+Sh.sizes ss≤xa.size→off+Sh.sizes ss≤ya.size →
 (Go.Op.eqFields d xa ya fs).run P w=.ok r w
 | [],[],qs,xs,ys,off,r,_,he,_,hx,hy,hb,_,_=>by
  cases xs <;> simp only [RDst] at hx
  cases ys <;> simp only [RDst] at hy
  cases qs <;> simp only [Oc,b5] at he
  simp only [D.beqf,ab] at hb; subst hb;simp [Go.Op.eqFields]
 | f::fs,s::ss,qs,xs,ys,off,r,hf,he,hall,hx,hy,hb,hlx,hly=>by
  cases xs with
  | nil=>simp [RDst] at hx
  | cons x xs=>
   cases ys with
   | nil=>simp [RDst] at hy
   | cons y ys=>
    cases qs with
    | nil=>simp [Oc] at he
    | cons q qs=>
     simp only [il,av,beq_iff_eq] at hf;simp only [Oc,av,bne_iff_ne,ne_eq] at he;simp only [Sh.sizes] at hlx hly;simp only [RDst] at hx hy;obtain ⟨a,ra,hxa,hxs,hxd,hxr⟩:=hx;obtain ⟨b,rb,hyb,hys,hyd,hyr⟩:=hy;have hal:a.length=s.size:=by rw [ji x a hxd,hxs]
     have hbl:b.length=s.size:=by rw [ji y b hyd,hys]
     have ex:(xa.toList.drop off).take x.sh.size=a:=by rw [hxa,hxs,←hal,pv]
     have ey:(ya.toList.drop off).take y.sh.size=b:=by rw [hyb,hys,←hbl,pv]
     obtain ⟨u,hu,hru⟩:=Bq (P:=P) (C:=C) (x:=x) (w:=w) (arr:=xa) (off:=off) (by rw [hxs]; exact hf.1.2) (by rw [ex]; exact hxd) (by rw [hxs]; omega)
     obtain ⟨v,hv,hrv⟩:=Bq (P:=P) (C:=C) (x:=y) (w:=w) (arr:=ya) (off:=off) (by rw [hys]; exact hf.1.2) (by rw [ey]; exact hyd) (by rw [hys]; omega)
     have nt:∀(z:D) (cs:List Value),RD C z cs→z.isTup=false:=by
      intro z cs h; cases z <;> simp_all [RD,D.isTup]
     obtain ⟨u1,u2⟩:=hru.notTup (nt x a hxd);obtain ⟨v1,v2⟩:=hrv.notTup (nt y b hyd);simp only [D.beqf] at hb;obtain ⟨r0,h0,hb⟩:=aa.1 hb;have hq0:=hall f (by simp) q (by simp) he.1.2 C w x y u v r0 u1 v1 u2 v2 h0
     simp only [Go.Op.eqFields,he.1.1,ne_eq,not_false_eq_true,if_true,Sem.run_bind,hf.1.1,hu,hv,hq0,Result.andThen_ok];cases r0
     ·simp only [b5,if_false,ab] at hb
      subst hb; simp
     ·simp only [if_true] at hb
      have:=Aw (w:=w) (d:=d) xa ya fs ss qs xs ys (off+s.size) r hf.2 he.2 (fun g hg q hq=>hall g (by simp [hg]) q (by simp [hq])) (by rw [←jc,hxa,←hal,kb]; exact hxr) (by rw [←jc,hyb,←hbl,kb]; exact hyr) hb (by omega) (by omega)
      simpa using this
 | [],_::_,_,_,_,_,_,hf,_,_,_,_,_,_,_=>by simp [il] at hf
 | _::_,[],_,_,_,_,_,hf,_,_,_,_,_,_,_=>by simp [il] at hf
theorem rh {_C:Cx} {x:D} {u:Value} {c:Value} (h:isAgg u=x.isAgg) (hx:x.isAgg=false) (hd:u.cells.toList=[c]):u=c:=by
 rw [hx] at h;cases u <;> simp_all [isAgg,Value.cells]
theorem Bx {x:D} {u:Value} (h:isAgg u=x.isAgg) (hx:x.isAgg=true):∃a,u=.agg a∧u.cells.toList=a.toList:=by
 rw [hx] at h;cases u <;> simp_all [isAgg,Value.cells]
mutual
theorem Cw:∀(q:Q) (d:Nat) (t:TypeId),Ih P t q=true→aas P (d+q.depth) t q
 | .int,d,t,hk=>by
  intro C w x y u v r ux vy hxd hyd hb;cases x <;> cases y <;> simp only [D.beq,reduceCtorEq] at hb
  rename_i k a k' b
  simp only [RD] at hxd hyd;have e1:=rh (_C:=C) ux rfl hxd;have e2:=rh (_C:=C) vy rfl hyd;subst e1; subst e2
  by_cases hkk:k=k'
  ·rw [if_pos hkk,ab] at hb
   subst hb; subst hkk;unfold Ih at hk;cases hu:P.underlying t with
   | none=>simp [hu] at hk
   | some kd=>
    rw [hu] at hk;cases kd <;> simp only [b5] at hk
    simp only [Q.depth,Go.Op.equalIn,Sem.run_bind,run_underlying hu,Result.andThen_ok,if_true,Sem.run_pure];rfl
  ·rw [if_neg hkk] at hb; cases hb
 | .bool,d,t,hk=>by
  intro C w x y u v r ux vy hxd hyd hb;cases x <;> cases y <;> simp only [D.beq,reduceCtorEq] at hb
  simp only [RD] at hxd hyd;have e1:=rh (_C:=C) ux rfl hxd;have e2:=rh (_C:=C) vy rfl hyd;subst e1; subst e2;obtain rfl:=au hb;unfold Ih at hk;cases hu:P.underlying t with
  | none=>simp [hu] at hk
  | some kd=>
   rw [hu] at hk;cases kd <;> simp only [b5] at hk
   simp only [Q.depth,Go.Op.equalIn,Sem.run_bind,run_underlying hu,Result.andThen_ok,Sem.run_pure]
 | .str,d,t,hk=>by
  intro C w x y u v r ux vy hxd hyd hb;cases x <;> cases y <;> simp only [D.beq,reduceCtorEq] at hb
  simp only [RD] at hxd hyd;have e1:=rh (_C:=C) ux rfl hxd;have e2:=rh (_C:=C) vy rfl hyd;subst e1; subst e2;obtain rfl:=au hb;unfold Ih at hk;cases hu:P.underlying t with
  | none=>simp [hu] at hk
  | some kd=>
   rw [hu] at hk;cases kd <;> simp only [b5] at hk
   simp only [Q.depth,Go.Op.equalIn,Sem.run_bind,run_underlying hu,Result.andThen_ok,Sem.run_pure]
 | .arr n s q,d,t,hk=>by
  intro C w x y u v r ux vy hxd hyd hb;cases x <;> cases y <;> simp only [D.beq,reduceCtorEq] at hb
  rename_i n1 s1 xs n2 s2 ys
  split at hb
  ·rename_i hc
   obtain ⟨rfl,rfl,h3,h4⟩:=hc;obtain rfl:=Sh.beq_eq _ _ h3;obtain rfl:=Sh.beq_eq _ _ h4;obtain ⟨xa,rfl,e1⟩:=Bx ux rfl;obtain ⟨ya,rfl,e2⟩:=Bx vy rfl;rw [e1] at hxd;rw [e2] at hyd;simp only [RD] at hxd hyd;unfold Ih at hk;cases hu:P.underlying t with
   | none=>simp [hu] at hk
   | some kd=>
    rw [hu] at hk;cases kd <;> simp only [b5] at hk
    rename_i n' e
    simp only [av,beq_iff_eq] at hk;obtain ⟨⟨rfl,he⟩,hq⟩:=hk;obtain ⟨inf,hi,hsz⟩:=gz he;have l1:=n6 _ _ _ hxd.2;have l2:=n6 _ _ _ hyd.2;have key:=Cq (w:=w) he (Cw q d e hq) xa ya xs ys 0 r (by simpa using hxd.2) (by simpa using hyd.2) hb (by simp at l1 ⊢; omega) (by simp at l2 ⊢; omega)
    rw [hxd.1] at key;show (Go.Op.equalIn ((d+q.depth)+1) _ _ _).run P w=_;rw [run_equalIn_array _ _ _ _ hu hi,List.range_eq_range'];exact key
  ·cases hb
 | .st ss qs,d,t,hk=>by
  intro C w x y u v r ux vy hxd hyd hb;cases x <;> cases y <;> simp only [D.beq,reduceCtorEq] at hb
  rename_i s1 xs s2 ys
  split at hb
  ·rename_i hc
   obtain ⟨h3,h4⟩:=hc;obtain rfl:=Sh.beqs_eq _ _ h3;obtain rfl:=Sh.beqs_eq _ _ h4;obtain ⟨xa,rfl,e1⟩:=Bx ux rfl;obtain ⟨ya,rfl,e2⟩:=Bx vy rfl;rw [e1] at hxd;rw [e2] at hyd;simp only [RD] at hxd hyd;unfold Ih at hk;cases hu:P.underlying t with
   | none=>simp [hu] at hk
   | some kd=>
    rw [hu] at hk;cases kd <;> simp only [b5] at hk
    rename_i fs
    simp only [av,kh] at hk;obtain ⟨⟨hst,hf⟩,hq⟩:=hk;have hfs:P.fieldsOf t=fs:=by simp [Program.fieldsOf,hu]
    have l1:=Ez _ _ _ hxd;have l2:=Ez _ _ _ hyd;have key:=Aw (P:=P) (w:=w) (d:=d+Q.depths qs) xa ya fs.toList _ qs xs ys 0 r hf hq (Hq qs d fs.toList) (by simpa using hxd) (by simpa using hyd) hb (by simp at l1 ⊢; omega) (by simp at l2 ⊢; omega)
    show (Go.Op.equalIn ((d+Q.depths qs)+1) _ _ _).run P w=_;rw [run_equalIn_struct _ _ _ _ _ (by rw [hfs]; exact hu) hst,hfs]
    exact key
  ·cases hb
theorem Hq:∀(qs:List Q) (d:Nat) (fs:List Field),∀f∈fs,∀q∈qs,Ih P f.type q=true→aas P (d+Q.depths qs) f.type q
 | [],d,fs=>by intro f _ q hq; simp at hq
 | q0::qs,d,fs=>by
  intro f hf q hq hk;rcases dp.1 hq with h | hq
  ·rw [h] at hk ⊢
   have:=Cw q0 (d+(Q.depths (q0::qs)-q0.depth)) f.type hk
   rwa [show d+(Q.depths (q0::qs)-q0.depth)+q0.depth=d+Q.depths (q0::qs) by simp only [Q.depths]; omega] at this
  ·have:=Hq qs (d+(Q.depths (q0::qs)-Q.depths qs)) fs f hf q hq hk
   rwa [show d+(Q.depths (q0::qs)-Q.depths qs)+Q.depths qs=d+Q.depths (q0::qs) by simp only [Q.depths]; omega] at this
end
section
variable {C:Cx} {φ:Loc} {s:St} {a:Act} {o:Oper} {K:Nat→Prop}
theorem a8q (hs:SR C φ s a.tmps) {neg:Bool} {q:Q} {x y:Arg} {x' y':Operand} {t yt:TypeId} (ho:o.op=.binOp (if neg then .neq else .eql) t x' y' yt) (hx:ck C.num x x'=true) (hy:ck C.num y y'=true)
 (hq:Ih P t q=true) (hqs:q≠.str) (hd:q.depth≤10000) (hg:P.eqGuardType P.depth t=false) {d e:D} (hvx:s.e.arg x=some (.d d)) (hvy:s.e.arg y=some (.d e)) {r:Bool} (hr:D.beq q d e=some r) :
 OpGood P o a C φ s.h (.d (.bool (if neg then !r else r))) s.h K:=by
 have h1:=c6 hs hx hvx;have h2:=c6 hs hy hvy
 have nt:d.isTup=false∧e.isTup=false:=by
  cases q <;> cases d <;> cases e <;> simp_all [D.beq,D.isTup]
 simp only [RX] at h1 h2;obtain ⟨u1,u2⟩:=h1.notTup nt.1;obtain ⟨v1,v2⟩:=h2.notTup nt.2;have key:=Cw q (10000-q.depth) t hq C C.w d e _ _ r u1 v1 u2 v2 hr;rw [show 10000-q.depth+q.depth=10000 by omega] at key
 refine cg hs (u:=.bool (if neg then !r else r)) ?_ (kl ..)
 have hagg:d.isAgg=e.isAgg:=by
  cases q <;> cases d <;> cases e <;> simp_all [D.beq,D.isAgg]
 cases hda:d.isAgg with
 | true=>
  obtain ⟨xa,e1,_⟩:=Bx u1 hda;obtain ⟨ya,e2,_⟩:=Bx v1 (hagg▸hda);rw [e1,e2] at key;cases neg <;> simp [execOp,ho,e1,e2,run_eqGuard_agg _ _ _ _ _ _ _ hg,run_eql_struct,run_neq_struct,key]
 | false=>
  cases d <;> cases e <;> cases q <;> simp only [D.beq,reduceCtorEq] at hr <;> simp only [D.isAgg,Bool.true_eq_false] at hda
  ·rename_i k m k' n
   simp only [RD] at u2 v2;have e1:=rh (_C:=C) u1 rfl u2;have e2:=rh (_C:=C) v1 rfl v2
   by_cases hkk:k=k'
   ·rw [if_pos hkk,ab] at hr
    subst hr; subst hkk;cases neg <;> simp [execOp,ho,e1,e2,eqGuard,binOp,Go.Op.intCmp] <;> by_cases h:m=n <;> simp [h]
   ·rw [if_neg hkk] at hr; cases hr
  ·simp only [RD] at u2 v2
   have e1:=rh (_C:=C) u1 rfl u2;have e2:=rh (_C:=C) v1 rfl v2;rw [e1,e2] at key;cases neg <;> simp [execOp,ho,e1,e2,eqGuard,binOp,Go.Op.equal,Go.Op.maxDepth,key]
  ·simp only [RD] at u2 v2
   have e1:=rh (_C:=C) u1 rfl u2;have e2:=rh (_C:=C) v1 rfl v2;exact absurd rfl hqs
theorem a3j (hs:SR C φ s a.tmps) {op:BinOp} {x y:ByteArray} {t yt:TypeId} {x' y':Operand} (ho:o.op=.binOp op t x' y' yt) (hx:a.eval x'=.string x) (hy:a.eval y'=.string y)
 {d:D} (hd:aae op x y=some d):OpGood P o a C φ s.h (.d d) s.h K:=by
 cases op <;> simp only [aae,ab,reduceCtorEq] at hd
 case add=>
  by_cases h0:x.size+y.size≤9223372036854775807
  ·rw [if_pos h0,ab] at hd; subst hd
   exact cg hs (u:=.string (x++y)) (by simp [execOp,ho,hx,hy,eqGuard,binOp,run_string_add_sum _ x y h0]) (by simp only [RX]; exact RV.mk ⟨rfl,by simp [RD,Value.cells]⟩)
  ·rw [if_neg h0] at hd; cases hd
 case eql=>subst hd; exact cg hs (u:=.bool (x.toList == y.toList)) (by simp [execOp,ho,hx,hy,eqGuard,binOp,Go.Op.stringOp]) (kl ..)
 case neq=>subst hd; exact cg hs (u:=.bool (!(x.toList == y.toList))) (by simp [execOp,ho,hx,hy,eqGuard,binOp,Go.Op.stringOp]) (kl ..)
theorem Oo (hs:SR C φ s a.tmps) {neg:Bool} {x:Arg} {x' y':Operand} {t yt e:TypeId} (ho:o.op=.binOp (if neg then .neq else .eql) t x' y' yt) (hx:ck C.num x x'=true) (ht:P.underlying t=some (.slice e)) (hy:a.eval y'=.slice none 0 0)
 (hv:(∃sh c cs,s.e.arg x=some (.d (.sl sh (c::cs))))∨∃i p off n cap,s.e.arg x=some (.sl i p off (n+1) cap)):OpGood P o a C φ s.h (.d (.bool neg)) s.h K:=by
 have key:∃ad n c,a.eval x'=.slice (some ad) n c:=by
  rcases hv with ⟨sh,d,cs,hv⟩ | ⟨i,p,off,n,cap,hv⟩
  ·obtain ⟨ad,c,e1,_,h2⟩:=Np (c6 hs hx hv)
   rcases h2 with h2 | ⟨b,o,us,e2,_⟩
   ·cases h2
   ·subst e2; exact ⟨_,_,_,e1⟩
  ·have:=c6 hs hx hv
   simp only [RX] at this;obtain ⟨B,base,sh,m,ad,c,_,_,_,e1,hl,_,hloc⟩:=this;obtain ⟨b,o,arr,el,fz,_,e2,_⟩:=hloc (by omega)
   subst e2; exact ⟨_,_,_,e1⟩
 obtain ⟨ad,n,c,e1⟩:=key;refine cg hs (u:=.bool neg) ?_ (kl ..)
 have hq:(Go.Op.equal t (.slice (some ad) n c) (.slice none 0 0)).run P C.w=.ok false C.w:=by
  show (Go.Op.equalIn (9999+1) t (.slice (some ad) n c) (.slice none 0 0)).run P C.w=.ok false C.w;generalize 9999=d;simp only [Go.Op.equalIn,Sem.run_bind,run_underlying ht,Result.andThen_ok,Sem.run_pure]
 cases neg
 ·have hb:binOp .eql t (.slice (some ad) n c) (.slice none 0 0)=(do pure (.bool (←Go.Op.equal t (.slice (some ad) n c) (.slice none 0 0)))):=rfl
  simp [execOp,ho,e1,hy,eqGuard,hb,hq]
 ·have hb:binOp .neq t (.slice (some ad) n c) (.slice none 0 0)=(do pure (.bool (!(←Go.Op.equal t (.slice (some ad) n c) (.slice none 0 0))))):=rfl
  simp [execOp,ho,e1,hy,eqGuard,hb,hq]
end
theorem Hs {C C3:Cx} {φ:Loc} {h:Heap} (hr:HR C φ h) (hC:C.Le C3) (hw:∀b,b<C.w.heap.size→C3.w.heap[b]? = C.w.heap[b]?) (hI:∀b,C3.I b→C.I b∨C.w.heap.size≤b)
 (hs:C.w.heap.size≤C3.w.heap.size) (h1:C3.w.os=C.w.os) (h2:C3.w.output=C.w.output) (h3:C3.w.tape=C.w.tape) (hb:∀b,C3.I b→b<C3.w.heap.size) :
 Step C C3 φ φ h h∧Keeps C C3 φ φ h h (fun _=>False):=by
 have hwd:∀b,Wide C.w C3.w b:=Wide.of_lt hw;refine ⟨⟨hC,fun b hbl _=>hw b hbl,fun b g=>(hI b g).imp id .inl,fun _ g=>.inl g,hs,h1,h2,h3,⟨fun i B hB=>?_,hr.inj⟩,hb,hwd⟩,fun v u _ g=>?_⟩
 ·refine (hr.blk i B hB).world' hC hwd fun k b o hk e hn=>?_
  have:=(RB.at hn (hr.blk i B hB) hk e).1;exact ⟨hw b this,⟨fun g=>(hI b g).resolve_right (by omega),hC.I b⟩⟩
 ·exact RX.congr hC v u (fun i _ B hB=>⟨B,hB,.refl B⟩) (fun _ _=>rfl) hwd g
def Yw (P : Program) (f : FuncId) : Prop := ∃ fn, P.funcs[f]? = some fn ∧ fn.name ≠ "runtime.NumGoroutine" ∧ fn.body.isSome = true
def To (P:Program) (f:FuncId) (us:List Value) (C:Cx) (φ:Loc) (h h':Heap) (v:V):Prop:=
 Yw P f∧Calls P f us.toArray C.w fun e w'=>∃u C' φ',e=.returned u∧C'.w=w'∧Step C C' φ φ' h h'∧Keeps C C' φ φ' h h' (fun _=>False)∧RX C' φ' h' v u
def km (P:Program) (num:Nat→Nat) (O:am):Prop:=
 ∀f vs bs ans,O f vs bs=some ans→∀(C:Cx) (φ:Loc) (us:List Value),C.num=num→HR C φ bs→(∀b,C.I b→b<C.w.heap.size)→RXs C φ bs vs us →
  ans.2.1.length=bs.length∧To P (num f) us C φ bs (ans.2.1++ans.2.2) ans.1
theorem wm {C:Cx} {φ:Loc} {h:Heap}:∀{ds:List D} {us:List Value},RVs C ds us→RXs C φ h (ds.map .d) us
 | [],us,g=>by simp only [RVs] at g; subst g; simp [RXs]
 | d::ds,us,g=>by
  simp only [RVs] at g;obtain ⟨v,r,rfl,h1,h2,h3⟩:=g;simp only [gq,RXs];exact ⟨v,r,rfl,by simp only [RX]; exact RV.mk ⟨h1,h2⟩,wm h3⟩
theorem Jl {O:am} {C:Cx} {φ:Loc} {h h':Heap} (hO:km P C.num O) (hr:HR C φ h) (hb:∀b,C.I b→b<C.w.heap.size) {m:Mode} {f:Nat} {vs:List V} {us:List Value} (hv:RXs C φ h vs us) {v:V}
 (hc:jy O m h f vs=some (v,h')):To P (C.num f) us C φ h h' v:=by
 unfold jy at hc;obtain ⟨ds,hds,hc⟩:=aa.1 hc;obtain ⟨ans,hans,hc⟩:=aa.1 hc;obtain ⟨x,hx,hc⟩:=aa.1 hc;have hrv:=wh hr vs ds us hds hv;obtain ⟨st1,k1⟩:=I6 hr hb (V.refss vs);obtain ⟨hl,hbody,hcall⟩:=hO f (ds.map .d) [] ans hans (C.plus (y9 φ h (V.refss vs))) (fun _ _=>none) us rfl ⟨by simp,by simp⟩ st1.bd (wm hrv)
 refine ⟨hbody,Calls.mono hcall ?_⟩
 rintro e w' ⟨u,C2,φ2,rfl,rfl,st2,_,hu⟩
 have hnil:ans.2.1=[]:=ej.1 hl;rw [hnil,cw] at st2 hu;have hno:∀b,¬ OwnB (fun _ _=>none) [] b:=by rintro b ⟨i,k,B,o,hB,_⟩; simp at hB
 have hxv:=v5 st2.hr ans.1 x u hx hu
 have hI2:∀b,C2.I b→(C.plus (y9 φ h (V.refss vs))).I b∨C.w.heap.size≤b:=fun b g=>by
  rcases st2.fresh b g with g | g | g
  ·exact .inl g
  ·exact .inr g
  ·exact absurd g (hno b)
 have hI3:∀b,(C2.plus (y9 φ2 ans.2.2 (V.refs ans.1))).I b→(C.plus (y9 φ h (V.refss vs))).I b∨C.w.heap.size≤b:=by
  rintro b (g | ⟨i,hi,k,B,o,hB,hn,hk,hφ⟩)
  ·exact hI2 b g
  ·cases ho:B.own with
   | true=>
    rcases st2.own b ⟨i,k,B,o,hB,ho,hk,hφ⟩ with g | g
    ·exact absurd g (hno b)
    ·exact .inr g
   | false=>exact hI2 b ((RB.at hn (st2.hr.blk i B hB) hk hφ).2.2 ho)
 have hbd3:∀b,(C2.plus (y9 φ2 ans.2.2 (V.refs ans.1))).I b→b<C2.w.heap.size:=by
  rintro b (g | ⟨i,hi,k,B,o,hB,hn,hk,hφ⟩)
  ·exact st2.bd b g
  ·exact (RB.at hn (st2.hr.blk i B hB) hk hφ).1
 have data:∀(e:h'=freeze h (V.refss vs)) (e':v=.d x),∃u0 C' φ',Ending.returned u=.returned u0∧C'.w=C2.w∧Step C C' φ φ' h h'∧Keeps C C' φ φ' h h' (fun _=>False)∧RX C' φ' h' v u0:=by
  rintro rfl rfl
  obtain ⟨st3,k3⟩:=Hs (C3:=C2.plus (y9 φ2 ans.2.2 (V.refs ans.1))) st1.hr (st2.le.trans (C2.le_plus _)) (fun b hb=>st2.kept b hb (hno b)) hI3 st2.size st2.os st2.out st2.tape hbd3
  exact ⟨u,C2.plus (y9 φ2 ans.2.2 (V.refs ans.1)),φ,rfl,rfl,st1.trans st3,k1.trans k3,by simp only [RX]; exact hxv⟩
 cases m with
 | flat=>
  simp only at hc
  by_cases hf:x.flat=true
  ·rw [if_pos hf] at hc
   simp only [ab,al] at hc;obtain ⟨rfl,rfl⟩:=hc
   obtain ⟨st3,k3⟩:=Hs (C3:={ C with w:=C2.w }) hr ⟨rfl,fun _ g=>g,fun b g=>st2.le.w b (.inl g)⟩ (fun b hb=>st2.kept b hb (hno b)) (fun b g=>.inl g) st2.size st2.os st2.out st2.tape
    (fun b g=>st2.bd b (st2.le.I b (.inl g)))
   exact ⟨u,{ C with w:=C2.w },φ,rfl,rfl,st3,k3,by simp only [RX]; exact ab3 _ _ hf hxv⟩
  ·rw [if_neg hf] at hc; cases hc
 | plain=>
  simp only at hc
  by_cases hf:(V.refss vs).isEmpty=true
  ·rw [if_pos hf] at hc
   simp only [ab,al] at hc;obtain ⟨rfl,rfl⟩:=hc;have:V.refss vs=[]:=by simpa using hf
   exact data (by rw [this]; rfl) rfl
  ·rw [if_neg hf] at hc; cases hc
 | data | heap=>
  simp only [ab,al] at hc;obtain ⟨rfl,rfl⟩:=hc;exact data rfl rfl
def Moves (C C':Cx) (φ φ':Loc) (h h':Heap) (f:Nat→Nat) (is:List Nat):Prop:=
 ∀i∈is,(∀p u,RX C φ h (.ptr i p) u→RX C' φ' h' (.ptr (f i) p) u)∧(∀u,RX C φ h (.mp i) u→RX C' φ' h' (.mp (f i)) u)∧∀p off len cap u,RX C φ h (.sl i p off len cap) u→RX C' φ' h' (.sl (f i) p off len cap) u
theorem Moves.sub {C C':Cx} {φ φ':Loc} {h h':Heap} {f:Nat→Nat} {is js:List Nat} (g:Moves C C' φ φ' h h' f is) (hs:∀j∈js,j∈is):Moves C C' φ φ' h h' f js:=
 fun j hj=>g j (hs j hj)
mutual
theorem RX.lift {C C':Cx} {φ φ':Loc} {h h':Heap} {f:Nat→Nat} (hC:C.Le C'):∀(v:V) (u:Value),Moves C C' φ φ' h h' f v.refs→RX C φ h v u→RX C' φ' h' (v.ren f) u
 | .d x,u,_,g=>by
  simp only [RX,V.ren] at g ⊢;exact RV.mono hC x u g
 | .ptr i p,u,hm,g=>by
  simp only [V.ren];exact (hm i (by simp [V.refs])).1 p u g
 | .sl i p off len cap,u,hm,g=>by
  simp only [V.ren];exact (hm i (by simp [V.refs])).2.2 p off len cap u g
 | .mp i,u,hm,g=>by
  simp only [V.ren];exact (hm i (by simp [V.refs])).2.1 u g
 | .fn k first caps,u,hm,g=>by
  simp only [RX,V.ren] at g ⊢;obtain ⟨us,vs,e,g1,g2⟩:=g;exact ⟨us,vs,by rw [hC.num]; exact e,RXs.lift hC first _ (hm.sub fun j hj=>by simp [V.refs,hj]) g1,RXs.lift hC caps _ (hm.sub fun j hj=>by simp [V.refs,hj]) g2⟩
 | .tup xs,u,hm,g=>by
  simp only [RX,V.ren] at g ⊢;obtain ⟨us,e,g1⟩:=g;exact ⟨us,e,RXs.lift hC xs _ (hm.sub fun j hj=>by simpa [V.refs] using hj) g1⟩
theorem RXs.lift {C C':Cx} {φ φ':Loc} {h h':Heap} {f:Nat→Nat} (hC:C.Le C'):∀(vs:List V) (us:List Value),Moves C C' φ φ' h h' f (V.refss vs)→RXs C φ h vs us→RXs C' φ' h' (V.rens f vs) us
 | [],us,_,g=>by simpa only [RXs,V.rens] using g
 | x::xs,us,hm,g=>by
  simp only [RXs,V.rens] at g ⊢;obtain ⟨v,r,e,g1,g2⟩:=g;exact ⟨v,r,e,RX.lift hC x v (hm.sub fun j hj=>by simp [V.refss,hj]) g1,RXs.lift hC xs r (hm.sub fun j hj=>by simp [V.refss,hj]) g2⟩
end
mutual
theorem V.ren_id {f:Nat→Nat}:∀(v:V),(∀i∈v.refs,f i=i)→v.ren f=v
 | .d _,_=>by simp [V.ren]
 | .ptr i p,h=>by simp [V.ren,h i (by simp [V.refs])]
 | .mp i,h=>by simp [V.ren,h i (by simp [V.refs])]
 | .sl i p _ _ _,h=>by simp [V.ren,h i (by simp [V.refs])]
 | .fn g first caps,h=>by
  simp only [V.ren];rw [V.rens_id first fun i hi=>h i (by simp [V.refs,hi]),V.rens_id caps fun i hi=>h i (by simp [V.refs,hi])]
 | .tup xs,h=>by
  simp only [V.ren];rw [V.rens_id xs fun i hi=>h i (by simpa [V.refs] using hi)]
theorem V.rens_id {f:Nat→Nat}:∀(vs:List V),(∀i∈V.refss vs,f i=i)→V.rens f vs=vs
 | [],_=>by simp [V.rens]
 | v::vs,h=>by
  simp only [V.rens];rw [V.ren_id v fun i hi=>h i (by simp [V.refss,hi]),V.rens_id vs fun i hi=>h i (by simp [V.refss,hi])]
end
mutual
theorem V.ren_refs {f:Nat→Nat}:∀(v:V),(v.ren f).refs=v.refs.map f
 | .d _=>by simp [V.ren,V.refs]
 | .ptr i p=>by simp [V.ren,V.refs]
 | .mp i=>by simp [V.ren,V.refs]
 | .sl i p _ _ _=>by simp [V.ren,V.refs]
 | .fn g first caps=>by simp [V.ren,V.refs,V.rens_refs first,V.rens_refs caps]
 | .tup xs=>by simp [V.ren,V.refs,V.rens_refs xs]
theorem V.rens_refs {f:Nat→Nat}:∀(vs:List V),V.refss (V.rens f vs)=(V.refss vs).map f
 | []=>by simp [V.rens,V.refss]
 | v::vs=>by simp [V.rens,V.refss,V.ren_refs v,V.rens_refs vs]
end
theorem Moves.one {C C':Cx} {φ φ':Loc} {h h':Heap} {f:Nat→Nat} {is:List Nat}
 (hx:∀i∈is,∀B:Blk,h[i]? = some B→B≠.hole→(∃B':Blk,h'[f i]? = some B'∧B.alike B')∧φ' (f i)=φ i∧∀b,Wide C.w C'.w b):Moves C C' φ φ' h h' f is:=by
 intro i hi
 have nh:∀{B:Blk},(∃p q,B.off p=some q)∨(∃p q,B.run p=some q)→B≠.hole:=by
  rintro B h rfl
  rcases h with ⟨p,q,h⟩ | ⟨p,q,h⟩
  ·simp [Blk.off] at h
  ·cases p <;> simp [Blk.run,Blk.off] at h
 refine ⟨fun p u g=>?_,fun u g=>?_,fun p off len cap u g=>?_⟩
 ·simp only [RX] at g ⊢
  obtain ⟨B,b,o,q,hB,hφ,hq,e⟩:=g;obtain ⟨⟨B',hB',ha⟩,h2,_⟩:=hx i hi B hB (nh (.inl ⟨p,q,hq⟩));exact ⟨B',b,o,q,hB',by rw [ha.2.2,h2]; exact hφ,(ha.1 p).trans hq,e⟩
 ·simp only [RX] at g ⊢
  obtain ⟨B,b,o,q,hB,hφ,hq,e⟩:=g;obtain ⟨⟨B',hB',ha⟩,h2,_⟩:=hx i hi B hB (nh (.inl ⟨[],q,hq⟩));exact ⟨B',b,o,q,hB',by rw [ha.2.2,h2]; exact hφ,(ha.1 []).trans hq,e⟩
 ·simp only [RX] at g ⊢
  obtain ⟨B,base,s,m,a,c,hB,hr,hm,e,hl,hc,hloc⟩:=g;obtain ⟨⟨B',hB',ha⟩,h2,h3⟩:=hx i hi B hB (nh (.inr ⟨p,_,hr⟩));refine ⟨B',base,s,m,a,c,hB',(ha.2.1 p).trans hr,hm,e,hl,hc,fun h0=>?_⟩
  obtain ⟨b,o,arr,el,fz,hφ,ea,hw,hs⟩:=hloc h0;obtain ⟨arr',el',fz',hw',hs'⟩:=h3 b arr el fz hw;exact ⟨b,o,arr',el',fz',by rw [ha.2.2,h2]; exact hφ,ea,hw',by omega⟩
theorem Aq:∀{is:List Nat} {i:Nat},i∈t7 is↔i∈is
 | [],i=>by simp [t7]
 | j::is,i=>by
  simp only [t7,dp,List.mem_filter,Aq (is:=is),bne_iff_ne,ne_eq]
  by_cases h:i=j <;> simp [h]
theorem Dn:∀(is:List Nat),(t7 is).Nodup
 | []=>by simp [t7]
 | j::is=>by
  simp only [t7,jh,List.mem_filter];exact ⟨by simp,(Dn is).filter _⟩
theorem ow {l:List Nat} {i:Nat} (h:i∈l):l[l.idxOf i]? = some i:=by
 rw [ac (lq h),List.getElem_idxOf]
theorem td {l:List Nat} (hn:l.Nodup) {k i:Nat} (h:l[k]? = some i):l.idxOf i=k:=by
 obtain ⟨hk,rfl⟩:=ao.1 h;exact hn.idxOf_getElem k hk
theorem L1:∀{h:Heap} {is:List Nat} {bs:Heap},h.pick is=some bs→bs.length=is.length∧∀(k i:Nat),is[k]? = some i→∃B:Blk,h[i]? = some B∧bs[k]? = some B∧B≠.hole
 | h,[],bs,e=>by
  simp only [Heap.pick,ab] at e; subst e;simp
 | h,j::is,bs,e=>by
  simp only [Heap.pick] at e
  split at e
  ·cases e
  ·rename_i B hne hB
   obtain ⟨r,hr,rfl⟩:=ae.1 e;obtain ⟨h1,h2⟩:=L1 hr;refine ⟨by simp [h1],fun k i hk=>?_⟩
   cases k with
   | zero=>
    simp only [ct,ab] at hk;subst hk;exact ⟨B,hB,rfl,fun e=>hne e⟩
   | succ k=>simpa using h2 k i (by simpa using hk)
  ·cases e
theorem a1v:∀{is:List Nat} {bs:Heap} {h h':Heap},is.Nodup→h.put is bs=some h'→bs.length=is.length∧h'.length=h.length ∧
 (∀(k i:Nat) (B:Blk),is[k]? = some i→bs[k]? = some B→i<h.length→h'[i]? = some B)∧∀i:Nat,i ∉ is→h'[i]? = h[i]?
 | [],[],h,h',_,e=>by
  simp only [Heap.put,ab] at e; subst e;simp
 | j::is,b::bs,h,h',hn,e=>by
  simp only [Heap.put] at e
  split at e
  ·cases e
  rw [jh] at hn;obtain ⟨h1,h2,h3,h4⟩:=a1v hn.2 e;refine ⟨by simp [h1],by simp [h2],fun k i B hk hB hi=>?_,fun i hi=>?_⟩
  ·cases k with
   | zero=>
    simp only [ct,ab] at hk hB;subst hk; subst hB;rw [h4 _ hn.1,b4 hi]
   | succ k=>exact h3 k i B (by simpa using hk) (by simpa using hB) (by simpa using hi)
  ·simp only [dp,not_or] at hi
   rw [h4 i hi.2,b7 (f9 hi.1)]
 | [],_::_,_,_,_,e=>by simp [Heap.put] at e
 | _::_,[],_,_,_,e=>by simp [Heap.put] at e
theorem Hh:∀{is:List Nat} {bs:Heap} {h h':Heap},is.Nodup→putNews h is bs=some h'→bs.length≤is.length∧h'.length=h.length ∧
 (∀(k i:Nat) (B:Blk),is[k]? = some i→bs[k]? = some B→h[i]? = some .hole∧h'[i]? = some B)∧∀i:Nat,(∀k:Nat,k<bs.length→is[k]? ≠ some i)→h'[i]? = h[i]?
 | is,[],h,h',_,e=>by
  cases is <;> simp only [putNews,ab] at e <;> subst e <;> simp
 | j::is,b::bs,h,h',hn,e=>by
  simp only [putNews] at e
  split at e
  ·cases e
  rw [jh] at hn;obtain ⟨h0,e0,e⟩:=aa.1 e;obtain ⟨hj,rfl⟩:=dk e0;obtain ⟨h1,h2,h3,h4⟩:=Hh hn.2 e;have hjl:j<h.length:=(ao.1 hj).1;have hlen:(h.set j b).length=h.length:=by simp
  refine ⟨by simpa using h1,h2.trans hlen,fun k i B hk hB=>?_,fun i hi=>?_⟩
  ·cases k with
   | zero=>
    simp only [ct,ab] at hk hB;subst hk; subst hB;refine ⟨hj,?_⟩;rw [h4 _ fun k _ hk'=>hn.1 (dl hk'),b4 hjl]
   | succ k=>
    have hk':is[k]? = some i:=by simpa using hk
    obtain ⟨g1,g2⟩:=h3 k i B hk' (by simpa using hB)
    have hij:j≠i:=fun e=>hn.1 (e▸dl hk')
    rw [b7 hij] at g1;exact ⟨g1,g2⟩
  ·have hij:j≠i:=fun e=>hi 0 (by simp) (by simp [e])
   rw [h4 i fun k hk=>by simpa using hi (k+1) (by simpa using hk),b7 hij]
 | [],_::_,_,_,_,e=>by simp [putNews] at e
theorem M1 {O:am} {C:Cx} {φ:Loc} {h h':Heap} (hO:km P C.num O) (hr:HR C φ h) (hb:∀b,C.I b→b<C.w.heap.size) {np:Nat} {news:List Nat} (hnews:news.Nodup) {f:Nat} {vs:List V} {us:List Value} (hv:RXs C φ h vs us) {v:V}
 (hc:oq O np news h f vs=some (v,h')):To P (C.num f) us C φ h h' v:=by
 unfold oq at hc;simp only at hc;generalize hids:t7 (V.refss vs)=ids at hc;generalize hat:(news.map (np + ·)).filter (!ids.contains ·)=at_ at hc
 have hidn:ids.Nodup:=hids▸Dn _;have hidm:∀i,i∈ids↔i∈V.refss vs:=fun i=>by rw [←hids]; exact Aq
 have hatn:at_.Nodup:=by
  rw [←hat];exact List.Pairwise.filter _ (List.Pairwise.map (R:=(· ≠ ·)) _ (fun a b hab e=>hab (by omega)) hnews)
 obtain ⟨bs,hbs,hc⟩:=aa.1 hc;obtain ⟨ans,hans,hc⟩:=aa.1 hc;obtain ⟨h1,hh1,hc⟩:=aa.1 hc;obtain ⟨h2,hh2,hc⟩:=aa.1 hc
 split at hc
 case isFalse=>cases hc
 simp only [ab,al] at hc;obtain ⟨rfl,rfl⟩:=hc;obtain ⟨pl,pg⟩:=L1 hbs;obtain ⟨ql,ql',qg,qo⟩:=a1v hidn hh1;obtain ⟨nl,nl',ng,no⟩:=Hh hatn hh2
 -- what the callee sees
 let φ0:Loc:=fun k=>φ (ids.getD k 0)
 have hget0:∀(k:Nat) (B:Blk),bs[k]? = some B→∃i,ids[k]? = some i∧h[i]? = some B∧B≠.hole∧φ0 k=φ i:=by
  intro k B hk;have hkl:k<ids.length:=by rw [←pl]; exact (ao.1 hk).1
  obtain ⟨B',g1,g2,g3⟩:=pg k ids[k] (ac hkl);obtain rfl:B'=B:=au (g2.symm.trans hk);exact ⟨ids[k],ac hkl,g1,g3,by simp [φ0,hkl]⟩
 have hr0:HR C φ0 bs:=by
  refine ⟨fun k B hk=>?_,fun j k m n Bj Bk b oj ok hjk hj hk hoj hok hm hn hφj hφk=>?_⟩
  ·obtain ⟨i,_,g2,_,g4⟩:=hget0 k B hk
   rw [g4]; exact hr.blk i B g2
  ·obtain ⟨i,g1,g2,_,g4⟩:=hget0 j Bj hj
   obtain ⟨i',g1',g2',_,g4'⟩:=hget0 k Bk hk
   have:i≠i'∨m≠n:=by
    rcases hjk with hjk | hmn
    ·left
     rintro rfl
     exact hjk ((td hidn g1).symm.trans (td hidn g1'))
    ·exact .inr hmn
   exact hr.inj i i' m n Bj Bk b oj ok this g2 g2' hoj hok hm hn (g4▸hφj) (g4'▸hφk)
 have hmv:∀is:List Nat,(∀i∈is,i∈ids)→Moves C C φ φ0 h bs (fun i=>ids.idxOf i) is:=by
  intro is his;refine Moves.one fun i hi B hB hn=>?_
  have g:=ow (his i hi);obtain ⟨B',g1,g2,_⟩:=pg _ i g;obtain rfl:B'=B:=au (g1.symm.trans hB);refine ⟨⟨B',g2,.refl _⟩,?_,fun b=>.of_eq rfl⟩
  simp [φ0,List.getD_eq_getElem?_getD,g]
 have hv0:=RXs.lift (.refl C) vs us (hmv _ fun i hi=>(hidm i).2 hi) hv
 obtain ⟨hl,hbody,hcall⟩:=hO f _ bs ans hans C φ0 us rfl hr0 hb hv0;refine ⟨hbody,Calls.mono hcall ?_⟩
 rintro e w' ⟨u,C2,φ2,rfl,rfl,st,k2,hu⟩
 -- where the blocks come from
 let src:Nat→Option Nat:=fun i=>if at_.idxOf i<ans.2.2.length then some (ids.length+at_.idxOf i) else if i∈ids then some (ids.idxOf i) else none
 let φ3:Loc:=fun i=>match src i with | some k=>φ2 k | none=>φ i
 have hbl:ans.2.1.length=ids.length:=hl.trans pl
 have hA:∀i:Nat,h2[i]? = match src i with | some k=>(ans.2.1++ans.2.2)[k]? | none=>h[i]?:=by
  intro i
  by_cases g1:at_.idxOf i<ans.2.2.length
  ·have e:src i=some (ids.length+at_.idxOf i):=by simp [src,g1]
   rw [e];have hm:at_[at_.idxOf i]? = some i:=ow (nw.1 (by omega))
   simp only;rw [bj (by omega),show ids.length+at_.idxOf i-ans.2.1.length=at_.idxOf i by omega,ac g1]
   exact (ng _ i _ hm (ac g1)).2
  ·have hno:h2[i]? = h1[i]?:=no i fun k hk hk'=>g1 (by rw [td hatn hk']; exact hk)
   by_cases g2:i∈ids
   ·have e:src i=some (ids.idxOf i):=by simp [src,g1,g2]
    rw [e,hno];have g:=ow g2;have hlt:=lq g2;obtain ⟨B',hB',_⟩:=pg _ i g;simp only;have q:=ac (l:=ans.2.1) (i:=ids.idxOf i) (by rw [hbl]; exact hlt)
    rw [bi (by rw [hbl]; exact hlt),q]
    exact qg _ i _ g q ((ao.1 hB').1)
   ·have e:src i=none:=by simp [src,g1,g2]
    rw [e,hno];exact qo i g2
 have hB:∀i j k,src i=some k→src j=some k→i=j:=by
  intro i j k hi hj
  have key:∀i k,src i=some k→(k<ids.length∧ids[k]? = some i)∨(ids.length≤k∧at_[k-ids.length]? = some i):=by
   intro i k hi
   by_cases g1:at_.idxOf i<ans.2.2.length
   ·simp only [src,g1,if_true,ab] at hi
    subst hi;right;refine ⟨by omega,?_⟩
    rw [show ids.length+at_.idxOf i-ids.length=at_.idxOf i by omega]
    exact ow (nw.1 (by omega))
   ·by_cases g2:i∈ids
    ·simp only [src,g1,g2,if_false,if_true,ab] at hi
     subst hi;exact .inl ⟨lq g2,ow g2⟩
    ·simp [src,g1,g2] at hi
  rcases key i k hi with ⟨g,g'⟩ | ⟨g,g'⟩ <;> rcases key j k hj with ⟨q,q'⟩ | ⟨q,q'⟩
  ·exact au (g'.symm.trans q')
  ·omega
  ·omega
  ·exact au (g'.symm.trans q')
 have hN:∀i,src i=none→i ∉ ids:=by
  intro i hi hm
  by_cases g1:at_.idxOf i<ans.2.2.length <;> simp [src,g1,hm] at hi
 have hown0:∀b,OwnB φ0 bs b→OwnB φ h b:=by
  rintro b ⟨k,m,B,o,hk,ho,hm,hφ⟩
  obtain ⟨i,_,g2,_,g4⟩:=hget0 k B hk;exact ⟨i,m,B,o,g2,ho,hm,g4▸hφ⟩
 have hownN:∀(i m:Nat) (B:Blk) (b o:Nat),src i=none→h[i]? = some B→B.own=true→m<B.parts→φ i m=some (b,o)→¬ OwnB φ0 bs b:=by
  rintro i m B b o hi hB ho hm hφ ⟨k,m',B',o',hk,ho',hm',hφ'⟩
  obtain ⟨i',g1,g2,_,g4⟩:=hget0 k B' hk;exact hr.inj i i' m m' B B' b o o' (.inl fun e=>hN i hi (e▸dl g1)) hB g2 ho ho' hm hm' hφ (g4▸hφ')
 have hlt:∀(j m:Nat) (Bj:Blk) (b o:Nat),h[j]? = some Bj→Bj.live=true→m<Bj.parts→φ j m=some (b,o)→b<C.w.heap.size:=fun j m Bj b o hj hn hm hφ=>
  (RB.at hn (hr.blk j Bj hj) hm hφ).1
 have hkeepN:∀(i m:Nat) (B:Blk) (b o:Nat),src i=none→h[i]? = some B→B.live=true→m<B.parts→φ i m=some (b,o)→C2.w.heap[b]? = C.w.heap[b]? ∧ (C2.I b↔C.I b):=by
  intro i m B b o hi hB hn hm hφ;obtain ⟨hl,a1,a2⟩:=RB.at hn (hr.blk i B hB) hm hφ;cases ho:B.own with
  | true=>
   have hno:=hownN i m B b o hi hB ho hm hφ;refine ⟨st.kept b hl hno,fun g=>?_,st.le.I b⟩
   rcases st.fresh b g with g | g | g
   ·exact g
   ·omega
   ·exact absurd g hno
  | false=>
   have hI:=a2 ho;exact ⟨st.le.w b hI,fun _=>hI,st.le.I b⟩
 have hnotat:∀i,i∈ids→∀B:Blk,(ans.2.1++ans.2.2)[ids.idxOf i]? = some B→B≠.hole→src i=some (ids.idxOf i):=by
  intro i hi B hB hn
  by_cases g1:at_.idxOf i<ans.2.2.length
  ·exfalso
   have hm:at_[at_.idxOf i]? = some i:=ow (nw.1 (by omega))
   have hhole:=(ng _ i _ hm (ac g1)).1;have hlti:=lq hi;rw [bi (by omega)] at hB
   obtain ⟨B',hB',_⟩:=pg _ i (ow hi);have:=qg _ i B (ow hi) hB ((ao.1 hB').1);rw [hhole] at this;exact hn (au this).symm
  ·simp [src,g1,hi]
 refine ⟨u,C2,φ3,rfl,rfl,⟨st.le,fun b hbl hn=>st.kept b hbl fun g=>hn (hown0 b g),fun b g=>?_,?_,st.size,st.os,st.out,st.tape,⟨?_,?_⟩,st.bd,st.wide⟩,?_,?_⟩
 ·rcases st.fresh b g with g | g | g
  ·exact .inl g
  ·exact .inr (.inl g)
  ·exact .inr (.inr (hown0 b g))
 ·rintro b ⟨i,m,B,o,hB',ho,hm,hφ⟩
  rw [hA] at hB';cases hs:src i with
  | some k=>
   simp only [φ3,hs] at hB' hφ;exact (st.own b ⟨k,m,B,o,hB',ho,hm,hφ⟩).imp (hown0 b) id
  | none=>
   simp only [φ3,hs] at hB' hφ;exact .inl ⟨i,m,B,o,hB',ho,hm,hφ⟩
 ·intro i B hB'
  rw [hA] at hB';cases hs:src i with
  | some k=>
   simp only [φ3,hs] at hB' ⊢;exact st.hr.blk k B hB'
  | none=>
   simp only [φ3,hs] at hB' ⊢;exact (hr.blk i B hB').world' st.le st.wide fun m b o hm e hn=>hkeepN i m B b o hs hB' hn hm e
 ·intro i j m n Bi Bj b oi oj hij hi hj hoi hoj hm hn hφi hφj
  rw [hA] at hi hj
  have cross:∀(i j k m n:Nat) (Bi Bj:Blk) (oi oj:Nat),src i=none→src j=some k→h[i]? = some Bi→(ans.2.1++ans.2.2)[k]? = some Bj→Bi.own=true→Bj.own=true→m<Bi.parts→n<Bj.parts→φ i m=some (b,oi)→φ2 k n=some (b,oj)→False:=by
   intro i j k m n Bi Bj oi oj hsi hsj hi hj hoi hoj hm hn hφi hφj;have hl:=hlt i m Bi b oi hi (Blk.own_live hoi) hm hφi;rcases st.own b ⟨k,n,Bj,oj,hj,hoj,hn,hφj⟩ with g | g
   ·exact hownN i m Bi b oi hsi hi hoi hm hφi g
   ·omega
  cases hsi:src i with
  | some k=>
   simp only [φ3,hsi] at hi hφi;cases hsj:src j with
   | some k'=>
    simp only [φ3,hsj] at hj hφj;exact st.hr.inj k k' m n Bi Bj b oi oj (hij.imp (fun q e=>q (hB i j k hsi (e▸hsj))) id) hi hj hoi hoj hm hn hφi hφj
   | none=>
    simp only [φ3,hsj] at hj hφj;exact cross j i k n m Bj Bi oj oi hsj hsi hj hi hoj hoi hn hm hφj hφi
  | none=>
   simp only [φ3,hsi] at hi hφi;cases hsj:src j with
   | some k'=>
    simp only [φ3,hsj] at hj hφj;exact cross i j k' m n Bi Bj oi oj hsi hsj hi hj hoi hoj hm hn hφi hφj
   | none=>
    simp only [φ3,hsj] at hj hφj;exact hr.inj i j m n Bi Bj b oi oj hij hi hj hoi hoj hm hn hφi hφj
 ·-- what the caller's variables hold
  intro v u' _ g
  have back:∀k i,src i=some k→Moves C2 C2 φ2 φ3 (ans.2.1++ans.2.2) h2 (fun _=>i) [k]:=by
   intro k i hs;refine Moves.one fun k' hk' B hB' hn=>?_
   simp only [c7] at hk';subst hk';exact ⟨⟨B,by rw [hA,hs]; exact hB',.refl _⟩,by simp [φ3,hs],fun _=>.of_eq rfl⟩
  have hm:Moves C C2 φ φ3 h h2 id v.refs:=by
   intro i hi;obtain ⟨B,hBi,hBn⟩:=RX.refs v u' g i hi
   by_cases hid:i∈ids
   ·have hm1:=hmv [i] (by simpa using hid) i (by simp)
    have get2:∀x:V,x.refs=[ids.idxOf i]→∀u1,RX C2 φ2 (ans.2.1++ans.2.2) x u1→src i=some (ids.idxOf i):=by
     intro x hx u1 hx1;obtain ⟨B2,hB2,hn2⟩:=RX.refs x u1 hx1 (ids.idxOf i) (by simp [hx])
     exact hnotat i hid B2 hB2 hn2
    refine ⟨fun p u1 g1=>?_,fun u1 g1=>?_,fun p off len cap u1 g1=>?_⟩
    ·have q:=k2 _ _ (by simp) (hm1.1 p u1 g1)
     exact (back _ i (get2 _ (by simp [V.refs]) u1 q) _ (by simp)).1 p u1 q
    ·have q:=k2 _ _ (by simp) (hm1.2.1 u1 g1)
     exact (back _ i (get2 _ (by simp [V.refs]) u1 q) _ (by simp)).2.1 u1 q
    ·have q:=k2 _ _ (by simp) (hm1.2.2 p off len cap u1 g1)
     exact (back _ i (get2 _ (by simp [V.refs]) u1 q) _ (by simp)).2.2 p off len cap u1 q
   ·have hs:src i=none:=by
     by_cases g1:at_.idxOf i<ans.2.2.length
     ·exfalso
      have hm:at_[at_.idxOf i]? = some i:=ow (nw.1 (by omega))
      have hhole:=(ng _ i _ hm (ac g1)).1;rw [qo i hid,hBi] at hhole;exact hBn (au hhole)
     ·simp [src,g1,hid]
    refine (Moves.one (f:=id) (is:=[i]) fun j hj B' hB' hn=>?_) i (by simp)
    simp only [c7] at hj;subst hj;refine ⟨⟨B',by simp only [id]; rw [hA,hs]; exact hB',.refl _⟩,by simp [φ3,hs],st.wide⟩
  have:=RX.lift st.le v u' hm g
  rwa [V.ren_id (f:=id) v (fun _ _=>rfl)] at this
 ·refine RX.lift (.refl C2) ans.1 u ?_ hu
  refine Moves.one fun k hk B hB' hn=>?_
  have hs:src (if k<ids.length then ids.getD k 0 else at_.getD (k-ids.length) 0)=some k:=by
   by_cases hkl:k<ids.length
   ·rw [if_pos hkl]
    have g:ids[k]? = some ids[k]:=ac hkl;have e:ids.getD k 0=ids[k]:=by simp [hkl]
    have e2:ids.idxOf ids[k]=k:=td hidn g;rw [e];have:=hnotat ids[k] (az hkl) B (by rw [e2]; exact hB') hn
    rw [e2] at this;exact this
   ·rw [if_neg hkl]
    have hkt:k<(ans.2.1++ans.2.2).length:=(ao.1 hB').1;rw [bg] at hkt;have hk2:k-ids.length<at_.length:=by omega
    have g:at_[k-ids.length]? = some at_[k-ids.length]:=ac hk2;have e:at_.getD (k-ids.length) 0=at_[k-ids.length]:=by simp [hk2]
    have e2:at_.idxOf at_[k-ids.length]=k-ids.length:=td hatn g;rw [e];have hlt2:k-ids.length<ans.2.2.length:=by omega
    simp only [src,e2,hlt2,if_true]
    congr 1; omega
  exact ⟨⟨B,by rw [hA,hs]; exact hB',.refl _⟩,by simp only [φ3,hs],fun _=>.of_eq rfl⟩
end Pe
