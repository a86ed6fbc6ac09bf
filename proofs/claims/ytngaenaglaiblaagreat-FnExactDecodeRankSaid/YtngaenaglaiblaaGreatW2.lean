/-
  A part of the proof: an evaluator for a small form of the code, its soundness, and contracts of functions over it.
-/
import Derived.MapKept
import Derived.Laws.BytesString
import Derived.Maps.RangeRun
import Derived.Test.YtngaenaglaiblaaGreatW1

namespace Pe
open Go Go.MapKept
variable {P:Program} {C:Cx} {φ:Loc} {s:St} {a:Act} {o:Oper} {K:Nat→Prop}
theorem Nm:∀{cs:List D} {bs:List UInt8} {us:List Value},vu cs=some bs→RDs C .leaf cs us→∃ns:List Int,us=ns.map (Value.int .u8)∧bs=ns.map (fun n=>UInt8.ofNat n.toNat)∧ns.length=cs.length
 | [],bs,us,h,g=>by
  simp only [vu,ab] at h;simp only [RDs] at g;exact ⟨[],by simp [g],by simp [←h],rfl⟩
 | x::cs,bs,us,h,g=>by
  unfold vu at h
  split at h
  ·rename_i hq; cases hq
  ·rename_i n r hq
   obtain ⟨rfl,rfl⟩:x=.int .u8 n∧cs=r:=by simpa using hq
   obtain ⟨bs',h1,rfl⟩:=ae.1 h;simp only [RDs,RD] at g;obtain ⟨v,r',rfl,_,rfl,hr⟩:=g;obtain ⟨ns,e1,e2,e3⟩:=Nm h1 hr;exact ⟨n::ns,by simp [e1],by simp [e2],by simp [e3]⟩
  ·cases h
theorem T7:∀(ns:List Int) (b:ByteArray),ns.foldl (fun r n=>r.push (UInt8.ofNat n.toNat)) b=⟨b.data++(ns.map fun n=>UInt8.ofNat n.toNat).toArray⟩
 | [],b=>by simp
 | n::ns,b=>by
  rw [List.foldl_cons,T7 ns];simp [ByteArray.push]
theorem Vz (hs:SR C φ s a.tmps) {x:Arg} {src dst e:TypeId} {x':Operand} (ho:o.op=.convert src dst x') (hx:ck C.num x x'=true) (hsrc:P.underlying src=some (.slice e)) (he:P.underlying e=some (.int .u8))
 (hdst:P.underlying dst=some .string) {v:V} (hv:s.e.arg x=some v) {cs:List D} {bs:List UInt8} (hd:toE s.h v=some (.sl .leaf cs)) (hb:vu cs=some bs):OpGood P o a C φ s.h (.d (.str ⟨bs.toArray⟩)) s.h K:=by
 obtain ⟨ad,c,e1,_,e3⟩:=Bt hs.hr hd (c6 hs hx hv)
 have key:(Conv.bytesToString (.slice ad cs.length c)).run P C.w=.ok (.string ⟨bs.toArray⟩) C.w:=by
  rcases e3 with rfl | ⟨b,off,us,rfl,hr,hc⟩
  ·simp only [vu,ab] at hb
   subst hb;cases ad with
   | none=>rfl
   | some ad=>exact run_bytesToString C.w ad 0 c [] (by simp [loadCells,loadCellsFrom,Sem.run_pure])
  ·obtain ⟨ns,rfl,rfl,hl⟩:=Nm hb hr
   have h:=run_loadCells_list (P:=P) C.w ⟨b,off,none⟩ (ns.map (Value.int .u8)) (fun j v hj=>by rw [ku]; exact hc.range j v hj)
   rw [af,hl] at h;have h2:=run_bytesToString C.w ⟨b,off,none⟩ cs.length c ns h;rw [T7] at h2;have e0:ByteArray.empty.data = #[]:=rfl;rw [h2,e0,Array.empty_append]
 refine cg hs (u:=.string ⟨bs.toArray⟩) ?_ ?_
 ·simp [execOp,ho,e1,run_convert_bytes_string C.w src dst e _ _ _ hsrc he hdst,key]
 ·simp only [RX]; exact RV.mk ⟨rfl,by simp [RD,Value.cells]⟩
def If (str:Bool):TypeDesc:=if str then .string else .int .i64
theorem Jy {str:Bool} {k:MK} (h:k.isS=str):IsKey (If str) k.v:=by
 cases k <;> simp only [MK.isS] at h <;> subst h <;> simp [IsKey,If,MK.v]
theorem a92 {C:Cx} {φ:Loc} {h:Heap} {str:Bool} {v:V} {k:MK} {u:Value} (hv:V.mk? str v=some k) (g:RX C φ h v u):u=k.v∧k.isS=str:=by
 unfold V.mk? at hv
 split at hv
 ·split at hv
  ·rename_i hs
   obtain rfl:=au hv;refine ⟨?_,by simp [MK.isS,hs]⟩
   simp only [RX,RV,RD] at g;obtain ⟨g1,g2⟩:=g;cases u <;> simp_all [Value.cells,MK.v,Pe.isAgg,D.isAgg]
  ·cases hv
 ·split at hv
  ·cases hv
  ·rename_i hs
   obtain rfl:=au hv;refine ⟨?_,by cases str <;> simp_all [MK.isS]⟩
   simp only [RX,RV,RD] at g;obtain ⟨g1,g2⟩:=g;cases u <;> simp_all [Value.cells,MK.v,Pe.isAgg,D.isAgg]
 ·cases hv
theorem X1 (hs:SR C φ s a.tmps) {i:Nat} {t:TypeId} (ho:o.op=.makeMap t none) (hi:s.h[i]? = some .hole):OpGood P o a C φ s.h (.mp i) (s.h.set i (.mp false [])) K:=by
 have hB:RB { C with w:=C.w.alloc (.map #[] 0) } (.mp false []) (fun _=>some (C.w.heap.size,0)):=by
  simp only [RB];refine ⟨C.w.heap.size,0,rfl,⟨fun h=>absurd (hs.bd _ h) (by omega),fun h=>by cases h⟩,#[],0,pz _ _,by simp,by simp,by simp⟩
 obtain ⟨st,k⟩:=vv hs.hr hs.bd hi (w':=C.w.alloc (.map #[] 0)) (B:=.mp false []) (l:=some (C.w.heap.size,0)) (fun b hbl=>dz _ _ _ hbl) (by simp) rfl rfl rfl (by intro b o e; simp only [ab,al] at e; omega) hB
 have hil:i<s.h.length:=(ao.1 hi).1;refine ⟨_,_,.map (some C.w.heap.size),_,?_,.inl rfl,st,?_,k.mono (by simp)⟩
 ·have h0:(Instr.makeMap t none).run P C.w=.ok (.map (some C.w.heap.size)) (C.w.alloc (.map #[] 0)):=rfl
  simp [execOp,ho,h0]
 ·simp only [RX]
  exact ⟨_,C.w.heap.size,0,(0,.leaf),b4 hil,by simp [Loc.put],rfl,rfl⟩
theorem abr {str:Bool} {k j:MK} (hk:k.isS=str) (hj:j.isS=str):Instr.sameNow (If str) k.v j.v=some (k.same j)∧(k.same j=true→k=j):=by
 cases k <;> cases j <;> simp only [MK.isS] at hk hj <;> subst hk <;> simp at hj
 ·rename_i a b
  refine ⟨by simp [Instr.sameNow,If,MK.v,MK.same],fun h=>?_⟩
  rw [(bytes_beq a b).1 h]
 ·rename_i a b
  refine ⟨?_,fun h=>?_⟩
  ·simp only [Instr.sameNow,If,MK.v,MK.same,if_true,b5,if_false]
   congr 1
  ·simp only [MK.same,decide_eq_true_eq] at h
   rw [h]
theorem Q0 {str:Bool} {k:MK} (hks:k.isS=str):∀{l:List MapEntry} {es:List (MK×Int)} (i:Nat),gr str es=true→l.map (fun e=>(e.key,e.val))=es.map (fun q=>(q.1.v,Value.int .i64 q.2)) →
 (Instr.findNow (If str) k.v l i=some none∧ml k es=none∧nv k=(fun v xs=>nv k v xs)∧∀v,nv k v es=es++[(k,v)]) ∨
 ∃j n,Instr.findNow (If str) k.v l i=some (some (i+j,.int .i64 n))∧ml k es=some n∧(∃e,l[j]? = some e∧e.key=k.v)∧(∀v,nv k v es=es.set j (k,v))∧j<es.length
 | [],es,i,_,h=>by
  obtain rfl:es=[]:=by cases es with | nil=>rfl | cons=>simp at h
  exact .inl ⟨rfl,rfl,rfl,fun v=>rfl⟩
 | e::l,es,i,hm,h=>by
  cases es with
  | nil=>simp at h
  | cons q es=>
   simp only [gq,List.cons.injEq,al] at h;obtain ⟨⟨h1,h2⟩,h3⟩:=h;have hq:q.1.isS=str∧gr str es=true:=by simpa [gr] using hm
   obtain ⟨hsame,heq⟩:=abr hks hq.1
   by_cases hk:k.same q.1=true
   ·have hkq:=heq hk
    refine .inr ⟨0,q.2,?_,?_,⟨e,rfl,by rw [h1,hkq]⟩,fun v=>?_,by simp⟩
    ·simp [Instr.findNow,h1,hsame,hk,h2]
    ·simp [ml,hk]
    ·simp [nv,hk]
   ·have hk':k.same q.1=false:=by simpa using hk
    rcases Q0 hks (i+1) hq.2 h3 with ⟨g1,g2,-,g3⟩ | ⟨j,n,g1,g2,g3,g4,g5⟩
    ·refine .inl ⟨by simp [Instr.findNow,h1,hsame,hk',g1],by simp [ml,hk',g2],rfl,fun v=>by simp [nv,hk',g3]⟩
    ·refine .inr ⟨j+1,n,?_,by simp [ml,hk',g2],by simpa using g3,fun v=>by simp [nv,hk',g4],by simpa using g5⟩
     simp [Instr.findNow,h1,hsame,hk',g1];omega
theorem a0g (hs:SR C φ s a.tmps) {x y:Arg} {t kt et:TypeId} {x' y':Operand} (hx:ck C.num x x'=true) (hy:ck C.num y y'=true) {str:Bool}
 (ht:P.underlying t=some (.map kt et)) (hk:P.underlying kt=some (If str)) (hz:o6 P et (.int .i64 0)=true) {j:Nat} (hv:s.e.arg x=some (.mp j)) {k:MK} (hw:(s.e.arg y).bind (V.mk? str)=some k)
 {fr:Bool} {es:List (MK×Int)} (hm:gr str es=true) (hj:s.h[j]? = some (.mp fr es)) (ok:Bool) :
 (Instr.lookup t (a.eval x') (a.eval y') ok).run P C.w=.ok (if ok then .tuple #[.int .i64 ((ml k es).getD 0),.bool (ml k es).isSome] else .int .i64 ((ml k es).getD 0)) C.w:=by
 have h1:=c6 hs hx hv;obtain ⟨vy,hvy,hw⟩:=aa.1 hw;obtain ⟨h2,hks⟩:=a92 hw (c6 hs hy hvy);simp only [RX] at h1;obtain ⟨B,b,off,q,hB,hφ,-,e1⟩:=h1;obtain rfl:B=_:=au (hB.symm.trans hj);have hrb:=hs.hr.blk j _ hj;simp only [RB] at hrb;obtain ⟨b',o',e',-,arr,clock,hb,hes,-⟩:=hrb;obtain ⟨rfl,rfl⟩:b=b'∧off=o':=by simpa using hφ.symm.trans e'
 obtain ⟨inf,z,hinf,hiz,hzr,hzv,-⟩:=pr hz;have hz0:z=.int .i64 0:=mu (C:=C) (φ:=φ) (s:=s) (by simp only [RX]; exact hzv C)
 subst hz0;rcases Q0 hks 0 hm hes with ⟨g1,g2,-,g3⟩ | ⟨i,n,g1,g2,g3,g4,g5⟩
 ·cases ok <;> simp [e1,h2,Instr.lookup,run_underlying ht,run_getObj_map hb,run_checkKey hk (Jy hks),run_findKey hk g1,hzr,g2,Result.andThen]
 ·cases ok <;> simp [e1,h2,Instr.lookup,run_underlying ht,run_getObj_map hb,run_checkKey hk (Jy hks),run_findKey hk g1,g2,Result.andThen]
theorem Sa (hs:SR C φ s a.tmps) {x y:Arg} {t kt et:TypeId} {x' y':Operand} (ho:o.op=.lookup t x' y' false) (hx:ck C.num x x'=true) (hy:ck C.num y y'=true) {str:Bool}
 (ht:P.underlying t=some (.map kt et)) (hk:P.underlying kt=some (If str)) (hz:o6 P et (.int .i64 0)=true) {j:Nat} (hv:s.e.arg x=some (.mp j)) {k:MK} (hw:(s.e.arg y).bind (V.mk? str)=some k)
 {fr:Bool} {es:List (MK×Int)} (hm:gr str es=true) (hj:s.h[j]? = some (.mp fr es)):OpGood P o a C φ s.h (.d (.int .i64 ((ml k es).getD 0))) s.h K:=
 cg hs (u:=.int .i64 ((ml k es).getD 0)) (by simp [execOp,ho,a0g hs hx hy ht hk hz hv hw hm hj false]) (gh ..)
theorem Vn (hs:SR C φ s a.tmps) {x y:Arg} {t kt et:TypeId} {x' y':Operand} (ho:o.op=.lookup t x' y' true) (hx:ck C.num x x'=true) (hy:ck C.num y y'=true) {str:Bool}
 (ht:P.underlying t=some (.map kt et)) (hk:P.underlying kt=some (If str)) (hz:o6 P et (.int .i64 0)=true) {j:Nat} (hv:s.e.arg x=some (.mp j)) {k:MK} (hw:(s.e.arg y).bind (V.mk? str)=some k)
 {fr:Bool} {es:List (MK×Int)} (hm:gr str es=true) (hj:s.h[j]? = some (.mp fr es)):OpGood P o a C φ s.h (.d (.tup [.int .i64 ((ml k es).getD 0),.bool (ml k es).isSome])) s.h K:=
 cg hs (u:=.tuple #[.int .i64 ((ml k es).getD 0),.bool (ml k es).isSome]) (by simp [execOp,ho,a0g hs hx hy ht hk hz hv hw hm hj true]) (by
  simp only [RX,RV];refine ⟨_,rfl,?_⟩;simp only [RVs];exact ⟨.int .i64 ((ml k es).getD 0),[.bool (ml k es).isSome],rfl,rfl,by simp [RD,Value.cells],.bool (ml k es).isSome,[],rfl,rfl,by simp [RD,Value.cells],rfl⟩)
theorem Td (hs:SR C φ s a.tmps) {x y z:Arg} {t kt et:TypeId} {x' y' z':Operand} (ho:o.op=.mapUpdate t x' y' z') (hdst:o.dst=none) (hx:ck C.num x x'=true) (hy:ck C.num y y'=true) (hz:ck C.num z z'=true) {str:Bool}
 (ht:P.underlying t=some (.map kt et)) (hk:P.underlying kt=some (If str)) {j:Nat} (hv:s.e.arg x=some (.mp j)) {k:MK} (hw:(s.e.arg y).bind (V.mk? str)=some k) {n:Int} (hn:s.e.arg z=some (.d (.int .i64 n)))
 {es:List (MK×Int)} (hm:gr str es=true) (hj:s.h[j]? = some (.mp false es)):OpGood P o a C φ s.h (.tup []) (s.h.set j (.mp false (nv k n es))) K:=by
 have h1:=c6 hs hx hv;obtain ⟨vy,hvy,hw⟩:=aa.1 hw;obtain ⟨h2,hks⟩:=a92 hw (c6 hs hy hvy);have h3:=mu (c6 hs hz hn);simp only [RX] at h1;obtain ⟨B,b,off,q,hB,hφ,-,e1⟩:=h1;obtain rfl:B=_:=au (hB.symm.trans hj);have hrb:=hs.hr.blk j _ hj;simp only [RB] at hrb;obtain ⟨b',o',e',hI,arr,clock,hb,hes,hbc,hnd⟩:=hrb;obtain ⟨rfl,rfl⟩:b=b'∧off=o':=by simpa using hφ.symm.trans e'
 have hlt:b<C.w.heap.size:=(ch.1 hb).1
 -- the new map
 have key:∃arr' clock',(execOp a.eval o).run P C.w=.ok .skip { C.w with heap:=C.w.heap.setIfInBounds b (.map arr' clock') }∧arr'.toList.map (fun e=>(e.key,e.val))=(nv k n es).map (fun q=>(q.1.v,Value.int .i64 q.2)) ∧
  (∀x∈arr'.toList,x.born<clock')∧(arr'.toList.map (·.born)).Nodup:=by
  rcases Q0 hks 0 hm hes with ⟨g1,g2,-,g3⟩ | ⟨i,m,g1,g2,⟨e,g3,g6⟩,g4,g5⟩
  ·refine ⟨arr.push { key:=k.v,val:=.int .i64 n,born:=clock },clock+1,?_,by simp [g3,hes],?_,?_⟩
   ·simp [execOp,ho,e1,h2,h3,Instr.mapUpdate,run_underlying ht,run_getObj_map hb,run_checkKey hk (Jy hks),run_findKey hk g1,run_setObj_map _ hb,Result.andThen]
   ·intro x hx
    simp only [Array.toList_push,bp,c7] at hx;rcases hx with hx | rfl
    ·exact Nat.lt_succ_of_lt (hbc x hx)
    ·exact Nat.lt_succ_self _
   ·simp only [Array.toList_push,cj,gq,fa]
    refine List.nodup_append.2 ⟨hnd,by simp,?_⟩
    intro a ha b hb;simp only [c7] at hb;subst hb;obtain ⟨x,hx,rfl⟩:=cn.1 ha;exact Nat.ne_of_lt (hbc x hx)
  ·simp only [b9] at g1
   have hg:arr[i]? = some e:=by simpa using g3
   have hbm:(arr.modify i fun e=>{ e with key:=k.v,val:=.int .i64 n }).toList.map (·.born)=arr.toList.map (·.born):=by
    apply ci;intro p;simp only [cb,i5,Array.getElem?_modify]
    by_cases hip:i=p
    ·subst hip; simp [hg]
    ·simp [if_neg hip]
   refine ⟨arr.modify i fun e=>{ e with key:=k.v,val:=.int .i64 n },clock,?_,?_,?_,by rw [hbm]; exact hnd⟩
   ·simp [execOp,ho,e1,h2,h3,Instr.mapUpdate,run_underlying ht,run_getObj_map hb,run_checkKey hk (Jy hks),run_findKey hk g1,hg,g6,run_keyThatStays (Jy hks),run_setObj_map _ hb,Result.andThen]
   ·rw [g4]
    apply ci;intro p;have hp:=congrArg (fun l=>l[p]?) hes
    simp only [cb] at hp;simp only [cb,i5,Array.getElem?_modify,List.getElem?_set];rw [i5] at hp
    by_cases hip:i=p
    ·subst hip
     simp [hg,g5]
    ·simp only [if_neg hip]
     exact hp
   ·intro x hx
    have:=gu (f:=(·.born)) hx
    rw [hbm] at this;obtain ⟨y,hy,e⟩:=cn.1 this;rw [←e]; exact hbc y hy
 obtain ⟨arr',clock',hrun,hes'⟩:=key;have hset:=heap_set (o':=.map arr' clock') hb
 obtain ⟨st,kp⟩:=wk hs.hr hs.bd hj (by rfl) (by simp [Blk.part,Blk.parts]) hφ (B':=.mp false (nv k n es)) rfl (w':={ C.w with heap:=C.w.heap.setIfInBounds b (.map arr' clock') }) (fun p hp=>hset.2 p hp) (by simp) rfl rfl rfl
  (fun a2 el fz h=>by rw [hb] at h; cases h)
  (by
   simp only [RB];exact ⟨b,off,e',⟨fun h=>hI.1 h,fun h=>by cases h⟩,arr',clock',hset.1,hes'⟩) (K:=fun _=>False) (.inr ⟨fun p=>by cases p <;> rfl,fun p=>by cases p <;> rfl,fun p=>rfl⟩)
 exact ⟨_,_,.tuple #[],_,hrun,.inr ⟨rfl,hdst⟩,st,by simp [RX,RXs],kp.mono (by simp)⟩
theorem Wm (hs:SR C φ s a.tmps) {sh:Sh} {z:D} {x:Arg} {t e:TypeId} {x':Operand} (ho:o.op=.call { callee:=.builtin .clear,args:=#[x'],argTypes:=#[t] }) (hx:ck C.num x x'=true)
 (ht:P.underlying t=some (.slice e)) (hz:o6 P e z=true) (hzs:z.sh=sh) (hpos:0<sh.size) {j off n:Nat} {cap:Option Nat} (hv:s.e.arg x=some (.sl j [] off n cap))
 {cs:List D} (hj:s.h[j]? = some (.sl false sh cs)) (hle:off+n≤cs.length) :
 OpGood P o a C φ s.h (.tup []) (s.h.set j (.sl false sh (cs.take off++List.replicate n z++cs.drop (off+n)))) K:=by
 have hX:=c6 hs hx hv;simp only [RX] at hX;obtain ⟨B,base,s',m,ad,c,hB,hrun,hm,e1,hlc,-,hloc⟩:=hX;obtain rfl:B=_:=au (hB.symm.trans hj);simp only [Blk.run,ab,al] at hrun;obtain ⟨rfl,rfl,rfl⟩:=hrun;obtain ⟨inf,zv,hinf,hiz,hzr,hzv,hnt⟩:=pr hz;have hlen':(cs.take off++List.replicate n z++cs.drop (off+n)).length=cs.length:=by simp; omega
 have hal:(Blk.sl false sh cs).alike (.sl false sh (cs.take off++List.replicate n z++cs.drop (off+n))):=by
  refine ⟨fun p=>?_,fun p=>?_,fun p=>rfl⟩
  ·cases p <;> simp only [Blk.off,hlen']
  ·cases p <;> simp only [Blk.run,Blk.off,hlen']
 by_cases h0:n=0
 ·subst h0
  have e2:s.h.set j (.sl false sh (cs.take off++List.replicate 0 z++cs.drop (off+0)))=s.h:=by
   simp only [List.replicate_zero,ov,dd,i4];apply ci;intro p;rw [List.getElem?_set]
   split
   ·rename_i h; subst h; rw [hj]; simp [(ao.1 hj).1]
   ·rfl
  rw [e2];refine cg hs (u:=.tuple #[]) ?_ (by simp [RX,RXs])
  cases ad <;> simp [execOp,ho,resolve,invoke,builtin,e1,Builtin.clear_,run_underlying ht,Result.andThen]
 ·obtain ⟨b,o0,arr,el,fz,hφ,rfl,hw,hsz⟩:=hloc (by omega)
  have hrb:=hs.hr.blk j _ hj;simp only [Blk.part] at hφ;simp only [RB,hφ] at hrb;obtain ⟨us,hrd,hat⟩:=hrb;simp only [RAt,b5,if_false] at hat;obtain ⟨hnI,Ii,el2,hw2,hcells⟩:=hat;rw [hw] at hw2;simp only [ab,Obj.cells.injEq] at hw2;obtain ⟨rfl,rfl,rfl⟩:=hw2;obtain ⟨ha,hzc⟩:=(hzv C).notTup hnt;have hul:zv.cells.toList.length=sh.size:=by rw [ji z _ hzc,hzs]
  have hul':zv.cells.size=sh.size:=by simpa using hul
  have hfl:=ij zv.cells (by omega) n
  have hvs:(Builtin.zeroCells zv.cells n).toList=(List.replicate n zv.cells.toList).flatten:=hfl;have hvl:((List.replicate n zv.cells.toList).flatten).length=n*sh.size:=by simp [hul']
  have husl:=n6 sh cs us hrd;have hbig:off*sh.size+n*sh.size≤us.length:=by rw [husl,←lr]; exact ff _ hle
  have hin:o0+off*sh.size+n*sh.size≤arr.size:=by
   by_cases hu:us.length=0
   ·have:0<n*sh.size:=Nat.mul_pos (by omega) hpos
    omega
   ·have:=hcells (us.length-1) _ (ac (by omega))
    have:=(ch.1 this).1;omega
  have hst:=run_storeCells_cells (P:=P) b (o0+off*sh.size) ((List.replicate n zv.cells.toList).flatten) 0 C.w
   (fun p hp=>by
    simp only [World.cell?,hw,dd];have:o0+off*sh.size+p<arr.size:=by omega
    simp [this])
   (fun p hp=>by simp [World.frozen?,hw])
   (fun v hv=>by
    obtain ⟨l,hl,hvl⟩:=List.mem_flatten.1 hv;obtain rfl:=(List.mem_replicate.1 hl).2;rw [E6]; exact H4 z _ hzc v hvl)
  simp only [dd] at hst;obtain ⟨arr',hw',hsz',he'⟩:=mb b ((List.replicate n zv.cells.toList).flatten) (o0+off*sh.size) C.w arr el (0,0) hw (by omega)
  obtain ⟨r1,r2,r3,r4⟩:=nk b ((List.replicate n zv.cells.toList).flatten) (o0+off*sh.size) C.w;have hC:C.Le { C with w:=C.w.setCells b (o0+off*sh.size) ((List.replicate n zv.cells.toList).flatten) }:=⟨rfl,fun _ g=>g,fun p g=>fi b _ _ _ p fun e=>hnI (e▸g)⟩
  have hnew:RDs C sh (cs.take off++List.replicate n z++cs.drop (off+n)) (us.take (off*sh.size)++(List.replicate n zv.cells.toList).flatten++us.drop ((off+n)*sh.size)):=
   pf (pf (qz off hrd) (re hzs hzc n)) (sq (off+n) hrd)
  obtain ⟨st,kp⟩:=wk hs.hr hs.bd hj (by rfl) (by simp [Blk.parts]) hφ (B':=.sl false sh (cs.take off++List.replicate n z++cs.drop (off+n))) rfl (fun p hp=>fi b ((List.replicate n zv.cells.toList).flatten) (o0+off*sh.size) C.w p hp) r1 r2 r3 r4
   (fun a2 el2 fz2 h2=>by
    rw [hw] at h2;simp only [ab,Obj.cells.injEq] at h2;obtain ⟨rfl,rfl,rfl⟩:=h2;exact ⟨arr',el,_,hw',by omega⟩)
   (by
    simp only [RB,hφ];refine ⟨_,RDs.mono hC _ _ _ hnew,?_⟩;simp only [RAt,b5,if_false];refine ⟨hnI,arr',el,hw',fun p u hp=>?_⟩
    rw [he'];have e3:(off+n)*sh.size=off*sh.size+n*sh.size:=lr ..;have l1:(us.take (off*sh.size)).length=off*sh.size:=by rw [b8]; omega
    by_cases hp1:p<off*sh.size
    ·rw [ek,bi (by omega),eh,if_pos hp1] at hp
     rw [if_neg (by omega)]
     exact hcells p u hp
    ·by_cases hp2:p<off*sh.size+n*sh.size
     ·rw [ek,bj (by omega),l1,bi (by omega)] at hp
      rw [if_pos (by omega),show o0+p-(o0+off*sh.size)=p-off*sh.size by omega]
      exact hp
     ·rw [bj (by simp only [bg,l1,hvl]; omega)] at hp
      simp only [bg,l1,hvl,ig] at hp;rw [if_neg (by omega)]
      refine hcells p u ?_;rw [←hp]; congr 1; omega)
   (K:=fun _=>False) (.inr hal)
  refine ⟨_,_,.tuple #[],_,?_,.inl rfl,st,by simp [RX,RXs],kp.mono (by simp)⟩
  obtain ⟨n',rfl⟩:∃n',n=n'+1:=⟨n-1,by omega⟩
  simp only [dd] at e1;simp [execOp,ho,resolve,invoke,builtin,e1,Builtin.clear_,run_underlying ht,hzr,hvs,hst,Result.andThen]
theorem a47 (hs:SR C φ s a.tmps) {sh:Sh} {x y:Arg} {t tx e ex:TypeId} {x' y':Operand} (ho:o.op=.call { callee:=.builtin .copy,args:=#[x',y'],argTypes:=#[t,tx] }) (hx:ck C.num x x'=true) (hy:ck C.num y y'=true)
 (ht:P.underlying t=some (.slice e)) (_htx:P.underlying tx=some (.slice ex)) {inf:TypeInfo} (hinf:P.info? e=some inf) (hisz:inf.size=sh.size) (hpos:0<sh.size) {j off n:Nat} {cap:Option Nat} (hv:s.e.arg x=some (.sl j [] off n cap))
 {w:V} (hw:s.e.arg y=some w) {ys:List D} (hys:toE s.h w=some (.sl sh ys)) {cs:List D} (hj:s.h[j]? = some (.sl false sh cs)) (hle:off+n≤cs.length) :
 OpGood P o a C φ s.h (.d (.int .i64 (min ys.length n:Nat))) (s.h.set j (.sl false sh (cs.take off++(ys.take n)++cs.drop (off+min ys.length n)))) K:=by
 have hX:=c6 hs hx hv;simp only [RX] at hX;obtain ⟨B,base,s',m,ad,c,hB,hrun,hm,e1,hlc,-,hloc⟩:=hX;obtain rfl:B=_:=au (hB.symm.trans hj);simp only [Blk.run,ab,al] at hrun;obtain ⟨rfl,rfl,rfl⟩:=hrun;obtain ⟨ady,cy,e2,hly,hsrc⟩:=Bt hs.hr hys (c6 hs hy hw);have hml:(ys.take n).length=min ys.length n:=by rw [b8]; omega
 have hsz0:(Go.sizeOf e).run P C.w=.ok sh.size C.w:=by simp [Go.sizeOf,typeInfo,hinf,hisz]
 have hlen':(cs.take off++ys.take n++cs.drop (off+min ys.length n)).length=cs.length:=by simp; omega
 have hal:(Blk.sl false sh cs).alike (.sl false sh (cs.take off++ys.take n++cs.drop (off+min ys.length n))):=by
  refine ⟨fun p=>?_,fun p=>?_,fun p=>rfl⟩
  ·cases p <;> simp only [Blk.off,hlen']
  ·cases p <;> simp only [Blk.run,Blk.off,hlen']
 by_cases h0:min ys.length n=0
 ·have e3:s.h.set j (.sl false sh (cs.take off++ys.take n++cs.drop (off+min ys.length n)))=s.h:=by
   have:ys.take n=[]:=ej.1 (hml.trans h0);rw [this,h0,ov,dd,i4];apply ci;intro p;rw [List.getElem?_set]
   split
   ·rename_i h; subst h; rw [hj]; simp [(ao.1 hj).1]
   ·rfl
  rw [e3,h0];have hl:∀(x:Addr),(loadCells x 0).run P C.w=.ok #[] C.w:=fun x=>by simpa using run_loadCells_list (P:=P) C.w x [] (by simp)
  have h0':Nat.min ys.length n=0:=h0;refine cg hs (u:=.int .i64 0) ?_ (gh ..);cases ad <;> cases ady <;> simp [execOp,ho,resolve,invoke,builtin,e1,e2,Builtin.copy_,run_underlying ht,Builtin.lenOf,Builtin.firstCells,hsz0,h0',hl,storeCells,goInt,Result.andThen]
 ·obtain ⟨b,o0,arr,el,fz,hφ,rfl,hwb,hsz⟩:=hloc (by omega)
  have hrb:=hs.hr.blk j _ hj;simp only [Blk.part] at hφ;simp only [RB,hφ] at hrb;obtain ⟨us,hrd,hat⟩:=hrb;simp only [RAt,b5,if_false] at hat;obtain ⟨hnI,Ii,el2,hw2,hcells⟩:=hat;rw [hwb] at hw2;simp only [ab,Obj.cells.injEq] at hw2;obtain ⟨rfl,rfl,rfl⟩:=hw2;rcases hsrc with h | ⟨bs,os,vs,rfl,hrv,hcv⟩
  ·rw [h] at h0; simp at h0
  have hrt:=qz n hrv;generalize hvs:vs.take (n*sh.size)=ws at hrt;have hwl:ws.length=min ys.length n*sh.size:=by rw [n6 sh _ _ hrt,hml]
  have husl:=n6 sh cs us hrd;have hbig:off*sh.size+min ys.length n*sh.size≤us.length:=by rw [husl,←lr]; exact ff _ (by omega)
  have hin:o0+off*sh.size+min ys.length n*sh.size≤arr.size:=by
   have:0<min ys.length n*sh.size:=Nat.mul_pos (by omega) hpos
   have:=hcells (us.length-1) _ (ac (by omega))
   have:=(ch.1 this).1;omega
  have hload:=run_firstCells_some (P:=P) C.w sh.size (Nat.min ys.length n) ⟨bs,os,none⟩ ys.length cy ws hwl (fun k v hk=>by
   rw [ku];refine hcv.range k v ?_;rw [←hvs,eh] at hk
   split at hk
   ·exact hk
   ·cases hk)
  have hst:=run_storeCells_cells (P:=P) b (o0+off*sh.size) ws 0 C.w
   (fun p hp=>by
    simp only [World.cell?,hwb,dd];have:o0+off*sh.size+p<arr.size:=by omega
    simp [this])
   (fun p hp=>by simp [World.frozen?,hwb])
   (fun v hv=>by rw [E6]; exact J2 sh _ _ hrt v hv)
  simp only [dd] at hst;obtain ⟨arr',hw',hsz',he'⟩:=mb b ws (o0+off*sh.size) C.w arr el (0,0) hwb (by omega)
  obtain ⟨r1,r2,r3,r4⟩:=nk b ws (o0+off*sh.size) C.w;have hC:C.Le { C with w:=C.w.setCells b (o0+off*sh.size) ws }:=⟨rfl,fun _ g=>g,fun p g=>fi b _ _ _ p fun e=>hnI (e▸g)⟩
  have hnew:RDs C sh (cs.take off++ys.take n++cs.drop (off+min ys.length n)) (us.take (off*sh.size)++ws++us.drop ((off+min ys.length n)*sh.size)):=
   pf (pf (qz off hrd) hrt) (sq (off+min ys.length n) hrd)
  obtain ⟨st,kp⟩:=wk hs.hr hs.bd hj (by rfl) (by simp [Blk.parts]) hφ (B':=.sl false sh (cs.take off++ys.take n++cs.drop (off+min ys.length n))) rfl (fun p hp=>fi b ws (o0+off*sh.size) C.w p hp) r1 r2 r3 r4
   (fun a2 el2 fz2 h2=>by
    rw [hwb] at h2;simp only [ab,Obj.cells.injEq] at h2;obtain ⟨rfl,rfl,rfl⟩:=h2;exact ⟨arr',el,_,hw',by omega⟩)
   (by
    simp only [RB,hφ];refine ⟨_,RDs.mono hC _ _ _ hnew,?_⟩;simp only [RAt,b5,if_false];refine ⟨hnI,arr',el,hw',fun p u hp=>?_⟩
    rw [he'];have e3:(off+min ys.length n)*sh.size=off*sh.size+min ys.length n*sh.size:=lr ..;have l1:(us.take (off*sh.size)).length=off*sh.size:=by rw [b8]; omega
    by_cases hp1:p<off*sh.size
    ·rw [ek,bi (by omega),eh,if_pos hp1] at hp
     rw [if_neg (by omega)]
     exact hcells p u hp
    ·by_cases hp2:p<off*sh.size+min ys.length n*sh.size
     ·rw [ek,bj (by omega),l1,bi (by omega)] at hp
      rw [if_pos (by omega),show o0+p-(o0+off*sh.size)=p-off*sh.size by omega]
      exact hp
     ·rw [bj (by simp only [bg,l1,hwl]; omega)] at hp
      simp only [bg,l1,hwl,ig] at hp;rw [if_neg (by omega)]
      refine hcells p u ?_;rw [←hp]; congr 1; omega)
   (K:=fun _=>False) (.inr hal)
  refine ⟨_,_,.int .i64 (min ys.length n:Nat),_,?_,.inl rfl,st,gh ..,kp.mono (by simp)⟩
  simp only [dd] at e1;have hload':(Builtin.firstCells sh.size (Nat.min ys.length n) (.slice (some ⟨bs,os,none⟩) ys.length cy)).run P C.w=.ok ws.toArray C.w:=hload;simp [execOp,ho,resolve,invoke,builtin,e1,e2,Builtin.copy_,run_underlying ht,Builtin.lenOf,hsz0,hload',hst,goInt,Result.andThen]
end Pe
namespace Pe
open Go
variable {P:Program}
theorem a1x {t:TypeId} (ht:nj P t .leaf=true) {w:World} {b o:Nat} {u:Value} (hc:CellsAt w b o [u]) (_h1:one u=true):(Instr.loadAt t (.pointer (some ⟨b,o,none⟩))).run P w=.ok u w:=by
 obtain ⟨d,hu,hr⟩:=Hd ht;have hcell:w.cell? ⟨b,o,none⟩=some u:=by simpa using hc.range 0 u (by simp)
 have hagg:(Go.isAgg t).run P w=.ok false w:=by
  unfold Go.isAgg;rw [Sem.run_bind,run_underlying hu];cases d <;> simp_all [TypeDesc.isRow]
 simp [Instr.loadAt,Instr.sureAddr,loadVar,hagg,load,Sem.run,hcell]
theorem Xs {t:TypeId} (ht:nj P t .leaf=true) {w:World} {b o n c:Nat} {ad:Option Addr} {a:Array Value} {el:TypeId} (hw:w.heap[b]? = some (.cells a el (0,0))) (hl:o<a.size) :
 (Instr.storeAt t (.pointer (some ⟨b,o,none⟩)) (.slice ad n c)).run P w=.ok () (w.setCells b o [.slice ad n c]):=by
 obtain ⟨i,hi,hsz⟩:=gz ht
 have hst:=run_storeCells_cells (P:=P) b o [.slice ad n c] 0 w
  (fun j hj=>by
   simp only [World.cell?,hw,dd];have:o+j<a.size:=by simp at hj; omega
   simp [this])
  (fun j hj=>by simp [World.frozen?,hw])
  (fun v hv=>by simp only [c7] at hv; subst hv; rfl)
 simp only [dd] at hst;have hsz':i.size=1:=hsz;simp [Instr.storeAt,Instr.sureAddr,storeVar,i7 hi,hsz',hst,Value.cells]
theorem O7 {C:Cx} {φ φ':Loc} {h h':Heap} (hr:HR C φ h) (hb:∀b,C.I b→b<C.w.heap.size) {w':World} (bw:Option Nat) (hbw:∀b,bw=some b→OwnB φ h b)
 (hoth:∀b,b<C.w.heap.size→bw≠some b→w'.heap[b]? = C.w.heap[b]?) (hsize:C.w.heap.size≤w'.heap.size) (hos:w'.os=C.w.os) (hout:w'.output=C.w.output) (htape:w'.tape=C.w.tape)
 (hwd:∀b,Wide C.w w' b) (σ:Nat→Nat→Option (Nat×Nat))
 (hσ:∀q m B b o,h'[q]? = some B→B.own=true→m<B.parts→φ' q m=some (b,o)→match σ q m with
  | none=>C.w.heap.size≤b
  | some p=>∃B' o',h[p.1]? = some B'∧B'.own=true∧p.2<B'.parts∧φ p.1 p.2=some (b,o'))
 (hinj:∀q m r n B B',h'[q]? = some B→B.own=true→m<B.parts→h'[r]? = some B'→B'.own=true→n<B'.parts→σ q m=σ r n→q=r∧m=n)
 (hblk:∀q B,h'[q]? = some B→RB { C with w:=w' } B (φ' q)):Step C { C with w:=w' } φ φ' h h':=by
 have hC:C.Le { C with w:=w' }:=⟨rfl,fun _ g=>g,fun b g=>hoth b (hb b g) fun e=>OwnB.not_I hr (hbw b e) g⟩
 refine ⟨hC,fun b hbl hn=>hoth b hbl fun e=>hn (hbw b e),fun _ g=>.inl g,?_,hsize,hos,hout,htape,⟨hblk,?_⟩,fun b g=>ep (hb b g) hsize,hwd⟩
 ·rintro b ⟨q,m,B,o,hq,ho,hm,hφ⟩
  have:=hσ q m B b o hq ho hm hφ
  split at this
  ·exact .inr this
  ·rename_i p _
   obtain ⟨B',o',g1,g2,g3,g4⟩:=this;exact .inl ⟨p.1,p.2,B',o',g1,g2,g3,g4⟩
 ·intro q r m n B B' b o o' hqr hq hrr hoq hor hm hn hφ hφ'
  have a1:=hσ q m B b o hq hoq hm hφ;have a2:=hσ r n B' b o' hrr hor hn hφ';have key:=hinj q m r n B B' hq hoq hm hrr hor hn;cases e1:σ q m with
  | none=>
   cases e2:σ r n with
   | none=>
    obtain ⟨rfl,rfl⟩:=key (e1.trans e2.symm);rcases hqr with h | h <;> exact h rfl
   | some p=>
    rw [e1] at a1; rw [e2] at a2;obtain ⟨B2,o2,g1,g2,g3,g4⟩:=a2;have:=OwnB.lt hr ⟨p.1,p.2,B2,o2,g1,g2,g3,g4⟩;simp only at a1;omega
  | some p=>
   rw [e1] at a1;obtain ⟨B1,o1,f1,f2,f3,f4⟩:=a1;cases e2:σ r n with
   | none=>
    rw [e2] at a2;have:=OwnB.lt hr ⟨p.1,p.2,B1,o1,f1,f2,f3,f4⟩;simp only at a2;omega
   | some p'=>
    rw [e2] at a2;obtain ⟨B2,o2,g1,g2,g3,g4⟩:=a2
    by_cases hp:p=p'
    ·subst hp
     obtain ⟨rfl,rfl⟩:=key (e1.trans e2.symm);rcases hqr with h | h <;> exact h rfl
    ·refine hr.inj p.1 p'.1 p.2 p'.2 B1 B2 b o1 o2 ?_ f1 g1 f2 g2 f3 g3 f4 g4
     by_cases h1:p.1=p'.1
     ·exact .inr fun h2=>hp (Prod.ext h1 h2)
     ·exact .inl h1
theorem RB.left {C:Cx} {φ:Loc} {h:Heap} (hr:HR C φ h) {w':World} (hC:C.Le { C with w:=w' }) (bw:Option Nat)
 (hoth:∀b,b<C.w.heap.size→bw≠some b→w'.heap[b]? = C.w.heap[b]?) (hwd:∀b,Wide C.w w' b) {j0 k0:Nat} {B0:Blk} (hbw:∀b,bw=some b→h[j0]? = some B0∧B0.own=true∧k0<B0.parts∧∃o,φ j0 k0=some (b,o))
 {q:Nat} {B:Blk} (hq:h[q]? = some B) (hne:q≠j0):RB { C with w:=w' } B (φ q):=by
 refine (hr.blk q B hq).world' hC hwd fun m b o hm e hlv=>?_
 obtain ⟨hl,_,hI⟩:=RB.at hlv (hr.blk q B hq) hm e;refine ⟨hoth b hl fun eb=>?_,mh⟩
 obtain ⟨g1,g2,g3,o0,g4⟩:=hbw b eb
 by_cases ho:B.own=true
 ·exact hr.inj q j0 m k0 B B0 b o o0 (.inl hne) hq g1 ho g2 hm g3 e g4
 ·exact OwnB.not_I hr ⟨j0,k0,B0,o0,g1,g2,g3,g4⟩ (hI (by simpa using ho))
section
variable {C:Cx} {φ:Loc} {s:St} {a:Act} {o:Oper} {K:Nat→Prop}
theorem a79 (hs:SR C φ s a.tmps) {x j:Arg} {t e:TypeId} {x' j':Operand} (ho:o.op=.indexAddr t x' j') (hx:ck C.num x x'=true) (hj:ck C.num j j'=true)
 (ht:P.underlying t=some (.slice e)) (he:nj P e .leaf=true) {k:Nat} (hk:(s.e.arg j).bind V.nat? = some k) {i off n:Nat} {cap:Option Nat} (hv:s.e.arg x=some (.sl i [0] off n cap))
 {fr:Bool} {sh:Sh} {idx:List Nat} {rows:List (List D)} (hB:s.h[i]? = some (.tb fr sh idx rows)) (hkn:k<n) (hle:off+n≤idx.length):OpGood P o a C φ s.h (.ptr i [0,off+k]) s.h K:=by
 obtain ⟨q,hk'⟩:=Dc hk;have h2:=mu (c6 hs hj hk');obtain ⟨inf,hinf,hsz⟩:=gz he;have h1:=c6 hs hx hv;simp only [RX] at h1;obtain ⟨B',base,t',m,ad,cc,hB',hrun,hm,e1,hlc,_,hloc⟩:=h1;obtain rfl:=au (hB.symm.trans hB');simp only [Blk.run,ab,al] at hrun;obtain ⟨rfl,rfl,rfl⟩:=hrun;obtain ⟨b,o',arr,el,fz,hφ,rfl,_,_⟩:=hloc (by omega)
 refine cg hs (u:=.pointer (some ⟨b,o'+0+off*Sh.leaf.size+k*Sh.leaf.size,none⟩)) ?_ ?_
 ·simp [execOp,ho,e1,h2,Instr.indexAt,asIntOf,run_underlying ht,hkn,i7 hinf,hsz,ku]
 ·simp only [RX]
  refine ⟨_,b,o',(off+k,.leaf),hB,by simpa [Blk.part] using hφ,?_,?_⟩
  ·simp only [Blk.off,Sh.off,bc,dd]
   rw [if_pos (by omega)]
  ·simp [Sh.size,fm]
theorem Uw (hs:SR C φ s a.tmps) {x:Arg} {t:TypeId} {y:Operand} (ho:o.op=.load t y) (hok:ck C.num x y=true) (ht:nj P t .leaf=true) {i k r:Nat} (hv:s.e.arg x=some (.ptr i [0,k]))
 {fr:Bool} {sh:Sh} {idx:List Nat} {rows:List (List D)} (hB:s.h[i]? = some (.tb fr sh idx rows)) (hk:idx[k]? = some r) {xs:List D} (hx:rows[r]? = some xs) :
 OpGood P o a C φ s.h (.sl i [r+1] 0 xs.length none) s.h K:=by
 have h1:=c6 hs hok hv;simp only [RX] at h1;obtain ⟨B',b,off,q,hB',hφ,hq,e⟩:=h1;obtain rfl:=au (hB.symm.trans hB');have hrb:=hs.hr.blk i _ hB;simp only [RB] at hrb;obtain ⟨⟨b0,o0,cs,e0,ha,hp⟩,_⟩:=hrb;simp only [Blk.part] at hφ;obtain ⟨rfl,rfl⟩:b=b0∧off=o0:=by simpa using hφ.symm.trans e0
 obtain ⟨ys,b',o',c,arr,el,fz,g0,g1,g2,g3,g4,g5⟩:=hp.2 k r hk;obtain rfl:xs=ys:=au (hx.symm.trans g0);have hkl:k<idx.length:=(ao.1 hk).1;simp only [Blk.off,Sh.off,if_pos hkl,bc,dd,ab] at hq;subst hq
 have hc:CellsAt C.w b (off+k) [.slice (some ⟨b',o',none⟩) xs.length c]:=by
  have:=ha.cells.part k 1
  have e2:(cs.drop k).take 1=[.slice (some ⟨b',o',none⟩) xs.length c]:=by
   obtain ⟨hl,hg⟩:=ao.1 g2;rw [c8 hl,hg]; rfl
  rwa [e2] at this
 refine cg hs (u:=.slice (some ⟨b',o',none⟩) xs.length c) (by simp [execOp,ho,e,a1x ht hc rfl]) ?_
 simp only [RX];exact ⟨_,0,sh,xs.length,_,c,hB,by simp [Blk.run,hx],by omega,rfl,g3,by simp,fun _=>⟨b',o',arr,el,fz,by simpa [Blk.part] using g1,by simp,g4,by simpa using g5⟩⟩
theorem a8e {sh:Sh} {idx idx':List Nat} {rows:List (List D)} (hl:idx'.length=idx.length):(Blk.tb false sh idx rows).alike (.tb false sh idx' rows):=by
 have ho:∀p,(Blk.tb false sh idx' rows).off p=(Blk.tb false sh idx rows).off p:=fun p=>by
  match p with
  | []=>rfl
  | [0]=>rfl
  | [_+1]=>rfl
  | 0::i::p=>simp only [Blk.off,hl]
  | (_+1)::i::p=>rfl
 refine ⟨ho,fun p=>?_,fun p=>by cases p <;> rfl⟩
 match p with
 | []=>rfl
 | [0]=>simp only [Blk.run,hl]
 | [_+1]=>rfl
 | 0::i::p=>simp only [Blk.run]; rw [ho]
 | (_+1)::i::p=>simp only [Blk.run]; rw [ho]
theorem Qh (hs:SR C φ s a.tmps) {x y:Arg} {t:TypeId} {x' y':Operand} (ho:o.op=.store t x' y') (hdst:o.dst=none) (hx:ck C.num x x'=true) (hy:ck C.num y y'=true)
 (ht:nj P t .leaf=true) {i k r n:Nat} {cap:Option Nat} (hp:s.e.arg x=some (.ptr i [0,k])) (hv:s.e.arg y=some (.sl i [r+1] 0 n cap))
 {sh:Sh} {idx:List Nat} {rows:List (List D)} (hB:s.h[i]? = some (.tb false sh idx rows)) (hk:k<idx.length) (hn:0<n) (hr:(rows[r]?).map List.length=some n) :
 OpGood P o a C φ s.h (.tup []) (s.h.set i (.tb false sh (idx.set k r) rows)) K:=by
 obtain ⟨xs,hxs,hxn⟩:=ae.1 hr;have h1:=c6 hs hx hp;have h2:=c6 hs hy hv;simp only [RX] at h1 h2;obtain ⟨B',b,off,q,hB',hφ,hq,e⟩:=h1;obtain rfl:=au (hB.symm.trans hB');obtain ⟨B2,base,s2,m,ad,c,hB2,hrun,hm,e2,hlc,_,hloc⟩:=h2;obtain rfl:=au (hB.symm.trans hB2);simp only [Blk.run,hxs,bc,ab,al] at hrun;obtain ⟨rfl,rfl,rfl⟩:=hrun;obtain ⟨b',o',arr',el',fz',hφ',rfl,hw',hsz'⟩:=hloc (by omega)
 simp only [lj,dd,b9] at e2 hsz';simp only [Blk.part] at hφ hφ';have hrb:=hs.hr.blk i _ hB;simp only [RB] at hrb;obtain ⟨⟨b0,o0,cs,e0,ha,hpl⟩,hrows⟩:=hrb;obtain ⟨rfl,rfl⟩:b=b0∧off=o0:=by simpa using hφ.symm.trans e0
 simp only [Blk.off,Sh.off,if_pos hk,bc,dd,ab] at hq;subst hq;simp only [RAt,b5,if_false] at ha;obtain ⟨hnI,arr,el,hw,hc⟩:=ha;have hcl:=hpl.1
 have hin:off+k<arr.size:=by
  have:=hc k _ (ac (by omega))
  exact (ch.1 this).1
 have hrunS:=Xs (P:=P) (n:=n) (c:=c) (ad:=some ⟨b',o',none⟩) ht hw hin;obtain ⟨Ii,hw2,hsz2,he2⟩:=mb b [.slice (some ⟨b',o',none⟩) n c] (off+k) C.w arr el (0,0) hw (by simp; omega)
 obtain ⟨r1,r2,r3,r4⟩:=nk b [.slice (some ⟨b',o',none⟩) n c] (off+k) C.w;have hoth:∀p,p≠b→(C.w.setCells b (off+k) [.slice (some ⟨b',o',none⟩) n c]).heap[p]? = C.w.heap[p]?:=fun p hp=>fi b _ _ _ p hp
 have hwide:Wide C.w (C.w.setCells b (off+k) [.slice (some ⟨b',o',none⟩) n c]) b:=fun a3 el3 fz3 h3=>by
  rw [hw] at h3;simp only [ab,Obj.cells.injEq] at h3;obtain ⟨rfl,rfl,rfl⟩:=h3;exact ⟨Ii,el,_,hw2,by omega⟩
 have hwd:∀p,Wide C.w (C.w.setCells b (off+k) [.slice (some ⟨b',o',none⟩) n c]) p:=fun p=>by
  by_cases hp:p=b
  ·subst hp; exact hwide
  ·exact .of_eq (hoth p hp)
 have hC:C.Le { C with w:=C.w.setCells b (off+k) [.slice (some ⟨b',o',none⟩) n c] }:=⟨rfl,fun _ g=>g,fun p g=>hoth p fun e=>hnI (e▸g)⟩
 obtain ⟨st,kp⟩:=wk hs.hr hs.bd hB (B':=.tb false sh (idx.set k r) rows) rfl (k0:=0) (by simp [Blk.parts]) hφ rfl hoth r1 r2 r3 r4 hwide
  (by
   simp only [RB];refine ⟨⟨b,off,cs.set k (.slice (some ⟨b',o',none⟩) n c),hφ,?_,by simp [hcl],fun p q hq=>?_⟩,fun q ys hy=>?_⟩
   ·simp only [RAt,b5,if_false]
    refine ⟨hnI,Ii,el,hw2,fun p u hu=>?_⟩
    rw [he2]
    by_cases hpk:k=p
    ·subst hpk
     rw [b4 (by omega)] at hu
     simp [←hu]
    ·rw [b7 hpk] at hu
     rw [if_neg (by simp; omega)]
     exact hc p u hu
   ·by_cases hpk:k=p
    ·subst hpk
     rw [b4 hk] at hq;obtain rfl:=au hq;obtain ⟨a3,el3,fz3,h3,h4⟩:=hwd b' arr' el' fz' hw';exact ⟨xs,b',o',c,a3,el3,fz3,hxs,hφ',by rw [b4 (by omega),hxn],by omega,h3,by omega⟩
    ·rw [b7 hpk] at hq
     obtain ⟨ys,b3,o3,c3,a3,el3,fz3,g0,g1,g2,g3,g4,g5⟩:=hpl.2 p q hq;obtain ⟨a4,el4,fz4,h3,h4⟩:=hwd b3 a3 el3 fz3 g4;exact ⟨ys,b3,o3,c3,a4,el4,fz4,g0,g1,by rw [b7 hpk]; exact g2,g3,h3,by omega⟩
   ·obtain ⟨b3,o3,cs3,q1,q2,q3⟩:=hrows q ys hy
    have hql:=(ao.1 hy).1
    have hne:b3≠b:=by
     rintro rfl
     exact hs.hr.inj i i (q+1) 0 _ _ b3 o3 off (.inr (by omega)) hB hB rfl rfl (by simp only [Blk.parts]; omega) (by simp [Blk.parts]) q1 hφ
    exact ⟨b3,o3,cs3,q1,RDs.mono hC _ _ _ q2,q3.world' (C:=C) mh (hoth b3 hne)⟩) (K:=fun _=>False) (.inr (a8e (by simp)))
 refine ⟨_,_,.tuple #[],_,?_,.inr ⟨rfl,hdst⟩,st,by simp [RX,RXs],kp.mono (by simp)⟩
 simp only [execOp,ho,e,e2,Sem.run_bind,hrunS,Result.andThen_ok,Sem.run_pure]
theorem L9 (B:Blk):B.alike B.toGone:=⟨fun _=>rfl,fun _=>rfl,fun _=>rfl⟩
theorem Vw (hs:SR C φ s a.tmps) {x:Arg} {t e:TypeId} {y:Operand} (ho:o.op=.buildSlice t 1 #[(0,y)]) (hok:ck C.num x y=true) (ht:P.underlying t=some (.slice e)) (he:nj P e .leaf=true)
 {z:D} (hz:o6 P e z=true) (hzs:z.sh=.leaf) {i j n:Nat} {cap:Option Nat} (hv:s.e.arg x=some (.sl j [] 0 n cap)) {sh:Sh} {cs:List D} (hB:s.h[j]? = some (.sl false sh cs)) (hn:n=cs.length) (h0:0<n)
 (hi:(s.h.set j (Blk.toGone (.sl false sh cs)))[i]? = some .hole) :
 OpGood P o a C φ s.h (.sl i [0] 0 1 (some 1)) ((s.h.set j (Blk.toGone (.sl false sh cs))).set i (.tb false sh [0] [cs])) K:=by
 have hX:=c6 hs hok hv;simp only [RX] at hX;obtain ⟨B',base,s',m,ad,c,hB',hrun,hm,e1,hlc,_,hloc⟩:=hX;obtain rfl:=au (hB.symm.trans hB');simp only [Blk.run,ab,al] at hrun;obtain ⟨rfl,rfl,rfl⟩:=hrun;obtain ⟨b,o',arr,el,fz,hφ,rfl,hw,hsz⟩:=hloc (by omega)
 simp only [lj,dd,b9] at e1 hsz;simp only [Blk.part] at hφ;have hjl:j<s.h.length:=(ao.1 hB).1
 have hij:i≠j:=by
  rintro rfl
  rw [b4 hjl] at hi;simp [Blk.toGone] at hi
 have hi0:s.h[i]? = some .hole:=by rwa [b7 (f9 hij)] at hi
 have hil:i<s.h.length:=(ao.1 hi0).1;obtain ⟨inf,zv,hinf,hiz,hzr,hzv,hnt⟩:=pr hz;obtain ⟨_,hzc⟩:=(hzv C).notTup hnt
 have hul:zv.cells.size=1:=by
  have:=ji z _ hzc;rw [hzs] at this
  simpa [Sh.size] using this
 obtain ⟨ie,hie,hse⟩:=gz he;have hse':ie.size=1:=hse
 have hrunE:(execOp a.eval o).run P C.w=.ok (.value (.slice (some ⟨C.w.heap.size,0,none⟩) 1 1)) (C.w.alloc (.cells #[a.eval y] e (0,0))):=by
  have hfill:∀f:Nat→Value,Instr.fill (fun i=>some (i*1,1)) ((Array.range (1*1)).map f) [(0,a.eval y)]=some #[a.eval y]:=by
   intro f;rw [e1];have hr1:Array.range 1 = #[0]:=rfl;simp [Instr.fill,Value.cells,hr1]
  have hnb:¬ (1*1 > 2^24):=by omega
  simp only [execOp,ho,Instr.buildSlice,Sem.run_bind,run_underlying ht,i7 hie,hse',Result.andThen_ok,if_neg hnb,Nat.mul_one,Nat.one_ne_zero,if_false,hzr,Sem.run_pure,newRow,newObj];have:=hfill (fun i=>zv.cells[i%zv.cells.size]!)
  simp only [Nat.mul_one] at this;simp [this];rfl
 have hhole:∀(q:Nat) (B:Blk),q≠i→q≠j→((s.h.set j (Blk.toGone (.sl false sh cs))).set i (.tb false sh [0] [cs]))[q]? = some B→s.h[q]? = some B:=by
  intro q B h1 h2 h3
  rwa [b7 (f9 h1),b7 (f9 h2)] at h3
 have hati:((s.h.set j (Blk.toGone (.sl false sh cs))).set i (.tb false sh [0] [cs]))[i]? = some (.tb false sh [0] [cs]):=b4 (by simpa using hil)
 have hatj:((s.h.set j (Blk.toGone (.sl false sh cs))).set i (.tb false sh [0] [cs]))[j]? = some (Blk.toGone (.sl false sh cs)):=by rw [b7 hij,b4 hjl]
 have hheap:∀b,b<C.w.heap.size→(C.w.alloc (.cells #[a.eval y] e (0,0))).heap[b]? = C.w.heap[b]?:=fun b hb=>dz _ _ _ hb
 have hwd:∀b,Wide C.w (C.w.alloc (.cells #[a.eval y] e (0,0))) b:=Wide.of_lt hheap;have hC:C.Le { C with w:=C.w.alloc (.cells #[a.eval y] e (0,0)) }:=⟨rfl,fun _ g=>g,fun b g=>hheap b (hs.bd b g)⟩
 have hrb:=hs.hr.blk j _ hB;simp only [RB,hφ] at hrb;obtain ⟨us,hrd,hat⟩:=hrb;have hbl:=hat.lt
 let φ':Loc:=fun q=>if q=i then (fun m=>if m=0 then some (C.w.heap.size,0) else φ j 0) else φ q
 have st:Step C { C with w:=C.w.alloc (.cells #[a.eval y] e (0,0)) } φ φ' s.h ((s.h.set j (Blk.toGone (.sl false sh cs))).set i (.tb false sh [0] [cs])):=by
  refine O7 hs.hr hs.bd none (by simp) (fun b hb _=>hheap b hb) (by simp) rfl rfl rfl hwd (fun q m=>if q=i then (if m=0 then none else some (j,0)) else some (q,m)) ?_ ?_ ?_
  ·intro q m B b2 o2 hq hown hm hφ2
   by_cases hqi:q=i
   ·subst hqi
    rw [hati] at hq;obtain rfl:=au hq
    by_cases hm0:m=0
    ·subst hm0
     simp only [φ',if_true,ab,al] at hφ2;simp only [if_true];omega
    ·simp only [φ',if_true,if_neg hm0] at hφ2
     simp only [if_true,if_neg hm0];exact ⟨_,o2,hB,rfl,by simp [Blk.parts],hφ2⟩
   ·by_cases hqj:q=j
    ·subst hqj
     rw [hatj] at hq;obtain rfl:=au hq;simp [Blk.toGone,Blk.own] at hown
    ·simp only [φ',if_neg hqi] at hφ2
     simp only [if_neg hqi];exact ⟨B,o2,hhole q B hqi hqj hq,hown,hm,hφ2⟩
  ·intro q m r n B B' hq hoq hm hr hor hn hσ
   have gj:∀{q B},((s.h.set j (Blk.toGone (.sl false sh cs))).set i (.tb false sh [0] [cs]))[q]? = some B→B.own=true→q≠j:=by
    rintro q B hq ho rfl
    rw [hatj] at hq;obtain rfl:=au hq;simp [Blk.toGone,Blk.own] at ho
   have h1:=gj hq hoq;have h2:=gj hr hor
   have hpm:∀{m B},((s.h.set j (Blk.toGone (.sl false sh cs))).set i (.tb false sh [0] [cs]))[i]? = some B→m<B.parts→m<2:=by
    intro m B hq hm;rw [hati] at hq;obtain rfl:=au hq
    simpa [Blk.parts] using hm
   by_cases hqi:q=i <;> by_cases hri:r=i
   ·subst hqi; subst hri
    have:=hpm hq hm;have:=hpm hr hn;refine ⟨rfl,?_⟩;simp only [if_true] at hσ
    by_cases hm0:m=0 <;> by_cases hn0:n=0 <;> simp [hm0,hn0] at hσ <;> omega
   ·simp only [if_pos hqi,if_neg hri] at hσ
    by_cases hm0:m=0 <;> simp [hm0] at hσ
    exact absurd hσ.1.symm h2
   ·simp only [if_neg hqi,if_pos hri] at hσ
    by_cases hn0:n=0 <;> simp [hn0] at hσ
    exact absurd hσ.1 h1
   ·simpa [if_neg hqi,if_neg hri] using hσ
  ·intro q B hq
   by_cases hqi:q=i
   ·subst hqi
    rw [hati] at hq;obtain rfl:=au hq;simp only [RB,φ',if_true];refine ⟨⟨C.w.heap.size,0,[a.eval y],rfl,?_,by simp,fun k r hk=>?_⟩,fun r xs hx=>?_⟩
    ·simp only [RAt,b5,if_false]
     refine ⟨fun g=>by have:=hs.bd _ g; omega,#[a.eval y],e,pz _ _,fun p u hu=>?_⟩
     rw [b9]; simpa using hu
    ·cases k with
     | zero=>
      simp only [ct,ab] at hk;subst hk;obtain ⟨a2,el2,fz2,h2,h3⟩:=hwd b arr el fz hw;exact ⟨cs,b,o',c,a2,el2,fz2,rfl,by simpa using hφ,by simp [e1,hn],by omega,h2,by omega⟩
     | succ k=>simp at hk
    ·cases r with
     | zero=>
      simp only [ct,ab] at hx;subst hx;exact ⟨b,o',us,by simpa using hφ,RDs.mono hC _ _ _ hrd,hat.world' (C:=C) mh (hheap b hbl)⟩
     | succ r=>simp at hx
   ·by_cases hqj:q=j
    ·subst hqj
     rw [hatj] at hq;obtain rfl:=au hq
     trivial
    ·simp only [φ',if_neg hqi]
     exact RB.left hs.hr hC none (fun b hb _=>hheap b hb) hwd (j0:=j) (k0:=0) (B0:=.hole) (by simp) (hhole q B hqi hqj hq) hqj
 refine ⟨_,φ',_,_,hrunE,.inl rfl,st,?_,fun v u hv g=>?_⟩
 ·simp only [RX]
  exact ⟨_,0,.leaf,1,_,1,hati,by simp [Blk.run],by omega,rfl,ba _,by simp,fun _=>⟨C.w.heap.size,0,#[a.eval y],e,(0,0),by simp [φ',Blk.part],by simp,pz _ _,by simp [Sh.size]⟩⟩
 ·have hni:∀q∈v.refs,q≠i:=fun q hq e=>by
   obtain ⟨B,hB2,hn2⟩:=RX.refs v u g q hq;rw [e,hi0] at hB2;exact hn2 (au hB2).symm
  refine RX.congr hC v u (fun q hq B hB2=>?_) (fun q hq=>by simp only [φ',if_neg (hni q hq)]) hwd g
  by_cases hqj:q=j
  ·subst hqj
   obtain rfl:=au (hB.symm.trans hB2);exact ⟨_,hatj,L9 _⟩
  ·refine ⟨B,?_,.refl B⟩
   rw [b7 (f9 (hni q hq)),b7 (f9 hqj)]; exact hB2
structure TabIn (P:Program) (C:Cx) (φ:Loc) (s:St) (sh:Sh) (j n:Nat) (B:Blk) (idx:List Nat) (rows:List (List D)) (size:Nat) (u:Value) (ad:Option Addr) (c:Nat) (olds:List Value):Prop where
 val:u=.slice ad n c
 le:n≤c
 len:olds.length=n
 first:(Builtin.firstCells size n (.slice ad n c)).run P C.w.drew=.ok olds.toArray C.w.drew
 places:Places C sh idx rows (φ j) olds
 own:B.own=true
 parts:B.parts=rows.length+1
 rows:∀(r:Nat) xs,rows[r]? = some xs→ajl C false sh (φ j (r+1)) xs
 room:n+1≤c→∃b o arr el,φ j 0=some (b,o)∧ad=some ⟨b,o,none⟩∧¬ C.I b∧C.w.heap[b]? = some (.cells arr el (0,0))∧(∀(q:Nat) v,olds[q]? = some v→arr[o+q]? = some v)∧o+c≤arr.size
theorem adu (hs:SR C φ s a.tmps) {x:Arg} {x':Operand} (hx:ck C.num x x'=true) {p:List Nat} {j n:Nat} {cap:Option Nat} (hv:s.e.arg x=some (.sl j p 0 n cap)) {B:Blk} (hB:s.h[j]? = some B)
 {sh:Sh} {idx:List Nat} {rows:List (List D)} (has:Blk.asTb sh p cap B=some (idx,rows)) (hn:n=idx.length):∃ad c olds,TabIn P C φ s sh j n B idx rows 1 (a.eval x') ad c olds:=by
 have hX:=c6 hs hx hv;simp only [RX] at hX;obtain ⟨B',base,s',m,ad,c,hB',hrun,hm,e1,hlc,hcap,hloc⟩:=hX;obtain rfl:=au (hB.symm.trans hB');unfold Blk.asTb at has
 split at has
 ·simp only [ab,al] at has
  obtain ⟨rfl,rfl⟩:=has;have hc0:=hcap 0 rfl;subst hc0;simp only [da] at hn;subst hn;refine ⟨ad,0,[],⟨e1,ba _,rfl,?_,⟨rfl,by simp⟩,rfl,rfl,by simp,by omega⟩⟩
  cases ad with
  | none=>exact run_firstCells_none C.w.drew 1 0 0 0
  | some q=>exact run_firstCells_some C.w.drew 1 0 q 0 0 [] (by simp) (by simp)
 ·split at has
  ·rename_i hbeq
   simp only [ab,al] at has;obtain ⟨rfl,rfl⟩:=has;obtain rfl:=Sh.beq_eq _ _ hbeq;simp only [Blk.run,ab,al] at hrun;obtain ⟨rfl,rfl,rfl⟩:=hrun;have hrb:=hs.hr.blk j _ hB;simp only [RB] at hrb;obtain ⟨⟨b,o,cs,e0,ha,hp⟩,hrows⟩:=hrb;have hcl:cs.length=n:=by rw [hp.1,hn]
   have hat:=ha;simp only [RAt,b5,if_false] at hat;obtain ⟨hnI,arr,el,hw,hcells⟩:=hat
   have hlo:0<c→ad=some ⟨b,o,none⟩∧o+c≤arr.size:=by
    intro h0;obtain ⟨b2,o2,Ii,el2,fz2,h1,h2,h3,h4⟩:=hloc h0;simp only [Blk.part] at h1;obtain ⟨rfl,rfl⟩:b=b2∧o=o2:=by simpa using e0.symm.trans h1
    rw [hw] at h3;simp only [ab,Obj.cells.injEq] at h3;obtain ⟨rfl,rfl,rfl⟩:=h3;refine ⟨by simpa using h2,by simpa [Sh.size] using h4⟩
   refine ⟨ad,c,cs,⟨e1,hlc,hcl,?_,hp,rfl,rfl,hrows,fun h0=>?_⟩⟩
   ·by_cases h0:n=0
    ·subst h0
     obtain rfl:=ej.1 hcl;cases ad with
     | none=>exact run_firstCells_none C.w.drew 1 0 0 c
     | some q=>exact run_firstCells_some C.w.drew 1 0 q 0 c [] (by simp) (by simp)
    ·obtain ⟨rfl,_⟩:=hlo (by omega)
     refine run_firstCells_some C.w.drew 1 n _ n c cs (by omega) (fun q v hq=>?_)
     have:=ha.cells.range q v hq;rw [ku]
     simpa using this
   ·obtain ⟨h1,h2⟩:=hlo (by omega)
    exact ⟨b,o,arr,el,e0,h1,hnI,hw,hcells,h2⟩
  ·cases has
 ·cases has
theorem X7 (hs:SR C φ s a.tmps) {x y:Arg} {x' y':Operand} {t tx e e':TypeId} {inf:TypeInfo} {z:Value} {bytes:Nat} (ho:o.op=.call { callee:=.builtin .append,args:=#[x',y'],argTypes:=#[t,tx] }) (hx:ck C.num x x'=true) (hy:ck C.num y y'=true)
 (ht:P.underlying t=some (.slice e)) (hi:P.info? e=some inf) (hz:inf.zero=some z) (hsz:inf.size=1) (hby:inf.bytes=bytes) (hzs:z.cells.size=1) (htx:P.underlying tx=some (.slice e'))
 {p:List Nat} {j k n:Nat} {cap cap':Option Nat} (hv:s.e.arg x=some (.sl j p 0 n cap)) (hw:s.e.arg y=some (.sl k [0] 0 1 cap')) {B:Blk} (hB:s.h[j]? = some B) {sh:Sh} {cs:List D} (hK:s.h[k]? = some (.tb false sh [0] [cs]))
 {idx:List Nat} {rows:List (List D)} (has:Blk.asTb sh p cap B=some (idx,rows)) (hn:n=idx.length) (hjk:j≠k) (hpos:0<bytes) (hbig:(n+1)*bytes≤1099511627776) :
 OpGood P o a C φ s.h (.sl j [0] 0 (n+1) none) ((s.h.set k (Blk.toGone (.tb false sh [0] [cs]))).set j (.tb false sh (idx++[rows.length]) (rows++[cs]))) (fun q=>q=j):=by
 obtain ⟨ad,c,olds,T⟩:=adu (P:=P) hs hx hv hB has hn
 -- the new row
 have hY:=c6 hs hy hw;simp only [RX] at hY;obtain ⟨B',base,s',m,ady,cy,hB',hrun,hm,ey,hlcy,_,hlocy⟩:=hY;obtain rfl:=au (hK.symm.trans hB');simp only [Blk.run,ab,al,bv,da] at hrun;obtain ⟨rfl,rfl,rfl⟩:=hrun;obtain ⟨bk,ok,arrk,elk,fzk,hφk,rfl,hwk,hszk⟩:=hlocy (by omega)
 simp only [lj,dd,b9] at ey hszk;simp only [Blk.part] at hφk;have hrbk:=hs.hr.blk k _ hK;simp only [RB] at hrbk;obtain ⟨⟨b0,o0,csk,e0,hak,hpk⟩,hrowk⟩:=hrbk;obtain ⟨rfl,rfl⟩:bk=b0∧ok=o0:=by simpa using hφk.symm.trans e0
 obtain ⟨xs0,b1,o1,c1,arr1,el1,fz1,g0,g1,g2,g3,g4,g5⟩:=hpk.2 0 0 rfl;simp only [ct,ab] at g0;subst g0;obtain ⟨u,rfl⟩:∃u,csk=[u]:=List.length_eq_one_iff.1 (by simpa using hpk.1)
 simp only [ct,ab] at g2;subst g2;obtain ⟨b1',o1',us1,q1,q2,q3⟩:=hrowk 0 cs rfl;obtain ⟨rfl,rfl⟩:b1=b1'∧o1=o1':=by simpa using g1.symm.trans q1
 have hb1l:=q3.lt
 have hS:Src P inf.size tx (.slice (some ⟨bk,ok,none⟩) 1 cy) 1 [.slice (some ⟨b1,o1,none⟩) cs.length c1] C.w:=
  Src.ofSlice C.w htx ⟨bk,ok,none⟩ 1 cy _ (by simp [hsz]) (fun q v hq=>by rw [ku]; exact hak.cells.range q v hq) (by simp [Value.oneCell'])
 have hexec:∀v w',(Builtin.append_ #[t,tx] o.type #[a.eval x',a.eval y']).run P C.w=.ok v w'→(execOp a.eval o).run P C.w=.ok (.value v) w':=by
  intro v w' hr;simp [execOp,ho,resolve,invoke,builtin,hr]
 have hjl:j<s.h.length:=(ao.1 hB).1;have hkl:k<s.h.length:=(ao.1 hK).1;generalize hh':(s.h.set k (Blk.toGone (.tb false sh [0] [cs]))).set j (.tb false sh (idx++[rows.length]) (rows++[cs]))=h';have hatj:h'[j]? = some (.tb false sh (idx++[rows.length]) (rows++[cs])):=by rw [←hh']; exact b4 (by simpa using hjl)
 have hatk:h'[k]? = some (Blk.toGone (.tb false sh [0] [cs])):=by rw [←hh',b7 hjk,b4 hkl]
 have hrest:∀q:Nat,q≠j→q≠k→h'[q]? = s.h[q]?:=fun q h1 h2=>by rw [←hh',b7 (f9 h1),b7 (f9 h2)]
 have hil:=T.places.1
 -- the new memory
 have fin:∀(w':World) (bw:Option Nat) (s0:Option (Nat×Nat)) (bL oL c':Nat) (arrL:Array Value) (elL:TypeId),(∀b,bw=some b→s0=some (j,0)∧∃o,φ j 0=some (b,o))→(∀b,b<C.w.heap.size→bw≠some b→w'.heap[b]? = C.w.heap[b]?)→C.w.heap.size≤w'.heap.size →
  w'.os=C.w.os→w'.output=C.w.output→w'.tape=C.w.tape→(∀b,Wide C.w w' b)→(s0=none→C.w.heap.size≤bL)→(∀q,s0=some q→q=(j,0)∧bw=some bL)→¬ C.I bL→w'.heap[bL]? = some (.cells arrL elL (0,0)) →
  (∀(q:Nat) v,(olds++[Value.slice (some ⟨b1,o1,none⟩) cs.length c1])[q]? = some v→arrL[oL+q]? = some v)→n+1≤c'→oL+c'≤arrL.size →
  (execOp a.eval o).run P C.w=.ok (.value (.slice (some ⟨bL,oL,none⟩) (n+1) c')) w' →
  OpGood P o a C φ s.h (.sl j [0] 0 (n+1) none) h' (fun q=>q=j):=by
  intro w' bw s0 bL oL c' arrL elL hbw hoth hsize hos hout htape hwd hnew hs0 hnI hwL hcellL hc' hroom hrunE
  let φ':Loc:=fun q=>if q=j then (fun m=>if m=0 then some (bL,oL) else if m=rows.length+1 then φ k 1 else φ j m) else φ q
  have hbwO:∀b,bw=some b→OwnB φ s.h b:=fun b hb=>by
   obtain ⟨_,o2,ho2⟩:=hbw b hb;exact ⟨j,0,B,o2,hB,T.own,by rw [T.parts]; omega,ho2⟩
  have hC:C.Le { C with w:=w' }:=⟨rfl,fun _ g=>g,fun b g=>hoth b (hs.bd b g) fun e=>OwnB.not_I hs.hr (hbwO b e) g⟩
  have hst:∀{m b o2},m≠0→φ' j m=some (b,o2)→m<rows.length+2→b<C.w.heap.size∧bw≠some b:=by
   intro m b o2 hm0 hφ2 hm;simp only [φ',if_true,if_neg hm0] at hφ2
   by_cases hml:m=rows.length+1
   ·rw [if_pos hml,g1] at hφ2
    simp only [ab,al] at hφ2;obtain ⟨rfl,rfl⟩:=hφ2;refine ⟨hb1l,fun hb=>?_⟩
    obtain ⟨_,o3,ho3⟩:=hbw _ hb;exact hs.hr.inj j k 0 1 B _ b1 o3 o1 (.inl hjk) hB hK T.own rfl (by rw [T.parts]; omega) (by simp [Blk.parts]) ho3 g1
   ·rw [if_neg hml] at hφ2
    refine ⟨(RB.at (Blk.own_live T.own) (hs.hr.blk j B hB) (by rw [T.parts]; omega) hφ2).1,fun hb=>?_⟩
    obtain ⟨_,o3,ho3⟩:=hbw _ hb;exact hs.hr.inj j j 0 m B B b o3 o2 (.inr (f9 hm0)) hB hB T.own T.own (by rw [T.parts]; omega) (by rw [T.parts]; omega) ho3 hφ2
  have st:Step C { C with w:=w' } φ φ' s.h h':=by
   refine O7 hs.hr hs.bd bw hbwO hoth hsize hos hout htape hwd (fun q m=>if q=j then (if m=0 then s0 else if m=rows.length+1 then some (k,1) else some (j,m)) else some (q,m)) ?_ ?_ ?_
   ·intro q m B2 b2 o2 hq hown hm hφ2
    by_cases hqj:q=j
    ·subst hqj
     rw [hatj] at hq;obtain rfl:=au hq;simp only [Blk.parts,bg,bv,da] at hm
     by_cases hm0:m=0
     ·subst hm0
      simp only [φ',if_true,ab,al] at hφ2;obtain ⟨rfl,rfl⟩:=hφ2;simp only [if_true];cases hs0e:s0 with
      | none=>exact hnew hs0e
      | some q0=>
       obtain ⟨rfl,hbL⟩:=hs0 q0 hs0e;obtain ⟨_,o3,ho3⟩:=hbw _ hbL;exact ⟨B,o3,hB,T.own,by rw [T.parts]; omega,ho3⟩
     ·simp only [φ',if_true,if_neg hm0] at hφ2
      simp only [if_true,if_neg hm0]
      by_cases hml:m=rows.length+1
      ·rw [if_pos hml] at hφ2 ⊢
       exact ⟨_,o2,hK,rfl,by simp [Blk.parts],hφ2⟩
      ·rw [if_neg hml] at hφ2 ⊢
       exact ⟨B,o2,hB,T.own,by rw [T.parts]; omega,hφ2⟩
    ·by_cases hqk:q=k
     ·subst hqk
      rw [hatk] at hq;obtain rfl:=au hq;simp [Blk.toGone,Blk.own] at hown
     ·simp only [φ',if_neg hqj] at hφ2
      simp only [if_neg hqj];rw [hrest q hqj hqk] at hq;exact ⟨B2,o2,hq,hown,hm,hφ2⟩
   ·intro q m r n2 B2 B3 hq hoq hm hr hor hn2 hσ
    have gk:∀{q B},h'[q]? = some B→B.own=true→q≠k:=by
     rintro q B hq ho rfl
     rw [hatk] at hq;obtain rfl:=au hq;simp [Blk.toGone,Blk.own] at ho
    have h1:=gk hq hoq;have h2:=gk hr hor
    by_cases hqj:q=j <;> by_cases hrj:r=j
    ·refine ⟨hqj.trans hrj.symm,?_⟩
     simp only [if_pos hqj,if_pos hrj] at hσ
     by_cases a1:m=0 <;> by_cases a2:n2=0
     ·omega
     ·simp only [if_pos a1,if_neg a2] at hσ
      cases hs0e:s0 with
      | none=>rw [hs0e] at hσ; split at hσ <;> cases hσ
      | some q0=>
       obtain ⟨rfl,_⟩:=hs0 q0 hs0e;rw [hs0e] at hσ
       split at hσ
       ·simp only [ab,al] at hσ; omega
       ·simp only [ab,al] at hσ; omega
     ·simp only [if_neg a1,if_pos a2] at hσ
      cases hs0e:s0 with
      | none=>rw [hs0e] at hσ; split at hσ <;> cases hσ
      | some q0=>
       obtain ⟨rfl,_⟩:=hs0 q0 hs0e;rw [hs0e] at hσ
       split at hσ
       ·simp only [ab,al] at hσ; omega
       ·simp only [ab,al] at hσ; omega
     ·simp only [if_neg a1,if_neg a2] at hσ
      split at hσ <;> split at hσ <;> simp only [ab,al] at hσ <;> omega
    ·exfalso
     simp only [if_pos hqj,if_neg hrj] at hσ
     by_cases a1:m=0
     ·simp only [if_pos a1] at hσ
      cases hs0e:s0 with
      | none=>rw [hs0e] at hσ; cases hσ
      | some q0=>
       obtain ⟨rfl,_⟩:=hs0 q0 hs0e;rw [hs0e] at hσ;simp only [ab,al] at hσ;exact hrj hσ.1.symm
     ·simp only [if_neg a1] at hσ
      split at hσ <;> simp only [ab,al] at hσ
      ·exact h2 hσ.1.symm
      ·exact hrj hσ.1.symm
    ·exfalso
     simp only [if_neg hqj,if_pos hrj] at hσ
     by_cases a1:n2=0
     ·simp only [if_pos a1] at hσ
      cases hs0e:s0 with
      | none=>rw [hs0e] at hσ; cases hσ
      | some q0=>
       obtain ⟨rfl,_⟩:=hs0 q0 hs0e;rw [hs0e] at hσ;simp only [ab,al] at hσ;exact hqj hσ.1
     ·simp only [if_neg a1] at hσ
      split at hσ <;> simp only [ab,al] at hσ
      ·exact h1 hσ.1
      ·exact hqj hσ.1
    ·simpa [if_neg hqj,if_neg hrj] using hσ
   ·intro q B2 hq
    by_cases hqj:q=j
    ·subst hqj
     rw [hatj] at hq;obtain rfl:=au hq;simp only [RB];refine ⟨⟨bL,oL,olds++[Value.slice (some ⟨b1,o1,none⟩) cs.length c1],by simp [φ'],?_,by simp [hil],fun q2 r hr=>?_⟩,fun r xs hxr=>?_⟩
     ·simp only [RAt,b5,if_false]
      exact ⟨hnI,arrL,elL,hwL,hcellL⟩
     ·by_cases hq2:q2<idx.length
      ·rw [bi hq2] at hr
       obtain ⟨ys,b3,o3,c3,a3,el3,fz3,f0,f1,f2,f3,f4,f5⟩:=T.places.2 q2 r hr;have hrl:=(ao.1 f0).1;obtain ⟨a4,el4,fz4,h3,h4⟩:=hwd b3 a3 el3 fz3 f4;refine ⟨ys,b3,o3,c3,a4,el4,fz4,by rw [bi hrl]; exact f0,?_,by rw [bi (by omega)]; exact f2,f3,h3,by omega⟩
       simp only [φ',if_true];rw [if_neg (by omega),if_neg (by omega)]; exact f1
      ·rw [bj (by omega)] at hr
       have hq3:q2=idx.length:=by
        have:=(ao.1 hr).1;simp at this; omega
       subst hq3;simp only [lh,ct,ab] at hr;subst hr;obtain ⟨a4,el4,fz4,h3,h4⟩:=hwd b1 arr1 el1 fz1 g4;refine ⟨cs,b1,o1,c1,a4,el4,fz4,by rw [bj (by omega)]; simp,?_,by rw [bj (by omega)]; simp [hil],g3,h3,by omega⟩
       simp only [φ',if_true];rw [if_neg (by omega)]; exact g1
     ·by_cases hrl:r<rows.length
      ·rw [bi hrl] at hxr
       obtain ⟨b3,o3,us3,f1,f2,f3⟩:=T.rows r xs hxr
       have hfl:φ' q (r+1)=some (b3,o3):=by
        simp only [φ',if_true];rw [if_neg (by omega),if_neg (by omega)]; exact f1
       obtain ⟨k1,k2⟩:=hst (by omega) hfl (by omega)
       exact ⟨b3,o3,us3,hfl,RDs.mono hC _ _ _ f2,f3.world' (C:=C) mh (hoth b3 k1 k2)⟩
      ·rw [bj (by omega)] at hxr
       have hq3:r=rows.length:=by
        have:=(ao.1 hxr).1;simp at this; omega
       subst hq3;simp only [lh,ct,ab] at hxr;subst hxr
       have hfl:φ' q (rows.length+1)=some (b1,o1):=by
        simp only [φ',if_true];rw [if_neg (by omega)]; exact g1
       obtain ⟨k1,k2⟩:=hst (by omega) hfl (by omega)
       exact ⟨b1,o1,us1,hfl,RDs.mono hC _ _ _ q2,q3.world' (C:=C) mh (hoth b1 k1 k2)⟩
    ·by_cases hqk:q=k
     ·subst hqk
      rw [hatk] at hq;obtain rfl:=au hq
      trivial
     ·rw [hrest q hqj hqk] at hq
      simp only [φ',if_neg hqj];refine RB.left hs.hr hC bw hoth hwd (j0:=j) (k0:=0) (B0:=B) (fun b hb=>?_) hq hqj
      obtain ⟨_,o3,ho3⟩:=hbw b hb;exact ⟨hB,T.own,by rw [T.parts]; omega,o3,ho3⟩
  refine ⟨_,φ',_,_,hrunE,.inl rfl,st,?_,fun v u hv g=>?_⟩
  ·simp only [RX]
   exact ⟨_,0,.leaf,n+1,_,c',hatj,by simp [Blk.run,hn],by omega,rfl,hc',by simp,fun _=>⟨bL,oL,arrL,elL,(0,0),by simp [φ',Blk.part],by simp,hwL,by simpa [Sh.size] using hroom⟩⟩
  ·refine RX.congr hC v u (fun q hq B2 hB2=>?_) (fun q hq=>by simp only [φ',if_neg (hv q hq)]) hwd g
   by_cases hqk:q=k
   ·subst hqk
    obtain rfl:=au (hK.symm.trans hB2);exact ⟨_,hatk,L9 _⟩
   ·exact ⟨B2,by rw [hrest q (hv q hq) hqk]; exact hB2,.refl B2⟩
 have hle:=T.le;have holl:=T.len
 by_cases hgrow:c<n+1
 ·have hfit:Builtin.nextslicecap (n+1) c*inf.bytes≤281474976710656:=growslice_fits hgrow (by rw [hby]; omega)
  have h63:((n+1:Nat):Int)≤9223372036854775807:=by
   have:(n+1)*1≤(n+1)*bytes:=o4 _ hpos;omega
  have hrun2:=run_append_grow_src (P:=P) C.w t tx o.type e inf z ht hi hz ad n c olds (by rw [hsz]; exact T.first) _ 1 _ hS hgrow h63 hfit
  have hge:=grownCap_ge C.w (n+1) c e
  refine fin _ none none C.w.heap.size 0 _ _ _ (by simp) (fun b hb _=>dz C.w.drew _ _ hb) (by show C.w.heap.size≤(C.w.heap.push _).size; simp) rfl rfl rfl (Wide.of_lt fun b hb=>dz C.w.drew _ _ hb) (fun _=>ba _) (by simp)
   (fun g=>by have:=hs.bd _ g; omega) (pz C.w.drew _) (fun q v hq=>?_) hge ?_ (hexec _ _ (by rw [T.val,ey]; exact hrun2))
  ·rw [b9,me]
   ·simpa using hq
   ·simpa using (ao.1 hq).1
  ·simp only [Array.size_append,List.size_toArray,Builtin.zeroCells,Array.size_map,Array.size_range,hzs,bg,bv,da,holl]
   omega
 ·obtain ⟨b,o',arr,el,r1,rfl,r3,r4,r5,r6⟩:=T.room (by omega)
  have hrun2:=run_append_room_src (P:=P) C.w t tx o.type e inf ht hi b o' n c (.slice (some ⟨bk,ok,none⟩) 1 cy) 1 _ hS (by omega)
   (fun q hq=>by
    simp only [World.cell?,r4];have:o'+n*inf.size+q<arr.size:=by simp at hq; rw [hsz]; omega
    simp [this])
   (fun q hq=>by simp [World.frozen?,r4])
  rw [hsz,Nat.mul_one] at hrun2;obtain ⟨arr',hw',hsz2,he⟩:=mb b [Value.slice (some ⟨b1,o1,none⟩) cs.length c1] (o'+n) C.w arr el (0,0) r4 (by simp; omega)
  obtain ⟨k1,k2,k3,k4⟩:=nk b [Value.slice (some ⟨b1,o1,none⟩) cs.length c1] (o'+n) C.w;have hoth:∀q,q≠b→(C.w.setCells b (o'+n) [Value.slice (some ⟨b1,o1,none⟩) cs.length c1]).heap[q]? = C.w.heap[q]?:=fun q hq=>fi b _ _ _ q hq
  refine fin _ (some b) (some (j,0)) b o' c arr' el (fun b' hb'=>⟨rfl,o',by simp only [ab] at hb'; rw [←hb']; exact r1⟩) (fun q _ hq=>hoth q fun e=>hq (by rw [e])) (by rw [k1]; exact ba _) k2 k3 k4 (fun q=>?_) (by simp) (by simp) r3 hw' (fun q v hq=>?_) (by omega) (by omega)
   (hexec _ _ (by rw [T.val,ey]; exact hrun2))
  ·by_cases hqb:q=b
   ·subst hqb
    intro a3 el3 fz3 h3;rw [r4] at h3;simp only [ab,Obj.cells.injEq] at h3;obtain ⟨rfl,rfl,rfl⟩:=h3;exact ⟨arr',el,_,hw',by omega⟩
   ·exact .of_eq (hoth q hqb)
  ·rw [he]
   by_cases hql:q<n
   ·rw [bi (by omega)] at hq
    rw [if_neg (by omega)]
    exact r5 q v hq
   ·rw [bj (by omega)] at hq
    have:=(ao.1 hq).1;simp only [bv,da] at this;rw [if_pos (by simp; omega),show o'+q-(o'+n)=q-olds.length by omega]
    exact hq
end
def OpWp (P:Program) (o:Oper) (a:Act) (C:Cx) (φ:Loc) (h:Heap) (v:V) (h':Heap) (K:Nat→Prop):Prop:=
 ∀(next:Act→World→Prop) (Q:Exit→Act→World→Prop),(∀C' φ' u,Step C C' φ φ' h h'→(o.dst=none∨RX C' φ' h' v u)→Keeps C C' φ φ' h h' K→next (a.put o.dst u) C'.w)→o.wp P a C.w next Q
theorem OpGood.wp {o:Oper} {a:Act} {C:Cx} {φ:Loc} {h:Heap} {v:V} {h':Heap} {K:Nat→Prop} (g:OpGood P o a C φ h v h' K):OpWp P o a C φ h v h' K:=by
 obtain ⟨C',φ',u,n,hrun,hn,st,hx,hk⟩:=g;intro next Q hnext;unfold Oper.wp;rw [hrun];rcases hn with rfl | ⟨rfl,hd⟩
 ·exact hnext C' φ' u st (.inr hx) hk
 ·exact hnext C' φ' undef st (.inl hd) hk
theorem OpWp.mono {o:Oper} {a:Act} {C:Cx} {φ:Loc} {h:Heap} {v:V} {h':Heap} {K K':Nat→Prop} (g:OpWp P o a C φ h v h' K) (hk:∀i,K i→K' i):OpWp P o a C φ h v h' K':=
 fun next Q hn=>g next Q fun C' φ' u st hx k=>hn C' φ' u st hx (k.mono hk)
def pn:Operand→Bool
 | .const (.slice none 0 0)=>true
 | _=>false
def Jq (P:Program) (str:Bool) (t:TypeId):Bool:=
 match P.underlying t with
 | some (.map kt et)=>(match str,P.underlying kt with | true,some .string=>true | false,some (.int .i64)=>true | _,_=>false)&&o6 P et (.int .i64 0)
 | _=>false
theorem Di {P:Program} {str:Bool} {t:TypeId} (h:Jq P str t=true):∃kt et,P.underlying t=some (.map kt et)∧P.underlying kt=some (If str)∧o6 P et (.int .i64 0)=true:=by
 unfold Jq at h
 split at h
 ·rename_i kt et ht
  simp only [av] at h;refine ⟨kt,et,ht,?_,h.2⟩;have h1:=h.1
  split at h1
  ·rename_i hs; rw [hs]; rfl
  ·rename_i hs; rw [hs]; rfl
  ·cases h1
 ·cases h
def a39 (P:Program) (num:Nat→Nat) (p:Op) (o:Oper):Bool:=
 match p,o.op with
 | .mv x,.move y=>ck num x y
 | .mv x,.assign y=>ck num x y
 | .chk x,.nilCheck y=>ck num x y
 | .pick c x y,.pick c' x' y'=>ck num c c'&&ck num x x'&&ck num y y'
 | .nilOwn _ _,.move y=>pn y
 | .nilOwn _ _,.assign y=>pn y
 | .box _ _ x,.box _ y=>ck num x y
 | .box _ _ (.c z),.alloc t=>o6 P t z
 | .build _ z ps,.build t qs=>uk num ps qs.toList&&o6 P t z&&(match z,P.underlying t with
  | .arr n sh _,some (.array n' e)=>n == n'&&nj P e sh
  | .st ss _,some (.struct fs)=>il P 0 fs.toList ss
  | _,_=>false)
 | .buildSl _ _ sh z n ps,.buildSlice t n' qs=>n == n'&&uk num ps qs.toList&&(match P.underlying t with
  | some (.slice e)=>nj P e sh&&o6 P e z&&Sh.beq z.sh sh&&decide (0<sh.size)&&decide (n*sh.size≤16777216)
  | _=>false)
 | .mkSl _ sh z bytes x y,.makeSlice t x' y'=>ck num x x'&&ck num y y'&&(match P.underlying t with
  | some (.slice e)=>nj P e sh&&o6 P e z&&Sh.beq z.sh sh&&decide (0<sh.size)&&decide (0<bytes)&&(match P.info? e with | some inf=>inf.bytes == bytes | none=>false)
  | _=>false)
 | .load sh x,.load t y=>ck num x y&&nj P t sh
 | .store _ sh x y,.store t x' y'=>ck num x x'&&ck num y y'&&nj P t sh&&decide (0<sh.size)&&o.dst.isNone
 | .bin op x y,.binOp op' _ x' y' _=>decide (op=op')&&ck num x x'&&ck num y y'
 | .eqv neg q x y,.binOp op t x' y' _=>decide (op=if neg then .neq else .eql)&&ck num x x'&&ck num y y'&&Ih P t q&&(match q with | .str=>false | _=>true)&&decide (q.depth≤10000) && !P.eqGuardType P.depth t
 | .un op x,.unOp op' _ x'=>decide (op=op')&&ck num x x'
 | .conv k x,.convert src dst x'=>ck num x x'&&(P.underlying src).isSome&&(match P.underlying dst with | some (.int k')=>decide (k'=k) | _=>false)
 | .cut none sh x lo hi mx,.slice t x' lo' hi' mx'=>ck num x x'&&p9 num lo lo'&&p9 num hi hi'&&p9 num mx mx'&&(!mx.isSome||hi.isSome)&&decide (0<sh.size)&&(match P.underlying t with
  | some (.slice e)=>nj P e sh
  | _=>false)
 | .cut (some n) sh x lo hi mx,.slice t x' lo' hi' mx'=>ck num x x'&&p9 num lo lo'&&p9 num hi hi'&&p9 num mx mx'&&(!mx.isSome||hi.isSome)&&decide (0<sh.size)&&(match P.underlying t with
  | some (.array n' e)=>n' == n&&nj P e sh
  | _=>false)
 | .fldA ss x j,.fieldAddr t x' j'=>ck num x x'&&j == j'&&(match ss[j]? with | some s=>decide (0<s.size) | none=>false)&&(match P.underlying t with
  | some (.struct fs)=>il P 0 fs.toList ss
  | _=>false)
 | .fld ss x j,.field t x' j'=>ck num x x'&&j == j'&&(match P.underlying t with
  | some (.struct fs)=>il P 0 fs.toList ss
  | _=>false)
 | .idxA none sh x j,.indexAddr t x' j'=>ck num x x'&&ck num j j'&&(match P.underlying t with
  | some (.slice e)=>nj P e sh
  | _=>false)
 | .idxA (some n) sh x j,.indexAddr t x' j'=>ck num x x'&&ck num j j'&&(match P.underlying t with
  | some (.array n' e)=>n' == n&&nj P e sh
  | _=>false)
 | .idx none _ x j,.index t x' j'=>ck num x x'&&ck num j j'&&(match P.underlying t with
  | some .string=>true
  | _=>false)
 | .idx (some n) sh x j,.index t x' j'=>ck num x x'&&ck num j j'&&(match P.underlying t with
  | some (.array n' e)=>n' == n&&nj P e sh
  | _=>false)
 | .ext x j,.extract x' j'=>ck num x x'&&j == j'
 | .mkFn f xs ys,.makeFunc (.func g) xs' ys'=>g == num f&&vz num xs xs'.toList&&vz num ys ys'.toList
 | .len str x,.call ⟨.builtin .len,⟨[x']⟩,⟨[t]⟩⟩=>ck num x x'&&(match P.underlying t,str with
  | some (.slice _),false=>true
  | some .string,true=>true
  | _,_=>false)
 | .maxI x y,.call ⟨.builtin .max,⟨[x',y']⟩,_⟩=>ck num x x'&&ck num y y'
 | .minI x y,.call ⟨.builtin .min,⟨[x',y']⟩,_⟩=>ck num x x'&&ck num y y'
 | .append sh _ bytes x y,.call ⟨.builtin .append,⟨[x',y']⟩,⟨[t,tx]⟩⟩=>ck num x x'&&ck num y y'&&decide (0<sh.size)&&decide (0<bytes) &&
  (match P.underlying tx with | some (.slice _)=>true | _=>false)&&(match P.underlying t with
  | some (.slice e)=>(match P.info? e with
   | some inf=>inf.size == sh.size&&inf.bytes == bytes&&(match inf.zero with | some z=>z.cells.size == sh.size | none=>false)
   | none=>false)
  | _=>false)
 | .call _ news f xs,.call ⟨.value f',xs',_⟩=>ck num f f'&&vz num xs xs'.toList&&decide news.Nodup
 | .nilq neg x,.binOp op t x' y' _=>decide (op=if neg then .neq else .eql)&&ck num x x'&&pn y'&&(match P.underlying t with | some (.slice _)=>true | _=>false)
 | .toStr x,.convert src dst x'=>ck num x x'&&(match P.underlying src with | some (.slice e)=>(match P.underlying e with | some (.int .u8)=>true | _=>false) | _=>false)&&(match P.underlying dst with | some .string=>true | _=>false)
 | .clear sh z x,.call ⟨.builtin .clear,⟨[x']⟩,⟨[t]⟩⟩=>ck num x x'&&(match P.underlying t with
  | some (.slice e)=>o6 P e z&&Sh.beq z.sh sh&&decide (0<sh.size)
  | _=>false)
 | .mkMap _,.makeMap _ none=>true
 | .copy sh x y,.call ⟨.builtin .copy,⟨[x',y']⟩,⟨[t,tx]⟩⟩=>ck num x x'&&ck num y y'&&decide (0<sh.size)&&(match P.underlying tx with | some (.slice _)=>true | _=>false)&&(match P.underlying t with
  | some (.slice e)=>(match P.info? e with | some inf=>inf.size == sh.size | none=>false)
  | _=>false)
 | .mapGet str x y,.lookup t x' y' false=>ck num x x'&&ck num y y'&&Jq P str t
 | .mapOk str x y,.lookup t x' y' true=>ck num x x'&&ck num y y'&&Jq P str t
 | .mapSet str x y z,.mapUpdate t x' y' z'=>ck num x x'&&ck num y y'&&ck num z z'&&o.dst.isNone&&Jq P str t
 | .tbOne _ x,.buildSlice t n ⟨[(0,y)]⟩=>n == 1&&ck num x y&&(match P.underlying t with
  | some (.slice e)=>nj P e .leaf&&o6 P e (.nils .leaf)
  | _=>false)
 | .tbApp bytes x y,.call ⟨.builtin .append,⟨[x',y']⟩,⟨[t,tx]⟩⟩=>ck num x x'&&ck num y y'&&decide (0<bytes) &&
  (match P.underlying tx with | some (.slice _)=>true | _=>false)&&(match P.underlying t with
  | some (.slice e)=>(match P.info? e with
   | some inf=>inf.size == 1&&inf.bytes == bytes&&(match inf.zero with | some z=>z.cells.size == 1 | none=>false)
   | none=>false)
  | _=>false)
 | .tbA x j,.indexAddr t x' j'=>ck num x x'&&ck num j j'&&(match P.underlying t with
  | some (.slice e)=>nj P e .leaf
  | _=>false)
 | .tbLoad x,.load t y=>ck num x y&&nj P t .leaf
 | .tbStore x y,.store t x' y'=>ck num x x'&&ck num y y'&&nj P t .leaf&&o.dst.isNone
 | .fail,_=>true
 | _,_=>false
theorem Hb {h:Heap} {v:V} {d:D} (e:B7 h v=some d):toD h v=some d∧d.isTup=false:=by
 unfold B7 at e;obtain ⟨x,hx,e⟩:=aa.1 e
 split at e
 ·cases e
 ·rename_i hn
  obtain rfl:=au e;exact ⟨hx,by simpa using hn⟩
theorem Dr {C:Cx} {φ:Loc} {h:Heap}:∀{vs ws:List V} {us zs:List Value},RXs C φ h vs us→RXs C φ h ws zs→RXs C φ h (vs++ws) (us++zs)
 | [],ws,us,zs,g,g'=>by simp only [RXs] at g; subst g; simpa using g'
 | v::vs,ws,us,zs,g,g'=>by
  simp only [RXs] at g;obtain ⟨u,r,rfl,h1,h2⟩:=g;simp only [cz,RXs];exact ⟨u,_,rfl,h1,Dr h2 g'⟩
section
variable {C:Cx} {φ:Loc} {s:St} {a:Act} {o:Oper} {K:Nat→Prop}
theorem T3 (hs:SR C φ s a.tmps) {x:Arg} {y:Operand} (ho:o.op=.nilCheck y) (hok:ck C.num x y=true) {v:V} (hv:s.e.arg x=some v) (hp:(∃d,v=.d (.ip d))∨∃i p,v=.ptr i p):OpGood P o a C φ s.h v s.h K:=by
 have h1:=c6 hs hok hv;refine cg hs (u:=a.eval y) ?_ h1;rcases hp with ⟨d,rfl⟩ | ⟨i,p,rfl⟩
 ·obtain ⟨b,off,us,e,_⟩:=Tg h1
  simp [execOp,ho,e]
 ·simp only [RX] at h1
  obtain ⟨B,b,off,q,_,_,_,e⟩:=h1;simp [execOp,ho,e]
theorem aa1 {f:Nat} {us:List Value} (hexec:(execOp a.eval o).run P C.w=(callFunc (C.num f) us.toArray).run P C.w) {v:V} {h':Heap} (he:To P (C.num f) us C φ s.h h' v):OpWp P o a C φ s.h v h' K:=by
 intro next Q hnext;obtain ⟨⟨fn,hf,hnm,hb⟩,hcall⟩:=he;unfold Oper.wp
 have:(callFunc (C.num f) us.toArray).run P C.w=.ok (.enter (C.num f) us.toArray) C.w:=by
  have hb':fn.body.isNone=false:=by cases hq:fn.body <;> simp_all
  simp [callFunc,hf,hnm];intro e; rw [e] at hb; simp at hb
 rw [hexec,this,Oper.upon_enter];refine Calls.mono hcall ?_
 rintro e w' ⟨u,C',φ',rfl,rfl,st,k,hx⟩
 exact hnext C' φ' u st (.inr hx) (k.mono (by simp))
theorem a3g {O:am} (hO:km P C.num O) (hs:SR C φ s a.tmps) {np:Nat} {m:Mode} {news:List Nat} {f:Arg} {xs:List Arg} {f':Operand} {xs':Array Operand} {ts:Array TypeId} (ho:o.op=.call ⟨.value f',xs',ts⟩) (hf:ck C.num f f'=true) (hx:vz C.num xs xs'.toList=true)
 (hnews:news.Nodup) {v:V} {h':Heap} (he:b6 O np s.e s.h (.call m news f xs)=some (v,h')):OpWp P o a C φ s.h v h' K:=by
 simp only [b6] at he;obtain ⟨fv,hfv,he⟩:=aa.1 he;obtain ⟨⟨g,first,caps⟩,hg,he⟩:=aa.1 he;obtain ⟨vs,hvs,he⟩:=aa.1 he;simp only at he;have hargs:=zw hs hx hvs;have hfun:=c6 hs hf hfv
 have key:∃fs cs:Array Value,a.eval f'=.func (.func (C.num g)) fs cs∧RXs C φ s.h first fs.toList∧RXs C φ s.h caps cs.toList:=by
  unfold callee at hg
  split at hg
  ·rename_i g0 a0 c0
   simp only [ab,al] at hg;obtain ⟨rfl,rfl,rfl⟩:=hg;simp only [RX,RV,RD] at hfun;obtain ⟨h0,us,ws,e,h1,h2⟩:=hfun;refine ⟨us,ws,?_,wm h1,wm h2⟩;cases hq:a.eval f' <;> simp_all [Value.cells,isAgg,D.isAgg]
  ·rename_i g0 a0 c0
   simp only [ab,al] at hg;obtain ⟨rfl,rfl,rfl⟩:=hg;simp only [RX] at hfun;exact hfun
  ·cases hg
 obtain ⟨fs,cs,e,h1,h2⟩:=key;have hall:=Dr (Dr h1 hargs) h2
 have hexec:(execOp a.eval o).run P C.w=(callFunc (C.num g) (fs.toList++xs'.toList.map a.eval++cs.toList).toArray).run P C.w:=by
  have earr:(fs.toList++xs'.toList.map a.eval++cs.toList).toArray=fs++xs'.map a.eval++cs:=by
   apply Array.ext'; simp
  rw [earr];simp [execOp,ho,resolve,e,Deferred.ofValue,invoke]
 refine aa1 hexec ?_;cases m with
 | heap=>
  simp only at he;exact M1 hO hs.hr hs.bd hnews hall he
 | flat | data | plain=>
  simp only at he;exact Jl hO hs.hr hs.bd hall he
theorem a53 {O:am} (hO:km P C.num O) (hs:SR C φ s a.tmps) {np:Nat} {p:Op} (hok:a39 P C.num p o=true) {v:V} {h':Heap} (he:b6 O np s.e s.h p=some (v,h')) :
 OpWp P o a C φ s.h v h' (fun i=>p.kill s.e v=some i):=by
 unfold a39 at hok
 split at hok
 case h_1 x y ho=>
  simp only [b6] at he;obtain ⟨u,hu,e⟩:=ae.1 he;simp only [al] at e;obtain ⟨rfl,rfl⟩:=e;exact (a1h hs (.inl ho) hok hu).wp
 case h_2 x y ho=>
  simp only [b6] at he;obtain ⟨u,hu,e⟩:=ae.1 he;simp only [al] at e;obtain ⟨rfl,rfl⟩:=e;exact (a1h hs (.inr ho) hok hu).wp
 case h_3 x y ho=>
  simp only [b6] at he
  split at he <;> simp only [ab,al,reduceCtorEq] at he <;> obtain ⟨rfl,rfl⟩:=he
  ·rename_i d hx
   exact (T3 hs ho hok hx (.inl ⟨d,rfl⟩)).wp
  ·rename_i i p hx
   exact (T3 hs ho hok hx (.inr ⟨i,p,rfl⟩)).wp
 case h_4 c x y c' x' y' ho=>
  simp only [av] at hok;simp only [b6] at he
  split at he
  ·rename_i t ht
   obtain ⟨u,hu,e⟩:=ae.1 he;simp only [al] at e;obtain ⟨rfl,rfl⟩:=e;exact (a23 hs ho hok.1.1 hok.1.2 hok.2 ht hu).wp
  ·cases he
 case h_5 i sh y ho=>
  simp only [b6] at he;obtain ⟨h1,hp,e⟩:=ae.1 he;simp only [al] at e;obtain ⟨rfl,rfl⟩:=e;obtain ⟨hi,rfl⟩:=dk hp;refine (Ht hs (.inl ho) ?_ hi).wp;unfold pn at hok
  split at hok
  ·rfl
  ·cases hok
 case h_6 i sh y ho=>
  simp only [b6] at he;obtain ⟨h1,hp,e⟩:=ae.1 he;simp only [al] at e;obtain ⟨rfl,rfl⟩:=e;obtain ⟨hi,rfl⟩:=dk hp;refine (Ht hs (.inr ho) ?_ hi).wp;unfold pn at hok
  split at hok
  ·rfl
  ·cases hok
 case h_7 fz i x t y ho=>
  simp only [b6] at he;obtain ⟨u,hu,he⟩:=aa.1 he;obtain ⟨d,hd,he⟩:=aa.1 he;obtain ⟨h1,hf,he⟩:=aa.1 he;obtain ⟨h2,hp,e⟩:=ae.1 he;simp only [al] at e;obtain ⟨rfl,rfl⟩:=e;obtain ⟨hi,rfl⟩:=dk hp;obtain ⟨hd,hnt⟩:=Hb hd;exact (a7g hs ho hok hu hd hnt hf hi).wp
 case h_8 fz i z t ho=>
  simp only [b6,Env.arg,ah] at he;obtain ⟨d,hd,he⟩:=aa.1 he;obtain ⟨h1,hf,he⟩:=aa.1 he;obtain ⟨h2,hp,e⟩:=ae.1 he;simp only [al] at e;obtain ⟨rfl,rfl⟩:=e;obtain ⟨hi,rfl⟩:=dk hp;obtain ⟨hd,hnt⟩:=Hb hd;simp only [toD,ab] at hd;subst hd;exact (Wd hs ho hok hf hi).wp
 case h_9 fz z ps t qs ho=>
  simp only [av] at hok;simp only [b6] at he;obtain ⟨xs,hx,he⟩:=aa.1 he;obtain ⟨h1,hf,he⟩:=aa.1 he;obtain ⟨⟨hp,hz⟩,hk⟩:=hok
  split at he
  ·rename_i n sh cs
   obtain ⟨cs',hfill,e⟩:=ae.1 he;simp only [al] at e;obtain ⟨rfl,rfl⟩:=e
   split at hk
   ·rename_i n0 sh0 cs0 n' e' hu hz'
    simp only [D.arr.injEq] at hu;obtain ⟨rfl,rfl,rfl⟩:=hu;simp only [av,beq_iff_eq] at hk;obtain ⟨rfl,hk⟩:=hk;exact (Lr hs ho hp hz hx hf (.inl ⟨_,_,_,_,_,rfl,hfill,rfl,hz',hk⟩)).wp
   ·rename_i hu _; cases hu
   ·cases hk
  ·rename_i ss cs
   obtain ⟨cs',hfill,e⟩:=ae.1 he;simp only [al] at e;obtain ⟨rfl,rfl⟩:=e
   split at hk
   ·rename_i hu _; cases hu
   ·rename_i ss0 cs0 fs hu hz'
    simp only [D.st.injEq] at hu;obtain ⟨rfl,rfl⟩:=hu;exact (Lr hs ho hp hz hx hf (.inr ⟨_,_,_,_,rfl,hfill,rfl,hz',hk⟩)).wp
   ·cases hk
  ·cases he
 case h_10 fz i sh z n ps t n' qs ho=>
  simp only [av,beq_iff_eq] at hok;obtain ⟨⟨rfl,hp⟩,hk⟩:=hok;simp only [b6] at he;obtain ⟨xs,hx,he⟩:=aa.1 he;obtain ⟨cs,hfill,he⟩:=aa.1 he;obtain ⟨h1,hf,he⟩:=aa.1 he;obtain ⟨h2,hpb,e⟩:=ae.1 he;simp only [al] at e;obtain ⟨rfl,rfl⟩:=e;obtain ⟨hi,rfl⟩:=dk hpb
  split at hk
  ·rename_i e ht
   simp only [av,decide_eq_true_eq] at hk;obtain ⟨⟨⟨⟨k1,k2⟩,k3⟩,k4⟩,k5⟩:=hk;exact (S3 hs ho ht k1 hp k2 (Sh.beq_eq _ _ k3) k4 k5 hx hf hfill hi).wp
  ·cases hk
 case h_11 i sh z bytes x y t x' y' ho=>
  simp only [av] at hok;obtain ⟨⟨hx,hy⟩,hk⟩:=hok;simp only [b6] at he
  split at he
  ·rename_i n m hn hm
   split at he
   ·rename_i hc
    obtain ⟨h2,hpb,e⟩:=ae.1 he;simp only [al] at e;obtain ⟨rfl,rfl⟩:=e;obtain ⟨hi,rfl⟩:=dk hpb
    split at hk
    ·rename_i e ht
     simp only [av,decide_eq_true_eq] at hk;obtain ⟨⟨⟨⟨⟨k1,k2⟩,k3⟩,k4⟩,k5⟩,k6⟩:=hk
     split at k6
     ·rename_i inf hinf
      have hb:inf.bytes=bytes:=by simpa using k6
      have hm63:m≤9223372036854775807:=by
       have h1:m*1≤m*bytes:=o4 m k5;have:=hc.2;omega
      exact (a2r hs ho ht k1 ⟨inf,hinf,hb⟩ hx hy k2 (Sh.beq_eq _ _ k3) k4 hn hm hc.1 hc.2 hm63 hi).wp
     ·cases k6
    ·cases hk
   ·cases he
  ·cases he
 case h_12 sh x t y ho=>
  simp only [av] at hok;simp only [b6] at he
  split at he
  ·rename_i d hd
   split at he
   ·rename_i hsh
    simp only [ab,al] at he;obtain ⟨rfl,rfl⟩:=he;exact (Oi hs ho hok.1 hok.2 (.inl ⟨hd,Sh.beq_eq _ _ hsh⟩)).wp
   ·cases he
  ·rename_i i p hp
   obtain ⟨d,hd,he⟩:=aa.1 he;obtain ⟨B,hB,hg⟩:=aa.1 hd
   split at he
   ·rename_i hsh
    simp only [ab,al] at he;obtain ⟨rfl,rfl⟩:=he;exact (Oi hs ho hok.1 hok.2 (.inr ⟨i,p,B,hp,hB,hg,Sh.beq_eq _ _ hsh⟩)).wp
   ·cases he
  ·cases he
 case h_13 fz sh x y t x' y' ho=>
  simp only [av,decide_eq_true_eq] at hok;obtain ⟨⟨⟨⟨hx,hy⟩,ht⟩,hpos⟩,hdst⟩:=hok;simp only [b6] at he;obtain ⟨u,hu,he⟩:=aa.1 he;obtain ⟨d,hd,he⟩:=aa.1 he;obtain ⟨h1,hf,he⟩:=aa.1 he;obtain ⟨hd,hnt⟩:=Hb hd
  split at he
  ·rename_i i p hp
   split at he
   ·rename_i hsh
    obtain ⟨B,hB,he⟩:=aa.1 he;obtain ⟨B',hset,e⟩:=ae.1 he;simp only [al] at e;obtain ⟨rfl,rfl⟩:=e;exact (Xc hs ho (by simpa using hdst) hx hy ht hpos hu hd hnt (Sh.beq_eq _ _ hsh) hf hp hB hset).wp
   ·cases he
  ·cases he
 case h_14 op x y op' t x' y' yt ho=>
  simp only [av,decide_eq_true_eq] at hok;obtain ⟨⟨rfl,hx⟩,hy⟩:=hok;simp only [b6] at he
  split at he
  ·rename_i d1 d2 hd1 hd2
   obtain ⟨r,hr,e⟩:=ae.1 he;simp only [al] at e;obtain ⟨rfl,rfl⟩:=e;have g1:=c6 hs hx hd1;have g2:=c6 hs hy hd2;unfold ut at hr
   split at hr
   ·exact (L7 hs ho (mu g1) (mu g2) hr (.inl rfl)).wp
   ·exact (L7 hs ho (mu g1) (mu g2) hr (.inr rfl)).wp
   ·rename_i n1 n2
    split at hr
    ·rename_i hk
     subst hk;exact (a2b hs ho (mu g1) (mu g2) hr ⟨n1,n2⟩).wp
    ·cases hr
   ·exact (a3j hs ho (Qv g1) (Qv g2) hr).wp
   ·cases hr
  ·cases he
 case h_15 neg q x y op t x' y' yt ho=>
  simp only [av,decide_eq_true_eq,kh] at hok;obtain ⟨⟨⟨⟨⟨⟨rfl,hx⟩,hy⟩,hq⟩,hns⟩,hd⟩,hg⟩:=hok;simp only [b6] at he
  split at he
  ·rename_i d1 d2 hd1 hd2
   obtain ⟨r,hr,e⟩:=ae.1 he;simp only [al] at e;obtain ⟨rfl,rfl⟩:=e;exact (a8q hs ho hx hy hq (by rintro rfl; simp at hns) hd hg hd1 hd2 hr).wp
  ·cases he
 case h_16 op x op' t x' ho=>
  simp only [av,decide_eq_true_eq] at hok;obtain ⟨rfl,hx⟩:=hok;simp only [b6] at he
  split at he
  ·rename_i d hd
   obtain ⟨r,hr,e⟩:=ae.1 he;simp only [al] at e;obtain ⟨rfl,rfl⟩:=e;exact (ac0 hs ho hx hd hr).wp
  ·cases he
 case h_17 k x src dst x' ho=>
  simp only [av] at hok;obtain ⟨⟨hx,hsrc⟩,hk⟩:=hok;simp only [b6] at he
  split at he
  ·rename_i q n hn
   simp only [ab,al] at he;obtain ⟨rfl,rfl⟩:=he
   split at hk
   ·rename_i k' hk'
    have:k'=k:=by simpa using hk
    subst this;exact (a3t hs ho hx hsrc hk' hn).wp
   ·cases hk
  ·cases he
 case h_18 sh x lo hi mx t x' lo' hi' mx' ho=>
  simp only [av,decide_eq_true_eq] at hok;obtain ⟨⟨⟨⟨⟨⟨hx,h1⟩,h2⟩,h3⟩,hmh⟩,hpos⟩,hk⟩:=hok
  have hmh':mx.isSome=true→hi.isSome=true:=by
   intro h; simpa [h] using hmh
  split at hk
  ·rename_i e ht
   simp only [b6] at he
   split at he
   ·rename_i sh' cs hcs
    obtain ⟨m,hm,he⟩:=aa.1 he;obtain ⟨b,hb,he⟩:=aa.1 he;obtain ⟨l,hl,he⟩:=aa.1 he
    split at he
    ·rename_i hc
     simp only [ab,al] at he;obtain ⟨rfl,rfl⟩:=he;obtain rfl:=Sh.beq_eq _ _ hc.1;exact (Er hs ho hx h1 h2 h3 hmh' hk hpos hm hb hl hc.2.1 hc.2.2.1 hc.2.2.2 (.inl ⟨ht,.inl ⟨cs,hcs,rfl,rfl⟩⟩)).wp
    ·cases he
   ·rename_i i p off n cap hcs
    obtain ⟨⟨sh',cs⟩,hq,he⟩:=aa.1 he;obtain ⟨B,hB,hE⟩:=aa.1 hq;obtain ⟨m,hm,he⟩:=aa.1 he;obtain ⟨b,hb,he⟩:=aa.1 he;obtain ⟨l,hl,he⟩:=aa.1 he
    split at he
    ·rename_i hc
     simp only [ab,al] at he;obtain ⟨rfl,rfl⟩:=he;obtain rfl:=Sh.beq_eq _ _ hc.1;exact (Er hs ho hx h1 h2 h3 hmh' hk hpos hm hb hl hc.2.1 hc.2.2.1 hc.2.2.2 (.inl ⟨ht,.inr ⟨i,p,off,cap,B,cs,hcs,hB,hE,by cases mx <;> rfl⟩⟩)).wp
    ·cases he
   ·cases he
  ·cases hk
 case h_19 n sh x lo hi mx t x' lo' hi' mx' ho=>
  simp only [av,decide_eq_true_eq] at hok;obtain ⟨⟨⟨⟨⟨⟨hx,h1⟩,h2⟩,h3⟩,hmh⟩,hpos⟩,hk⟩:=hok
  have hmh':mx.isSome=true→hi.isSome=true:=by
   intro h; simpa [h] using hmh
  split at hk
  ·rename_i n' e ht
   simp only [av,beq_iff_eq] at hk;obtain ⟨rfl,hk⟩:=hk;simp only [b6] at he
   split at he
   ·rename_i i p hp
    obtain ⟨y,hy,he⟩:=aa.1 he;obtain ⟨B,hB,hE⟩:=aa.1 hy
    split at he
    ·rename_i n2 sh' cs
     obtain ⟨m,hm,he⟩:=aa.1 he;obtain ⟨b,hb,he⟩:=aa.1 he;obtain ⟨l,hl,he⟩:=aa.1 he
     split at he
     ·rename_i hc
      simp only [ab,al] at he;obtain ⟨rfl,rfl⟩:=he;obtain ⟨rfl,hc1,hc2⟩:=hc;obtain rfl:=Sh.beq_eq _ _ hc1;exact (Er hs ho hx h1 h2 h3 hmh' hk hpos hm hb hl hc2.1 hc2.2.1 hc2.2.2 (.inr ⟨ht,.inl ⟨i,p,B,cs,hp,hB,hE,rfl⟩⟩)).wp
     ·cases he
    ·cases he
   ·rename_i n2 sh' cs hcs
    obtain ⟨m,hm,he⟩:=aa.1 he;obtain ⟨b,hb,he⟩:=aa.1 he;obtain ⟨l,hl,he⟩:=aa.1 he
    split at he
    ·rename_i hc
     simp only [ab,al] at he;obtain ⟨rfl,rfl⟩:=he;obtain ⟨rfl,hc1,hc2⟩:=hc;obtain rfl:=Sh.beq_eq _ _ hc1;exact (Er hs ho hx h1 h2 h3 hmh' hk hpos hm hb hl hc2.1 hc2.2.1 hc2.2.2 (.inr ⟨ht,.inr ⟨cs,hcs,rfl⟩⟩)).wp
    ·cases he
   ·cases he
  ·cases hk
 case h_20 ss x j t x' j' ho=>
  simp only [av,beq_iff_eq] at hok;obtain ⟨⟨⟨hx,rfl⟩,hj⟩,hk⟩:=hok
  have hj':∃sh,ss[j]? = some sh∧0<sh.size:=by
   split at hj
   ·rename_i sh hsh; exact ⟨sh,hsh,by simpa using hj⟩
   ·cases hj
  split at hk
  ·rename_i fs ht
   simp only [b6] at he
   split at he
   ·rename_i i p hp
    obtain ⟨y,hy,he⟩:=aa.1 he;obtain ⟨B,hB,hE⟩:=aa.1 hy
    split at he
    ·rename_i hc
     simp only [ab,al] at he;obtain ⟨rfl,rfl⟩:=he;exact (Nv hs ho hx ht hk hj' (.inl ⟨i,p,B,y,hp,hB,hE,Sh.beq_eq _ _ hc,rfl⟩)).wp
    ·cases he
   ·rename_i ts cs hcs
    split at he
    ·rename_i hc
     obtain ⟨c,hc1,e⟩:=ae.1 he;simp only [al] at e;obtain ⟨rfl,rfl⟩:=e;obtain rfl:=Sh.beqs_eq _ _ hc;exact (Nv hs ho hx ht hk hj' (.inr ⟨cs,c,hcs,hc1,rfl⟩)).wp
    ·cases he
   ·cases he
  ·cases hk
 case h_21 ss x j t x' j' ho=>
  simp only [av,beq_iff_eq] at hok;obtain ⟨⟨hx,rfl⟩,hk⟩:=hok
  split at hk
  ·rename_i fs ht
   simp only [b6] at he
   split at he
   ·rename_i ts cs hcs
    split at he
    ·rename_i hc
     obtain ⟨c,hc1,e⟩:=ae.1 he;simp only [al] at e;obtain ⟨rfl,rfl⟩:=e;obtain rfl:=Sh.beqs_eq _ _ hc;exact (a6h hs ho hx ht hk hcs hc1).wp
    ·cases he
   ·cases he
  ·cases hk
 case h_22 sh x j t x' j' ho=>
  simp only [av] at hok;obtain ⟨⟨hx,hj⟩,hk⟩:=hok
  split at hk
  ·rename_i e ht
   simp only [b6] at he
   split at he
   ·rename_i i p off n cap k hp hkk
    obtain ⟨⟨sh',q⟩,hq,he⟩:=aa.1 he;obtain ⟨B,hB,hE⟩:=aa.1 hq
    split at he
    ·rename_i hc
     simp only [ab,al] at he;obtain ⟨rfl,rfl⟩:=he;obtain rfl:=Sh.beq_eq _ _ hc.1;exact (B9 hs ho hx hj hk hkk (.inl ⟨ht,.inl ⟨i,p,off,n,cap,q,B,hp,hB,hE,hc.2,rfl⟩⟩)).wp
    ·cases he
   ·rename_i sh' cs k hcs hkk
    split at he
    ·rename_i hc
     obtain ⟨c,hc1,e⟩:=ae.1 he;simp only [al] at e;obtain ⟨rfl,rfl⟩:=e;obtain rfl:=Sh.beq_eq _ _ hc;exact (B9 hs ho hx hj hk hkk (.inl ⟨ht,.inr ⟨cs,c,hcs,hc1,rfl⟩⟩)).wp
    ·cases he
   ·cases he
  ·cases hk
 case h_23 n sh x j t x' j' ho=>
  simp only [av] at hok;obtain ⟨⟨hx,hj⟩,hk⟩:=hok
  split at hk
  ·rename_i n' e ht
   simp only [av,beq_iff_eq] at hk;obtain ⟨rfl,hk⟩:=hk;simp only [b6] at he
   split at he
   ·rename_i i p k hp hkk
    obtain ⟨y,hy,he⟩:=aa.1 he;obtain ⟨B,hB,hE⟩:=aa.1 hy
    split at he
    ·rename_i n2 sh' cs
     split at he
     ·rename_i hc
      simp only [ab,al] at he;obtain ⟨rfl,rfl⟩:=he;obtain ⟨rfl,hc1,hc2⟩:=hc;obtain rfl:=Sh.beq_eq _ _ hc1;exact (B9 hs ho hx hj hk hkk (.inr ⟨_,ht,.inl ⟨i,p,B,cs,hp,hB,hE,hc2,rfl⟩⟩)).wp
     ·cases he
    ·cases he
   ·rename_i n2 sh' cs k hcs hkk
    split at he
    ·rename_i hc
     obtain ⟨c,hc1,e⟩:=ae.1 he;simp only [al] at e;obtain ⟨rfl,rfl⟩:=e;obtain ⟨rfl,hc2⟩:=hc;obtain rfl:=Sh.beq_eq _ _ hc2;exact (B9 hs ho hx hj hk hkk (.inr ⟨_,ht,.inr ⟨cs,c,hcs,hc1,rfl⟩⟩)).wp
    ·cases he
   ·cases he
  ·cases hk
 case h_24 sh x j t x' j' ho=>
  simp only [av] at hok;obtain ⟨⟨hx,hj⟩,hk⟩:=hok
  split at hk
  ·rename_i ht
   simp only [b6] at he
   split at he
   ·rename_i b k hb hkk
    obtain ⟨c,hc1,e⟩:=ae.1 he;simp only [al] at e;obtain ⟨rfl,rfl⟩:=e;exact (a3z hs ho hx hj ht hb hkk hc1).wp
   ·cases he
  ·cases hk
 case h_25 n sh x j t x' j' ho=>
  simp only [av] at hok;obtain ⟨⟨hx,hj⟩,hk⟩:=hok
  split at hk
  ·rename_i n' e ht
   simp only [av,beq_iff_eq] at hk;obtain ⟨rfl,hk⟩:=hk;simp only [b6] at he
   split at he
   ·rename_i n2 sh' cs k hcs hkk
    split at he
    ·rename_i hc
     obtain ⟨c,hc1,e⟩:=ae.1 he;simp only [al] at e;obtain ⟨rfl,rfl⟩:=e;obtain ⟨hn,hc2⟩:=hc;obtain rfl:=Sh.beq_eq _ _ hc2;exact (a5b hs ho hx hj ht hk hcs hn hkk hc1).wp
    ·cases he
   ·cases he
  ·cases hk
 case h_26 x j x' j' ho=>
  simp only [av,beq_iff_eq] at hok;obtain ⟨hx,rfl⟩:=hok;simp only [b6] at he
  split at he
  ·rename_i ds hds
   obtain ⟨c,hc1,e⟩:=ae.1 he;simp only [al] at e;obtain ⟨rfl,rfl⟩:=e;exact (Ur hs ho hx (.inl ⟨ds,c,hds,hc1,rfl⟩)).wp
  ·rename_i vs hvs
   obtain ⟨c,hc1,e⟩:=ae.1 he;simp only [al] at e;obtain ⟨rfl,rfl⟩:=e;exact (Ur hs ho hx (.inr ⟨vs,hvs,hc1⟩)).wp
  ·cases he
 case h_27 f xs ys g xs' ys' ho=>
  simp only [av,beq_iff_eq] at hok;obtain ⟨⟨rfl,hx⟩,hy⟩:=hok;simp only [b6] at he;obtain ⟨us,hus,he⟩:=aa.1 he;obtain ⟨vs,hvs,e⟩:=ae.1 he;simp only [al] at e;obtain ⟨rfl,rfl⟩:=e;exact (a2g hs ho hx hy hus hvs).wp
 case h_28 str x x' t ho=>
  simp only [av] at hok;obtain ⟨hx,hk⟩:=hok
  split at hk
  ·rename_i e ht
   simp only [b6] at he
   split at he
   ·rename_i sh cs hcs
    simp only [ab,al] at he;obtain ⟨rfl,rfl⟩:=he;exact (Ji hs ho hx (.inl ⟨⟨e,ht⟩,.inl ⟨sh,cs,hcs,rfl⟩⟩)).wp
   ·rename_i i p off n cap hcs
    simp only [ab,al] at he;obtain ⟨rfl,rfl⟩:=he;exact (Ji hs ho hx (.inl ⟨⟨e,ht⟩,.inr ⟨i,p,off,cap,hcs⟩⟩)).wp
   ·cases he
  ·rename_i ht
   simp only [b6] at he
   split at he
   ·rename_i b hb
    simp only [ab,al] at he;obtain ⟨rfl,rfl⟩:=he;exact (Ji hs ho hx (.inr ⟨ht,b,hb,rfl⟩)).wp
   ·cases he
  ·cases hk
 case h_29 x y x' y' ts ho=>
  simp only [av] at hok;simp only [b6] at he
  split at he
  ·rename_i k m k' n hm hn
   split at he
   ·rename_i hk
    subst hk;simp only [ab,al] at he;obtain ⟨rfl,rfl⟩:=he;exact (a78 hs ho hok.1 hok.2 hm hn).wp
   ·cases he
  ·cases he
 case h_30 x y x' y' ts ho=>
  simp only [av] at hok;simp only [b6] at he
  split at he
  ·rename_i k m k' n hm hn
   split at he
   ·rename_i hk
    subst hk;simp only [ab,al] at he;obtain ⟨rfl,rfl⟩:=he;exact (a6r hs ho hok.1 hok.2 hm hn).wp
   ·cases he
  ·cases he
 case h_31 sh i bytes x y x' y' t tx ho=>
  simp only [av,decide_eq_true_eq] at hok;obtain ⟨⟨⟨⟨⟨hx,hy⟩,hpos⟩,hby⟩,htx⟩,hk⟩:=hok
  have htx':∃e',P.underlying tx=some (.slice e'):=by
   split at htx
   ·rename_i e' h; exact ⟨e',h⟩
   ·cases htx
  simp only [b6] at he;obtain ⟨w,hw,he⟩:=aa.1 he;obtain ⟨d,hd,he⟩:=aa.1 he
  split at he
  ·rename_i sh1 ys j off n cap hxe
   split at he
   ·rename_i fr sh2 cs hB
    split at he
    ·rename_i hc
     obtain ⟨c1,c2,c3,c4⟩:=hc;obtain rfl:=Sh.beq_eq _ _ c1;obtain rfl:=Sh.beq_eq _ _ c2
     split at hk
     ·rename_i e ht
      split at hk
      ·rename_i inf hinf
       simp only [av,beq_iff_eq] at hk;obtain ⟨⟨hs1,hs2⟩,hk⟩:=hk
       split at hk
       ·rename_i z hz
        have hzs:z.cells.size=sh2.size:=by simpa using hk
        have hlen:n+ys.length≤1099511627776:=by
         have h1:(n+ys.length)*1≤(n+ys.length)*bytes:=o4 _ hby
         omega
        obtain ⟨ad,c,e1,_,e3⟩:=Bt hs.hr hd (c6 hs hy hw);have app:AppIn P C φ s a sh2 t tx x' y' j off n cap fr cs ys:=⟨⟨e,inf,z,bytes,ht,hinf,hz,hs1,hs2,hzs,c4⟩,htx',hpos,hlen,c6 hs hx hxe,hB,c3,ad,c,e1,e3⟩
        split at he
        ·rename_i hfr
         simp only [ab,al] at he;obtain ⟨rfl,rfl⟩:=he;obtain ⟨rfl,_⟩:=hfr;refine (A1 hs ho app).wp.mono ?_
         rintro i' rfl
         simp [Op.kill,hxe]
        ·split at he
         ·rename_i hcap
          obtain ⟨h2,hpb,e⟩:=ae.1 he;simp only [al] at e;obtain ⟨rfl,rfl⟩:=e;obtain ⟨hi,rfl⟩:=dk hpb;obtain ⟨rfl,hys⟩:=hcap;exact (Ij hs ho app hys hi).wp
         ·cases he
       ·cases hk
      ·cases hk
     ·cases hk
    ·cases he
   ·cases he
  ·rename_i sh1 y1 ys sh2 hxe
   split at he
   ·rename_i hc
    obtain ⟨c1,c2,c3⟩:=hc;obtain rfl:=Sh.beq_eq _ _ c1;obtain rfl:=Sh.beq_eq _ _ c2;obtain ⟨h2,hpb,e⟩:=ae.1 he;simp only [al] at e;obtain ⟨rfl,rfl⟩:=e;obtain ⟨hi,rfl⟩:=dk hpb
    split at hk
    ·rename_i e ht
     split at hk
     ·rename_i inf hinf
      simp only [av,beq_iff_eq] at hk;obtain ⟨⟨hs1,hs2⟩,hk⟩:=hk
      split at hk
      ·rename_i z hz
       have hzs:z.cells.size=sh2.size:=by simpa using hk
       have hlen:0+(y1::ys).length≤1099511627776:=by
        have h1:(ys.length+1)*1≤(ys.length+1)*bytes:=o4 _ hby
        simp only [bv]; omega
       obtain ⟨ad,c,e1,_,e3⟩:=Bt hs.hr hd (c6 hs hy hw)
       have hnil:a.eval x'=.slice none 0 0:=by
        have:=c6 hs hx hxe;simp only [RX,RV,RD] at this;cases hq:a.eval x' <;> simp_all [Value.cells,isAgg,D.isAgg]
       have:=Id hs ho hnil hi ⟨e,inf,z,bytes,ht,hinf,hz,hs1,hs2,hzs,by simpa using c3⟩ htx' hpos hlen ⟨ad,c,e1,e3⟩
       simp only [bv,b9] at this;exact this.wp.mono (by simp)
      ·cases hk
     ·cases hk
    ·cases hk
   ·cases he
  ·cases he
 case h_32 m news f xs f' xs' ts ho=>
  simp only [av,decide_eq_true_eq] at hok;exact a3g hO hs ho hok.1.1 hok.1.2 hok.2 he
 case h_33 neg x op t x' y' yt ho=>
  simp only [av,decide_eq_true_eq] at hok;obtain ⟨⟨⟨rfl,hx⟩,hy⟩,hk⟩:=hok
  have hy':a.eval y'=.slice none 0 0:=by
   unfold pn at hy
   split at hy
   ·rfl
   ·cases hy
  split at hk
  ·rename_i e ht
   simp only [b6] at he
   split at he
   ·rename_i sh c cs hcs
    simp only [ab,al] at he;obtain ⟨rfl,rfl⟩:=he;exact (Oo hs ho hx ht hy' (.inl ⟨sh,c,cs,hcs⟩)).wp
   ·rename_i i p off n cap hcs
    simp only [ab,al] at he;obtain ⟨rfl,rfl⟩:=he;exact (Oo hs ho hx ht hy' (.inr ⟨i,p,off,n,cap,hcs⟩)).wp
   ·cases he
  ·cases hk
 case h_34 x src dst x' ho=>
  simp only [av] at hok;obtain ⟨⟨hx,h1⟩,h2⟩:=hok;simp only [b6] at he;obtain ⟨w,hw,he⟩:=aa.1 he;obtain ⟨d,hd,he⟩:=aa.1 he
  split at he
  ·rename_i cs
   obtain ⟨bs,hb,e⟩:=ae.1 he;simp only [al] at e;obtain ⟨rfl,rfl⟩:=e
   split at h1
   ·rename_i et het
    split at h1
    ·rename_i hu8
     split at h2
     ·rename_i hds
      exact (Vz hs ho hx het hu8 hds hw hd hb).wp
     ·cases h2
    ·cases h1
   ·cases h1
  ·cases he
 case h_35 sh z x x' t ho=>
  simp only [av] at hok;obtain ⟨hx,h1⟩:=hok;simp only [b6] at he
  split at he
  ·rename_i j off n cap hxe
   split at he
   ·rename_i t' cs hj
    split at he
    ·rename_i hc
     simp only [ab,al] at he;obtain ⟨rfl,rfl⟩:=he
     split at h1
     ·rename_i e ht
      simp only [av,decide_eq_true_eq] at h1;obtain ⟨⟨h1,h2⟩,h3⟩:=h1;obtain rfl:=Sh.beq_eq _ _ hc.1;exact (Wm hs ho hx ht h1 (Sh.beq_eq _ _ h2) h3 hxe hj hc.2).wp
     ·cases h1
    ·cases he
   ·cases he
  ·cases he
 case h_36 i t ho=>
  simp only [b6] at he;obtain ⟨h1,hp,e⟩:=ae.1 he;simp only [al] at e;obtain ⟨rfl,rfl⟩:=e;obtain ⟨hi,rfl⟩:=dk hp;exact (X1 hs ho hi).wp
 case h_37 sh x y x' y' t tx ho=>
  simp only [av,decide_eq_true_eq] at hok;obtain ⟨⟨⟨⟨hx,hy⟩,hpos⟩,htx⟩,ht⟩:=hok
  split at htx
  ·rename_i ex htx'
   split at ht
   ·rename_i el ht'
    split at ht
    ·rename_i inf hinf
     have hisz:inf.size=sh.size:=by simpa using ht
     simp only [b6] at he;obtain ⟨w,hw,he1⟩:=aa.1 he;obtain ⟨d,hd,he2⟩:=aa.1 he1;clear he he1
     split at he2
     ·rename_i t1 ys j off n cap hxe
      split at he2
      ·rename_i t2 cs hj
       split at he2
       ·rename_i hc
        obtain ⟨h1,h2,h3⟩:=hc;obtain rfl:=Sh.beq_eq _ _ h1;obtain rfl:=Sh.beq_eq _ _ h2;simp only [ab,al] at he2;obtain ⟨rfl,rfl⟩:=he2;exact (a47 hs ho hx hy ht' htx' hinf hisz hpos hxe hw hd hj h3).wp
       ·cases he2
      ·cases he2
     ·cases he2
    ·cases ht
   ·cases ht
  ·cases htx
 case h_38 str x y t x' y' ho=>
  simp only [av] at hok;obtain ⟨⟨hx,hy⟩,hk⟩:=hok;obtain ⟨kt,et,ht,hks,hz⟩:=Di hk;simp only [b6] at he
  split at he
  ·rename_i j k hxe hye
   split at he
   ·rename_i fr es hj
    split at he
    ·rename_i hm
     simp only [ab,al] at he;obtain ⟨rfl,rfl⟩:=he;exact (Sa hs ho hx hy ht hks hz hxe hye hm hj).wp
    ·cases he
   ·cases he
  ·cases he
 case h_39 str x y t x' y' ho=>
  simp only [av] at hok;obtain ⟨⟨hx,hy⟩,hk⟩:=hok;obtain ⟨kt,et,ht,hks,hz⟩:=Di hk;simp only [b6] at he
  split at he
  ·rename_i j k hxe hye
   split at he
   ·rename_i fr es hj
    split at he
    ·rename_i hm
     simp only [ab,al] at he;obtain ⟨rfl,rfl⟩:=he;exact (Vn hs ho hx hy ht hks hz hxe hye hm hj).wp
    ·cases he
   ·cases he
  ·cases he
 case h_40 str x y z t x' y' z' ho=>
  simp only [av] at hok;obtain ⟨⟨⟨⟨hx,hy⟩,hz⟩,hdst⟩,hk⟩:=hok;obtain ⟨kt,et,ht,hks,-⟩:=Di hk;simp only [b6] at he
  split at he
  ·rename_i j k n hxe hye hze
   split at he
   ·rename_i es hj
    split at he
    ·rename_i hm
     simp only [ab,al] at he;obtain ⟨rfl,rfl⟩:=he;exact (Td hs ho (by simpa using hdst) hx hy hz ht hks hxe hye hze hm hj).wp
    ·cases he
   ·cases he
  ·cases he
 case h_41 i x t n y ho=>
  simp only [av,beq_iff_eq] at hok;obtain ⟨⟨rfl,hx⟩,hk⟩:=hok
  split at hk
  ·rename_i e ht
   simp only [av] at hk;simp only [b6] at he
   split at he
   ·rename_i j n cap hxe
    split at he
    ·rename_i sh cs hj
     split at he
     ·rename_i hc
      obtain ⟨h1,hp,e1⟩:=ae.1 he;simp only [al] at e1;obtain ⟨rfl,rfl⟩:=e1;obtain ⟨hi,rfl⟩:=dk hp;exact (Vw hs ho hx ht hk.1 hk.2 rfl hxe hj hc.1 hc.2.1 hi).wp
     ·cases he
    ·cases he
   ·cases he
  ·cases hk
 case h_42 bytes x y x' y' t tx ho=>
  simp only [av,decide_eq_true_eq] at hok;obtain ⟨⟨⟨⟨hx,hy⟩,hby⟩,htx⟩,hk⟩:=hok
  split at htx
  ·rename_i e' htx'
   split at hk
   ·rename_i e ht
    split at hk
    ·rename_i inf hinf
     simp only [av,beq_iff_eq] at hk;obtain ⟨⟨hs1,hs2⟩,hk⟩:=hk
     split at hk
     ·rename_i z hz
      simp only [beq_iff_eq] at hk;simp only [b6] at he
      split at he
      ·rename_i j p n cap k cap' hxe hye
       split at he
       ·rename_i B sh cs hj hkk
        obtain ⟨⟨idx,rows⟩,has,he⟩:=aa.1 he
        split at he
        ·rename_i hc
         simp only [ab,al] at he;obtain ⟨rfl,rfl⟩:=he;refine (X7 hs ho hx hy ht hinf hz hs1 hs2 hk htx' hxe hye hj hkk has hc.1 hc.2.1 hby hc.2.2.2.2).wp.mono ?_
         rintro i' rfl
         simp [Op.kill,hxe]
        ·cases he
       ·cases he
      ·cases he
     ·cases hk
    ·cases hk
   ·cases hk
  ·cases htx
 case h_43 x j t x' j' ho=>
  simp only [av] at hok;obtain ⟨⟨hx,hj⟩,hk⟩:=hok
  split at hk
  ·rename_i e ht
   simp only [b6] at he
   split at he
   ·rename_i i off n cap k hxe hke
    split at he
    ·rename_i fr sh idx rows hB
     split at he
     ·rename_i hc
      simp only [ab,al] at he;obtain ⟨rfl,rfl⟩:=he;exact (a79 hs ho hx hj ht hk hke hxe hB hc.1 hc.2).wp
     ·cases he
    ·cases he
   ·cases he
  ·cases hk
 case h_44 x t y ho=>
  simp only [av] at hok;simp only [b6] at he
  split at he
  ·rename_i i k hxe
   split at he
   ·rename_i fr sh idx rows hB
    obtain ⟨r,hr,he⟩:=aa.1 he;obtain ⟨xs,hxs,he⟩:=ae.1 he;simp only [al] at he;obtain ⟨rfl,rfl⟩:=he;exact (Uw hs ho hok.1 hok.2 hxe hB hr hxs).wp
   ·cases he
  ·cases he
 case h_45 x y t x' y' ho=>
  simp only [av] at hok;obtain ⟨⟨⟨hx,hy⟩,ht⟩,hdst⟩:=hok;simp only [b6] at he
  split at he
  ·rename_i i k i' r n cap hxe hye
   split at he
   ·rename_i sh idx rows hB
    split at he
    ·rename_i hc
     simp only [ab,al] at he;obtain ⟨rfl,rfl⟩:=he;obtain ⟨rfl,h1,h2,h3⟩:=hc;exact (Qh hs ho (by simpa using hdst) hx hy ht hxe hye hB h1 h2 h3).wp
    ·cases he
   ·cases he
  ·cases he
 case h_46=>simp [b6] at he
 case h_47=>cases hok
end
end Pe
namespace Pe
open Go
variable {P:Program} {num:Nat→Nat}
structure Runs (np:Nat) (C C':Cx) (φ φ':Loc) (h h':Heap):Prop where
 st:Step C C' φ φ' h h'
 kp:Keeps C C' φ φ' h h' (np≤·)
theorem Runs.trans {np:Nat} {C C' C'':Cx} {φ φ' φ'':Loc} {h h' h'':Heap} (a:Runs np C C' φ φ' h h') (b:Runs np C' C'' φ' φ'' h' h''):Runs np C C'' φ φ'' h h'':=
 ⟨a.st.trans b.st,a.kp.trans b.kp⟩
theorem Runs.refl (np:Nat) {C:Cx} {φ:Loc} {h:Heap} (hr:HR C φ h) (hb:∀b,C.I b→b<C.w.heap.size):Runs np C C φ φ h h:=⟨.refl hr hb,Keeps.refl _ _ _ _⟩
theorem aat {O:am} {np:Nat} {e:Env} {h h':Heap} {p:Op} {v:V} {j:Nat} (he:b6 O np e h p=some (v,h')) (hk:p.kill e v=some j):np≤j:=by
 cases p <;> simp only [Op.kill,reduceCtorEq] at hk
 case append sh i bytes x y=>
  simp only [b6] at he;obtain ⟨w,hw,he⟩:=aa.1 he;obtain ⟨d,hd,he⟩:=aa.1 he
  split at he
  ·rename_i sh1 ys j' off n cap hxe
   rw [hxe] at hk
   split at he
   ·split at he
    ·split at he
     ·rename_i hfr
      simp only [ab,al] at he;obtain ⟨rfl,rfl⟩:=he;simp at hk;omega
     ·split at he
      ·obtain ⟨h2,hpb,e⟩:=ae.1 he
       simp only [al] at e;obtain ⟨rfl,rfl⟩:=e;simp at hk;omega
      ·cases he
    ·cases he
   ·cases he
  ·rename_i hxe
   rw [hxe] at hk;cases hk
  ·cases he
 case tbApp bytes x y=>
  simp only [b6] at he
  split at he
  ·rename_i j' p n cap k cap' hxe hye
   rw [hxe] at hk
   split at he
   ·obtain ⟨q,hq,he⟩:=aa.1 he
    split at he
    ·rename_i hc
     simp only [ab,al] at he;obtain ⟨rfl,rfl⟩:=he;simp at hk;omega
    ·cases he
   ·cases he
  ·cases he
theorem Du (p:Nat→Bool):∀(e:Env) (n:Nat),Env.get (e.filter fun q=>p q.1) n=if p n then e.get n else none
 | [],n=>by simp [Env.get]
 | (m,v)::e,n=>by
  have ih:=Du p e n
  by_cases hm:p m=true
  ·rw [List.filter_cons_of_pos (by simpa using hm)]
   simp only [Env.get]
   by_cases hmn:m=n
   ·subst hmn; simp [hm]
   ·rw [if_neg hmn,if_neg hmn]; exact ih
  ·rw [List.filter_cons_of_neg (by simpa using hm),ih]
   simp only [Env.get]
   by_cases hmn:m=n
   ·subst hmn; simp [hm]
   ·rw [if_neg hmn]
theorem T8 {e:Env} {k:Option Nat} {n:Nat} {v:V} (h:(e.kill k).get n=some v):e.get n=some v∧∀j,k=some j→j ∉ v.refs:=by
 cases k with
 | none=>exact ⟨h,by simp⟩
 | some j=>
  simp only [Env.kill] at h;rw [Du (e.clear j) e n] at h
  split at h
  ·rename_i hp
   unfold Env.clear at hp;rw [h] at hp;refine ⟨h,fun j' hj=>?_⟩
   simp only [ab] at hj;subst hj;intro hm;simp at hp;exact hp j hm rfl
  ·cases h
def Cr (P:Program) (num:Nat→Nat) (ops:Array Oper) (N:Nat) (i:Ins) (o:Oper):Bool:=
 decide (i.dst=o.dst)&&(match o.dst with | some d=>decide (d<N) | none=>true)&&a39 P num i.op o &&
 (match i.guard,o.guard with
  | none,none=>true
  | some (n,b),some (g,b')=>b == b'&&decide ((ops[g]?).bind (·.dst)=some n)
  | _,_=>false)
theorem uw {a:Act} {d n:Nat} {v:Value} (hd:d<a.tmps.size):(a.put (some d) v).tmps[n]? = if n=d then some v else a.tmps[n]?:=by
 simp only [Act.put,fu]
 by_cases h:d=n
 ·subst h; simp [hd]
 ·rw [if_neg h,if_neg (f9 h)]
theorem jx (a:Act) (d:Option Nat) (v:Value):(a.put d v).tmps.size=a.tmps.size:=by
 cases d <;> simp [Act.put]
theorem H8 {O:am} {np:Nat} {s s':St} {i:Ins} (h:n8 O np s i=some s'):gv O np s i=some s':=by
 unfold n8 at h
 split at h
 ·exact h
 ·cases h
theorem t9 {O:am} {C:Cx} {φ:Loc} {s s':St} {a:Act} {ops:Array Oper} {N np:Nat} {i:Ins} {o:Oper} {j:Nat} {K:Act→World→Prop} {Q:Exit→Act→World→Prop}
 (hO:km P C.num O) (hs:SR C φ s a.tmps) (hN:N≤a.tmps.size) (hok:Cr P C.num ops N i o=true) (hj:ops[j]? = some o) (he:gv O np s i=some s')
 (hK:∀C' φ' u,Runs np C C' φ φ' s.h s'.h→SR C' φ' s' (a.put o.dst u).tmps→K (a.put o.dst u) C'.w):wpOp P ops Q j K a C.w:=by
 unfold Cr at hok;simp only [av,decide_eq_true_eq] at hok;obtain ⟨⟨⟨hdst,hdN⟩,hop⟩,hguard⟩:=hok
 have hdN':∀d,o.dst=some d→d<a.tmps.size:=by
  intro d hd;have h1:=hdN;simp [hd] at h1;exact ep h1 hN
 -- the guard
 have hwant:∀t,i.on s.e=some t→Region.wanted o (yielded ops a.tmps)=t:=by
  intro t ht;unfold Ins.on at ht;unfold Region.wanted;cases hg:i.guard with
  | none=>
   rw [hg] at hguard ht;cases hg':o.guard with
   | none=>simpa using ht
   | some x=>rw [hg'] at hguard; cases hguard
  | some q=>
   obtain ⟨n,b⟩:=q;rw [hg] at hguard ht;cases hg':o.guard with
   | none=>rw [hg'] at hguard; cases hguard
   | some x=>
    obtain ⟨g,b'⟩:=x;rw [hg'] at hguard;simp only [av,beq_iff_eq,decide_eq_true_eq] at hguard;obtain ⟨rfl,hgn⟩:=hguard;simp only at ht ⊢
    split at ht
    ·rename_i t' hn
     obtain ⟨u,hu,hx⟩:=hs.env n _ hn;have hub:=ze hx;subst hub
     have hy:yielded ops a.tmps g=some t':=by
      unfold yielded;rw [hgn];simp [hu]
     rw [hy];simp only [ab] at ht;rw [←ht];cases t' <;> cases b <;> rfl
    ·rename_i hn
     obtain ⟨u,hu,hx⟩:=hs.env n _ hn;simp only [RX,RXs] at hx;obtain ⟨us,rfl,-⟩:=hx
     have hy:yielded ops a.tmps g=none:=by
      unfold yielded;rw [hgn];simp [hu]
     rw [hy];simp only [ab] at ht;rw [←ht];rfl
    ·cases ht
 unfold gv at he;unfold wpOp;simp only [hj]
 split at he
 ·rename_i hg
  rw [hwant true hg,if_pos rfl]
  ·obtain ⟨⟨v,h'⟩,hev,rfl⟩:=ae.1 he
   left;refine a53 hO hs hop hev K Q fun C' φ' u st hx k=>hK C' φ' u ⟨st,k.mono fun i hi=>aat hev hi⟩ ⟨st.hr,st.bd,fun n w hn=>?_⟩
   simp only at hn
   have old:∀w,((s.e.kill (i.op.kill s.e v)).get n=some w)→∃u0,a.tmps[n]? = some u0∧RX C' φ' h' w u0:=by
    intro w hw;obtain ⟨g1,g2⟩:=T8 hw;obtain ⟨u0,h1,h2⟩:=hs.env n w g1;exact ⟨u0,h1,k w u0 (fun j hj hk=>g2 j hk hj) h2⟩
   cases hd:o.dst with
   | none=>
    rw [hdst,hd] at hn;simp only [Env.putO] at hn;exact old w hn
   | some d=>
    rw [hdst,hd] at hn;simp only [Env.putO,Env.get] at hn;rw [uw (hdN' d hd)]
    by_cases hdn:d=n
    ·subst hdn
     simp only [if_true,ab] at hn;subst hn;refine ⟨u,if_pos rfl,?_⟩;rcases hx with hx | hx
     ·rw [hd] at hx; cases hx
     ·exact hx
    ·rw [if_neg hdn] at hn
     rw [if_neg (f9 hdn)];exact old w hn
 ·rename_i hg
  rw [hwant false hg,if_neg (by simp)]
  obtain rfl:=au he;refine hK C φ undef (.refl np hs.hr hs.bd) ⟨hs.hr,hs.bd,fun n w hn=>?_⟩
  cases hd:o.dst with
  | none=>
   rw [hdst,hd] at hn;exact hs.env n w hn
  | some d=>
   rw [hdst,hd] at hn;simp only [Env.putO,Env.get] at hn;rw [uw (hdN' d hd)]
   by_cases hdn:d=n
   ·subst hdn
    simp only [if_true,ab] at hn;subst hn;exact ⟨undef,if_pos rfl,by simp [RX,RXs,undef]⟩
   ·rw [if_neg hdn] at hn
    rw [if_neg (f9 hdn)];exact hs.env n w hn
 ·cases he
theorem xy {e:Env}:∀{ks:List Nat} {n:Nat} {v:V},(e.keep ks).get n=some v→e.get n=some v
 | [],n,v,h=>by simp [Env.keep,Env.get] at h
 | k::ks,n,v,h=>by
  simp only [Env.keep] at h
  split at h
  ·rename_i u hu
   simp only [Env.get] at h
   by_cases hk:k=n
   ·subst hk
    simp only [if_true,ab] at h;subst h; exact hu
   ·rw [if_neg hk] at h; exact xy h
  ·exact xy h
theorem tk (e:Env) (np:Nat):∀(j:Nat) (h:Heap) (i:Nat),(ma e np j h)[i]? = (h[i]?).map fun b=>if j+i<np∨e.refd (j+i) then b else .hole
 | j,[],i=>by simp [ma]
 | j,b::bs,i=>by
  simp only [ma];cases i with
  | zero=>simp
  | succ i=>
   simp only [iw];rw [tk e np (j+1) bs i];rw [show j+1+i=j+(i+1) by omega]
theorem T9 {e:Env} {n i:Nat} {v:V} (h:e.get n=some v) (hi:i∈v.refs):e.refd i=true:=by
 induction e with
 | nil=>simp [Env.get] at h
 | cons q e ih=>
  obtain ⟨m,u⟩:=q;simp only [Env.get] at h;simp only [Env.refd,oz,Bool.or_eq_true] at ih ⊢
  by_cases hm:m=n
  ·rw [if_pos hm,ab] at h
   subst h;left
   simpa using hi
  ·rw [if_neg hm] at h
   exact .inr (ih h)
theorem Dw {C:Cx} {φ:Loc} {s:St} {tmps:Array Value} (np:Nat) (hs:SR C φ s tmps) (ks:List Nat) :
 Runs np C C φ φ s.h (ma (s.e.keep ks) np 0 s.h)∧SR C φ ⟨s.e.keep ks,ma (s.e.keep ks) np 0 s.h⟩ tmps:=by
 obtain ⟨st,k⟩:=Nh (h':=ma (s.e.keep ks) np 0 s.h) hs.hr hs.bd (fun i B hB=>by
  rw [tk] at hB;obtain ⟨b,hb,e⟩:=ae.1 hB
  split at e
  ·subst e; exact .inr hb
  ·exact .inl e.symm) (fun i B hB=>by
  rw [tk,hB];refine ⟨_,rfl,?_⟩
  split
  ·exact .inr rfl
  ·exact .inl rfl)
 have hold:∀v u,RX C φ s.h v u→(∀i∈v.refs,i<np∨(s.e.keep ks).refd i=true)→RX C φ (ma (s.e.keep ks) np 0 s.h) v u:=by
  intro v u g hi;refine k v u (fun i hiv hh=>?_) g
  obtain ⟨B,hB,hn⟩:=RX.refs v u g i hiv;have hh:(ma (s.e.keep ks) np 0 s.h)[i]? = some Blk.hole:=hh;rw [tk,hB,bc,b9,if_pos (hi i hiv)] at hh;exact hn (au hh)
 refine ⟨⟨st,fun v u hv g=>hold v u g fun i hi=>.inl (by have:=hv i hi; omega)⟩,⟨st.hr,st.bd,fun n v hn=>?_⟩⟩
 obtain ⟨u,h1,h2⟩:=hs.env n v (xy hn);exact ⟨u,h1,hold v u h2 fun i hi=>.inr (T9 hn hi)⟩
def qp (P:Program) (num:Nat→Nat) (ops:Array Oper) (N:Nat):List Ins→List Oper→Bool
 | [],[]=>true
 | i::is,o::os=>Cr P num ops N i o&&qp P num ops N is os
 | _,_=>false
theorem jm {num:Nat→Nat} {ops:Array Oper} {N:Nat}:∀{is:List Ins} {os:List Oper},qp P num ops N is os=true→is.length=os.length∧∀(k:Nat) i o,is[k]? = some i→os[k]? = some o→Cr P num ops N i o=true
 | [],[],_=>by simp
 | i::is,o::os,h=>by
  simp only [qp,av] at h;obtain ⟨h1,h2⟩:=jm h.2;refine ⟨by simp [h1],fun k i' o' hi ho=>?_⟩
  cases k with
  | zero=>
   simp only [ct,ab] at hi ho;subst hi; subst ho; exact h.1
  | succ k=>exact h2 k i' o' (by simpa using hi) (by simpa using ho)
 | [],_::_,h=>by simp [qp] at h
 | _::_,[],h=>by simp [qp] at h
def Keep (T:List Nat) (a a':Act):Prop:=a'.defers=a.defers∧∀t∈T,a'.tmps[t]? = a.tmps[t]?
theorem Keep.refl (T:List Nat) (a:Act):Keep T a a:=⟨rfl,fun _ _=>rfl⟩
theorem Keep.trans {T:List Nat} {a b c:Act} (h:Keep T a b) (g:Keep T b c):Keep T a c:=⟨g.1.trans h.1,fun t ht=>(g.2 t ht).trans (h.2 t ht)⟩
theorem Keep.sub {T T':List Nat} {a b:Act} (h:Keep T a b) (hs:∀t∈T',t∈T):Keep T' a b:=⟨h.1,fun t ht=>h.2 t (hs t ht)⟩
def p6 (T:List Nat) (o:Oper):Bool:=
 match o.dst with
 | some d=>!T.contains d
 | none=>true
theorem Keep.put {T:List Nat} {o:Oper} (h:p6 T o=true) (a:Act) (u:Value):Keep T a (a.put o.dst u):=by
 unfold p6 at h;cases hd:o.dst with
 | none=>exact ⟨rfl,fun _ _=>rfl⟩
 | some d=>
  rw [hd] at h;refine ⟨rfl,fun t ht=>?_⟩
  have hne:d≠t:=by rintro rfl; simp [ht] at h
  simp only [Act.put,fu,if_neg hne]
theorem Gd {O:am} {ops:Array Oper} {N np:Nat} {Q:Exit→Act→World→Prop} {is:List Ins} (hok:qp P num ops N is ops.toList=true) (hO:km P num O) (T:List Nat) (hT:ops.toList.all (p6 T)=true) :
 ∀(m k:Nat),k+m=is.length→∀(C:Cx) (φ:Loc) (s s':St) (a:Act),C.num=num→SR C φ s a.tmps→N≤a.tmps.size→fy O np (is.drop k) s=some s' →
 (∀C' φ' a',C'.num=num→Runs np C C' φ φ' s.h s'.h→SR C' φ' s' a'.tmps→a'.tmps.size=a.tmps.size→Keep T a a'→Q .normal a' C'.w)→wpOps P ops Q (List.range' k m) a C.w
 | 0,k,hk,C,φ,s,s',a,hC,hs,hN,he,hQ=>by
  rw [gt (by omega)] at he
  simp only [fy,ab] at he;subst he;simp only [List.range'_zero,wpOps];exact hQ C φ a hC (.refl np hs.hr hs.bd) hs rfl (.refl T a)
 | m+1,k,hk,C,φ,s,s',a,hC,hs,hN,he,hQ=>by
  obtain ⟨hl,hget⟩:=jm hok;have hkl:k<is.length:=by omega
  have hi:is[k]? = some is[k]:=ac hkl;have hko:k<ops.toList.length:=by omega
  have ho:ops.toList[k]? = some ops.toList[k]:=ac hko;rw [c8 hkl] at he;simp only [fy] at he;obtain ⟨s1,h1,he⟩:=aa.1 he;rw [List.range'_succ,wpOps_cons];have ho':ops[k]? = some ops.toList[k]:=by simp
  refine t9 (hC▸hO) hs hN (hC▸hget k _ _ hi ho) ho' (H8 h1) fun C' φ' u rn hs'=>?_
  have hC':C'.num=num:=rn.st.le.num.trans hC;refine Gd hok hO T hT m (k+1) (by omega) C' φ' s1 s' _ hC' hs' (by rw [jx]; exact hN) he fun C2 φ2 a2 h2 rn2 hs2 e2 d2=>?_
  exact hQ C2 φ2 a2 h2 (rn.trans rn2) hs2 (by rw [e2,jx]) ((Keep.put (df.1 hT _ (az hko)) a u).trans d2)
end Pe
namespace Pe
open Go
def Le (ns:List Nat) (e e':Env):Prop:=∀n∈ns,∀v,e.get n=some v→e'.get n=some v
theorem Le.sub {ns ms:List Nat} {e e':Env} (h:Le ns e e') (hs:∀n∈ms,n∈ns):Le ms e e':=fun n hn v hv=>h n (hs n hn) v hv
theorem cm {e e':Env} {x:Arg} (h:Le x.temps e e') {v:V} (hv:e.arg x=some v):e'.arg x=some v:=by
 cases x with
 | t n=>exact h n (by simp [Arg.temps]) v hv
 | c d=>exact hv
 | f f=>exact hv
theorem Bc {e e':Env}:∀{xs:List Arg},Le (xm xs) e e'→∀{vs:List V},e.args xs=some vs→e'.args xs=some vs
 | [],_,vs,hv=>hv
 | x::xs,h,vs,hv=>by
  simp only [Env.args] at hv ⊢;obtain ⟨v,h1,hv⟩:=aa.1 hv;obtain ⟨r,h2,rfl⟩:=ae.1 hv;rw [cm (h.sub fun n hn=>by simp [xm,hn]) h1,ah,Bc (h.sub fun n hn=>by simp [xm,hn]) h2,bc]
theorem yo {e e':Env} {x:Arg} (h:Le x.temps e e') {k:Nat} (hv:(e.arg x).bind V.nat? = some k):(e'.arg x).bind V.nat? = some k:=by
 obtain ⟨v,h1,h2⟩:=aa.1 hv;rw [cm h h1,ah,h2]
theorem ot {e e':Env} {x:Option Arg} (h:Le (A6 x) e e') {m k:Nat} (hv:ee e x m=some k):ee e' x m=some k:=by
 cases x with
 | none=>exact hv
 | some a=>exact yo h hv
theorem Db {e e':Env} {h:Heap}:∀{ps:List (Nat×Arg)},Le (wd ps) e e'→∀{xs:List (Nat×D)},kj e h ps=some xs→kj e' h ps=some xs∧fe e' ps=fe e ps
 | [],_,xs,hv=>⟨hv,rfl⟩
 | (i,a)::r,hl,xs,hv=>by
  simp only [kj] at hv ⊢;obtain ⟨v,h1,hv⟩:=aa.1 hv;obtain ⟨x,h2,hv⟩:=aa.1 hv
  split at hv
  ·cases hv
  ·rename_i hx
   obtain ⟨ys,h3,rfl⟩:=ae.1 hv;have h1':=cm (hl.sub fun n hn=>by simp [wd,hn]) h1
   obtain ⟨g1,g2⟩:=Db (hl.sub fun n hn=>by simp [wd,hn]) h3
   refine ⟨?_,by simp only [fe,h1',h1,g2]⟩
   rw [h1',ah,h2,ah,if_neg hx,g1,bc]
theorem aby {O:am} {np:Nat} {e e':Env} {h:Heap} {p:Op} {r:V×Heap} (hl:Le p.temps e e') (he:b6 O np e h p=some r):b6 O np e' h p=some r∧p.kill e' r.1=p.kill e r.1:=by
 cases p with
 | mv x=>
  simp only [b6] at he ⊢;obtain ⟨v,hv,e1⟩:=ae.1 he;rw [cm hl hv]; exact ⟨e1▸rfl,rfl⟩
 | chk x=>
  simp only [b6] at he ⊢
  split at he
  ·rename_i hx; rw [cm hl hx]; exact ⟨he,rfl⟩
  ·rename_i hx; rw [cm hl hx]; exact ⟨he,rfl⟩
  ·cases he
 | pick c a b=>
  simp only [b6] at he ⊢
  split at he
  ·rename_i t hc
   obtain ⟨v,hv,e1⟩:=ae.1 he;rw [cm (hl.sub fun n hn=>by simp [Op.temps,hn]) hc]
   simp only;have:e'.arg (if t then a else b)=some v:=cm (hl.sub fun n hn=>by cases t <;> simp_all [Op.temps]) hv
   rw [this]; exact ⟨e1▸rfl,rfl⟩
  ·cases he
 | nilOwn i s=>exact ⟨he,rfl⟩
 | box fz i x=>
  simp only [b6] at he ⊢;obtain ⟨v,hv,he⟩:=aa.1 he;rw [cm hl hv]; exact ⟨he,rfl⟩
 | build fz z ps=>
  simp only [b6] at he ⊢;obtain ⟨v,hv,he⟩:=aa.1 he;obtain ⟨g1,g2⟩:=Db hl hv;rw [g1,g2]; exact ⟨he,rfl⟩
 | buildSl fz i s z n ps=>
  simp only [b6] at he ⊢;obtain ⟨v,hv,he⟩:=aa.1 he;obtain ⟨g1,g2⟩:=Db hl hv;rw [g1,g2]; exact ⟨he,rfl⟩
 | mkSl i s z bytes x y=>
  simp only [b6] at he ⊢
  split at he
  ·rename_i n m hn hm
   rw [yo (hl.sub fun n hn=>by simp [Op.temps,hn]) hn,yo (hl.sub fun n hn=>by simp [Op.temps,hn]) hm]
   exact ⟨he,rfl⟩
  ·cases he
 | load s x=>
  simp only [b6] at he ⊢
  split at he
  ·rename_i hx; rw [cm hl hx]; exact ⟨he,rfl⟩
  ·rename_i hx; rw [cm hl hx]; exact ⟨he,rfl⟩
  ·cases he
 | store fz s x y=>
  simp only [b6] at he ⊢;obtain ⟨v,hv,he⟩:=aa.1 he;obtain ⟨d,hd,he⟩:=aa.1 he;obtain ⟨h1,hf,he⟩:=aa.1 he;rw [cm (hl.sub fun n hn=>by simp [Op.temps,hn]) hv,ah,hd,ah,hf,ah]
  split at he
  ·rename_i hx; rw [cm (hl.sub fun n hn=>by simp [Op.temps,hn]) hx]; exact ⟨he,rfl⟩
  ·cases he
 | bin o x y=>
  simp only [b6] at he ⊢
  split at he
  ·rename_i hx hy
   rw [cm (hl.sub fun n hn=>by simp [Op.temps,hn]) hx,cm (hl.sub fun n hn=>by simp [Op.temps,hn]) hy]
   exact ⟨he,rfl⟩
  ·cases he
 | eqv neg q x y=>
  simp only [b6] at he ⊢
  split at he
  ·rename_i hx hy
   rw [cm (hl.sub fun n hn=>by simp [Op.temps,hn]) hx,cm (hl.sub fun n hn=>by simp [Op.temps,hn]) hy]
   exact ⟨he,rfl⟩
  ·cases he
 | un o x=>
  simp only [b6] at he ⊢
  split at he
  ·rename_i hx; rw [cm hl hx]; exact ⟨he,rfl⟩
  ·cases he
 | conv k x=>
  simp only [b6] at he ⊢
  split at he
  ·rename_i hx; rw [cm hl hx]; exact ⟨he,rfl⟩
  ·cases he
 | cut ar s x lo hi mx=>
  have l1:Le x.temps e e':=hl.sub fun n hn=>by simp [Op.temps,hn]
  have l2:Le (A6 lo) e e':=hl.sub fun n hn=>by simp [Op.temps,hn]
  have l3:Le (A6 hi) e e':=hl.sub fun n hn=>by simp [Op.temps,hn]
  have l4:Le (A6 mx) e e':=hl.sub fun n hn=>by simp [Op.temps,hn]
  cases ar with
  | none=>
   simp only [b6] at he ⊢
   split at he
   ·rename_i hx
    obtain ⟨m,hm,he⟩:=aa.1 he;obtain ⟨b,hb,he⟩:=aa.1 he;obtain ⟨a,ha,he⟩:=aa.1 he;simp only [cm l1 hx,ot l4 hm,ot l3 hb,ot l2 ha,ah];exact ⟨he,rfl⟩
   ·rename_i hx
    obtain ⟨q,hq,he⟩:=aa.1 he;obtain ⟨m,hm,he⟩:=aa.1 he;obtain ⟨b,hb,he⟩:=aa.1 he;obtain ⟨a,ha,he⟩:=aa.1 he;simp only [cm l1 hx,hq,ot l4 hm,ot l3 hb,ot l2 ha,ah];exact ⟨he,rfl⟩
   ·cases he
  | some n=>
   simp only [b6] at he ⊢
   split at he
   ·rename_i hx
    obtain ⟨q,hq,he⟩:=aa.1 he;rw [cm l1 hx];simp only [hq,ah]
    split at he
    ·obtain ⟨m,hm,he⟩:=aa.1 he
     obtain ⟨b,hb,he⟩:=aa.1 he;obtain ⟨a,ha,he⟩:=aa.1 he;simp only [ot l4 hm,ot l3 hb,ot l2 ha,ah];exact ⟨he,rfl⟩
    ·cases he
   ·rename_i hx
    obtain ⟨m,hm,he⟩:=aa.1 he;obtain ⟨b,hb,he⟩:=aa.1 he;obtain ⟨a,ha,he⟩:=aa.1 he;simp only [cm l1 hx,ot l4 hm,ot l3 hb,ot l2 ha,ah];exact ⟨he,rfl⟩
   ·cases he
 | fldA ss x j=>
  simp only [b6] at he ⊢
  split at he
  ·rename_i hx; rw [cm hl hx]; exact ⟨he,rfl⟩
  ·rename_i hx; rw [cm hl hx]; exact ⟨he,rfl⟩
  ·cases he
 | fld ss x j=>
  simp only [b6] at he ⊢
  split at he
  ·rename_i hx; rw [cm hl hx]; exact ⟨he,rfl⟩
  ·cases he
 | idxA ar s x j=>
  have l1:Le x.temps e e':=hl.sub fun n hn=>by simp [Op.temps,hn]
  have l2:Le j.temps e e':=hl.sub fun n hn=>by simp [Op.temps,hn]
  cases ar <;> simp only [b6] at he ⊢ <;> split at he <;> first
   | cases he; done
   | (rename_i hx hj; rw [cm l1 hx,yo l2 hj]; exact ⟨he,rfl⟩)
 | idx ar s x j=>
  have l1:Le x.temps e e':=hl.sub fun n hn=>by simp [Op.temps,hn]
  have l2:Le j.temps e e':=hl.sub fun n hn=>by simp [Op.temps,hn]
  cases ar <;> simp only [b6] at he ⊢ <;> split at he <;> first
   | cases he; done
   | (rename_i hx hj; rw [cm l1 hx,yo l2 hj]; exact ⟨he,rfl⟩)
 | ext x j=>
  simp only [b6] at he ⊢
  split at he
  ·rename_i hx; rw [cm hl hx]; exact ⟨he,rfl⟩
  ·rename_i hx; rw [cm hl hx]; exact ⟨he,rfl⟩
  ·cases he
 | mkFn f xs ys=>
  simp only [b6] at he ⊢;obtain ⟨us,hu,he⟩:=aa.1 he;obtain ⟨vs,hv,he⟩:=ae.1 he;rw [Bc (hl.sub fun n hn=>by simp [Op.temps,hn]) hu,Bc (hl.sub fun n hn=>by simp [Op.temps,hn]) hv]
  exact ⟨congrArg some he,rfl⟩
 | len str x=>
  cases str <;> simp only [b6] at he ⊢ <;> split at he <;> first
   | cases he; done
   | (rename_i hx; rw [cm hl hx]; exact ⟨he,rfl⟩)
 | maxI x y=>
  simp only [b6] at he ⊢
  split at he
  ·rename_i hx hy
   rw [cm (hl.sub fun n hn=>by simp [Op.temps,hn]) hx,cm (hl.sub fun n hn=>by simp [Op.temps,hn]) hy]
   exact ⟨he,rfl⟩
  ·cases he
 | minI x y=>
  simp only [b6] at he ⊢
  split at he
  ·rename_i hx hy
   rw [cm (hl.sub fun n hn=>by simp [Op.temps,hn]) hx,cm (hl.sub fun n hn=>by simp [Op.temps,hn]) hy]
   exact ⟨he,rfl⟩
  ·cases he
 | append s i bytes x y=>
  simp only [b6] at he ⊢;obtain ⟨w,hw,he⟩:=aa.1 he;obtain ⟨d,hd,he⟩:=aa.1 he;rw [cm (hl.sub fun n hn=>by simp [Op.temps,hn]) hw,ah,hd,ah]
  split at he
  ·rename_i hx
   have hx':=cm (hl.sub fun n hn=>by simp [Op.temps,hn]) hx
   simp only [hx',Op.kill,hx];exact ⟨he,trivial⟩
  ·rename_i hx
   have hx':=cm (hl.sub fun n hn=>by simp [Op.temps,hn]) hx
   simp only [hx',Op.kill,hx];exact ⟨he,trivial⟩
  ·cases he
 | copy s x y=>
  simp only [b6] at he ⊢;obtain ⟨w,hw,he⟩:=aa.1 he;obtain ⟨d,hd,he⟩:=aa.1 he;rw [cm (hl.sub fun n hn=>by simp [Op.temps,hn]) hw,ah,hd,ah]
  split at he
  ·rename_i hx
   have hx':=cm (hl.sub fun n hn=>by simp [Op.temps,hn]) hx
   simp only [hx'];exact ⟨he,rfl⟩
  ·cases he
 | call m news f xs=>
  simp only [b6] at he ⊢;obtain ⟨w,hw,he⟩:=aa.1 he;obtain ⟨g,hg,he⟩:=aa.1 he;obtain ⟨vs,hv,he⟩:=aa.1 he;rw [cm (hl.sub fun n hn=>by simp [Op.temps,hn]) hw,ah,hg,ah,Bc (hl.sub fun n hn=>by simp [Op.temps,hn]) hv,ah]
  exact ⟨he,rfl⟩
 | nilq neg x=>
  simp only [b6] at he ⊢
  split at he
  ·rename_i hx; rw [cm hl hx]; exact ⟨he,rfl⟩
  ·rename_i hx; rw [cm hl hx]; exact ⟨he,rfl⟩
  ·cases he
 | toStr x=>
  simp only [b6] at he ⊢;obtain ⟨w,hw,he⟩:=aa.1 he;rw [cm hl hw,ah];exact ⟨he,rfl⟩
 | clear s z x=>
  simp only [b6] at he ⊢
  split at he
  ·rename_i hx; rw [cm hl hx]; exact ⟨he,rfl⟩
  ·cases he
 | mkMap i=>exact ⟨he,rfl⟩
 | mapGet str x k=>
  simp only [b6] at he ⊢
  split at he
  ·rename_i hx hk
   obtain ⟨w,hw,hk⟩:=aa.1 hk;rw [cm (hl.sub fun n hn=>by simp [Op.temps,hn]) hx,cm (hl.sub fun n hn=>by simp [Op.temps,hn]) hw,ah,hk]
   exact ⟨he,rfl⟩
  ·cases he
 | mapOk str x k=>
  simp only [b6] at he ⊢
  split at he
  ·rename_i hx hk
   obtain ⟨w,hw,hk⟩:=aa.1 hk;rw [cm (hl.sub fun n hn=>by simp [Op.temps,hn]) hx,cm (hl.sub fun n hn=>by simp [Op.temps,hn]) hw,ah,hk]
   exact ⟨he,rfl⟩
  ·cases he
 | mapSet str x k v=>
  simp only [b6] at he ⊢
  split at he
  ·rename_i hx hk hv
   obtain ⟨w,hw,hk⟩:=aa.1 hk;rw [cm (hl.sub fun n hn=>by simp [Op.temps,hn]) hx,cm (hl.sub fun n hn=>by simp [Op.temps,hn]) hw,cm (hl.sub fun n hn=>by simp [Op.temps,hn]) hv,ah,hk]
   exact ⟨he,rfl⟩
  ·cases he
 | tbOne i x=>
  simp only [b6] at he ⊢
  split at he
  ·rename_i hx; rw [cm hl hx]; exact ⟨he,rfl⟩
  ·cases he
 | tbApp bytes x y=>
  simp only [b6] at he ⊢
  split at he
  ·rename_i hx hy
   have hx':=cm (hl.sub fun n hn=>by simp [Op.temps,hn]) hx
   rw [hx',cm (hl.sub fun n hn=>by simp [Op.temps,hn]) hy]
   refine ⟨he,?_⟩;simp only [Op.kill,hx',hx]
  ·cases he
 | tbA x j=>
  simp only [b6] at he ⊢
  split at he
  ·rename_i hx hj
   rw [cm (hl.sub fun n hn=>by simp [Op.temps,hn]) hx,yo (hl.sub fun n hn=>by simp [Op.temps,hn]) hj]
   exact ⟨he,rfl⟩
  ·cases he
 | tbLoad x=>
  simp only [b6] at he ⊢
  split at he
  ·rename_i hx; rw [cm hl hx]; exact ⟨he,rfl⟩
  ·cases he
 | tbStore x y=>
  simp only [b6] at he ⊢
  split at he
  ·rename_i hx hy
   rw [cm (hl.sub fun n hn=>by simp [Op.temps,hn]) hx,cm (hl.sub fun n hn=>by simp [Op.temps,hn]) hy]
   exact ⟨he,rfl⟩
  ·cases he
 | fail=>simp [b6] at he
theorem Bn {h h2:Heap} (v:V) (g:∀i∈v.refs,h2[i]? = h[i]?):toE h2 v=toE h v:=by
 cases v with
 | sl i p off len cap=>simp only [toE]; rw [g i (by simp [V.refs])]
 | _=>rfl
mutual
theorem v9 {h h2:Heap}:∀(v:V),(∀i∈v.refs,h2[i]? = h[i]?)→toD h2 v=toD h v
 | .d x,_=>by simp [toD]
 | .sl i p off len cap,g=>by simp only [toD]; rw [g i (by simp [V.refs])]
 | .ptr i p,g=>by simp only [toD]; rw [g i (by simp [V.refs])]
 | .mp _,_=>by simp [toD]
 | .fn f first caps,g=>by
  simp only [toD];rw [rm first fun i hi=>g i (by simp [V.refs,hi]),rm caps fun i hi=>g i (by simp [V.refs,hi])]
 | .tup vs,g=>by
  simp only [toD];rw [rm vs fun i hi=>g i (by simpa [V.refs] using hi)]
theorem rm {h h2:Heap}:∀(vs:List V),(∀i∈V.refss vs,h2[i]? = h[i]?)→py h2 vs=py h vs
 | [],_=>by simp [py]
 | v::vs,g=>by
  simp only [py];rw [v9 v fun i hi=>g i (by simp [V.refss,hi]),rm vs fun i hi=>g i (by simp [V.refss,hi])]
end
inductive Cls where
 | z | r | a | s | w | x
 deriving DecidableEq
def Op.cls:Op→Cls
 | .mv _ | .chk _ | .pick _ _ _ | .bin _ _ _ | .eqv _ _ _ _ | .un _ _ | .conv _ _ | .fld _ _ _ | .idx _ _ _ _ | .ext _ _ | .mkFn _ _ _ | .len _ _ | .maxI _ _ | .minI _ _ | .nilq _ _ | .fail=>.z
 | .tbA _ _ | .tbLoad _ | .load _ _ | .cut _ _ _ _ _ _ | .fldA _ _ _ | .idxA _ _ _ _ | .build false _ _ | .call .flat _ _ _ | .call .plain _ _ _=>.r
 | .nilOwn _ _ | .box false _ _ | .buildSl false _ _ _ _ _ | .mkSl _ _ _ _ _ _=>.a
 | .store false _ _ _ | .tbStore _ _=>.s
 | .toStr _ | .clear _ _ _ | .mkMap _ | .mapGet _ _ _ | .mapOk _ _ _ | .mapSet _ _ _ _=>.x
 | .tbOne _ _ | .tbApp _ _ _ | .store true _ _ _ | .box true _ _ | .build true _ _ | .buildSl true _ _ _ _ _ | .copy _ _ _ | .call .data _ _ _ | .call .heap _ _ _ | .append _ _ _ _ _=>.w
theorem wl {e:Env} {ns:List Nat} {n i:Nat} {v:V} (hn:n∈ns) (hv:e.get n=some v) (hi:i∈v.refs):i∈e.refsOf ns:=by
 induction ns with
 | nil=>simp at hn
 | cons m ns ih=>
  simp only [Env.refsOf,bp];rcases dp.1 hn with rfl | hn
  ·left; simp [hv,hi]
  ·exact .inr (ih hn)
theorem Ds {e:Env} {ns:List Nat} {i:Nat} (h:i∈e.refsOf ns):∃n∈ns,∃v,e.get n=some v∧i∈v.refs:=by
 induction ns with
 | nil=>simp [Env.refsOf] at h
 | cons m ns ih=>
  simp only [Env.refsOf,bp] at h;rcases h with h | h
  ·split at h
   ·rename_i v hv; exact ⟨m,by simp,v,hv,h⟩
   ·simp at h
  ·obtain ⟨n,hn,q⟩:=ih h
   exact ⟨n,by simp [hn],q⟩
theorem Vi {e:Env} {ns ms:List Nat} (hs:∀n∈ns,n∈ms) {i:Nat} (h:i∈e.refsOf ns):i∈e.refsOf ms:=by
 obtain ⟨n,hn,v,hv,hi⟩:=Ds h;exact wl (hs n hn) hv hi
theorem fo {e:Env} {x:Arg} {v:V} (hv:e.arg x=some v) {i:Nat} (hi:i∈v.refs):i∈e.refsOf x.temps:=by
 cases x with
 | t n=>exact wl (by simp [Arg.temps]) hv hi
 | c d=>simp only [Env.arg,ab] at hv; subst hv; simp [V.refs] at hi
 | f f=>simp only [Env.arg,ab] at hv; subst hv; simp [V.refs] at hi
theorem dw (e:Env) (ns ms:List Nat):e.refsOf (ns++ms)=e.refsOf ns++e.refsOf ms:=by
 induction ns with
 | nil=>rfl
 | cons n ns ih=>simp [Env.refsOf,ih,ek]
theorem va {e:Env}:∀{xs:List Arg} {vs:List V},e.args xs=some vs→∀{i:Nat},i∈V.refss vs→i∈e.refsOf (xm xs)
 | [],vs,hv,i,hi=>by simp only [Env.args,ab] at hv; subst hv; simp [V.refss] at hi
 | x::xs,vs,hv,i,hi=>by
  simp only [Env.args] at hv;obtain ⟨v,h1,hv⟩:=aa.1 hv;obtain ⟨r,h2,rfl⟩:=ae.1 hv;simp only [V.refss,bp] at hi;simp only [xm,dw,bp];rcases hi with hi | hi
  ·exact .inl (fo h1 hi)
  ·exact .inr (va h2 hi)
theorem ua {e:Env} {h h2:Heap}:∀{ps:List (Nat×Arg)},(∀i∈e.refsOf (wd ps),h2[i]? = h[i]?)→kj e h2 ps=kj e h ps
 | [],_=>rfl
 | (i,a)::r,g=>by
  simp only [kj];cases ha:e.arg a with
  | none=>rfl
  | some v=>
   simp only [ah];rw [v9 v fun j hj=>g j (by simp only [wd,dw,bp]; exact .inl (fo ha hj)),ua fun j hj=>g j (by simp only [wd,dw,bp]; exact .inr hj)]
theorem Nn:∀{vs:List V} {j:Nat} {v:V},vs[j]? = some v→∀i∈v.refs,i∈V.refss vs
 | [],j,v,h,i,_=>by simp at h
 | w::vs,0,v,h,i,hi=>by simp at h; subst h; simp [V.refss,hi]
 | w::vs,j+1,v,h,i,hi=>by
  simp only [V.refss,bp];exact .inr (Nn (by simpa using h) i hi)
theorem ahh {O:am} {np:Nat} {e:Env} {h h':Heap} {p:Op} {v:V} (hc:p.cls=.z) (he:b6 O np e h p=some (v,h')) :
 h'=h∧(∀h2,b6 O np e h2 p=some (v,h2))∧∀i∈v.refs,i∈e.refsOf p.temps:=by
 cases p with
 | mv x=>
  simp only [b6] at he ⊢;obtain ⟨u,hu,e1⟩:=ae.1 he;simp only [al] at e1;obtain ⟨rfl,rfl⟩:=e1;exact ⟨rfl,fun h2=>by rw [hu]; rfl,fun i hi=>fo hu hi⟩
 | chk x=>
  simp only [b6] at he ⊢
  split at he
  ·rename_i hx
   simp only [ab,al] at he;obtain ⟨rfl,rfl⟩:=he;exact ⟨rfl,fun h2=>rfl,fun i hi=>fo hx hi⟩
  ·rename_i hx
   simp only [ab,al] at he;obtain ⟨rfl,rfl⟩:=he;exact ⟨rfl,fun h2=>rfl,fun i hi=>fo hx hi⟩
  ·cases he
 | pick c a b=>
  simp only [b6] at he ⊢
  split at he
  ·rename_i t hc
   obtain ⟨u,hu,e1⟩:=ae.1 he;simp only [al] at e1;obtain ⟨rfl,rfl⟩:=e1;refine ⟨rfl,fun h2=>by rw [hu]; rfl,fun i hi=>?_⟩
   simp only [Op.temps,dw,bp];cases t
   ·exact .inr (fo hu hi)
   ·exact .inl (.inr (fo hu hi))
  ·cases he
 | bin o x y=>
  simp only [b6] at he ⊢
  split at he
  ·rename_i hx hy
   obtain ⟨u,hu,e1⟩:=ae.1 he;simp only [al] at e1;obtain ⟨rfl,rfl⟩:=e1;exact ⟨rfl,fun h2=>by rw [hu]; rfl,fun i hi=>by simp [V.refs] at hi⟩
  ·cases he
 | eqv neg q x y=>
  simp only [b6] at he ⊢
  split at he
  ·rename_i hx hy
   obtain ⟨u,hu,e1⟩:=ae.1 he;simp only [al] at e1;obtain ⟨rfl,rfl⟩:=e1;exact ⟨rfl,fun h2=>by rw [hu]; rfl,fun i hi=>by simp [V.refs] at hi⟩
  ·cases he
 | un o x=>
  simp only [b6] at he ⊢
  split at he
  ·obtain ⟨u,hu,e1⟩:=ae.1 he
   simp only [al] at e1;obtain ⟨rfl,rfl⟩:=e1;exact ⟨rfl,fun h2=>by rw [hu]; rfl,fun i hi=>by simp [V.refs] at hi⟩
  ·cases he
 | conv k x=>
  simp only [b6] at he ⊢
  split at he
  ·simp only [ab,al] at he
   obtain ⟨rfl,rfl⟩:=he;exact ⟨rfl,fun h2=>rfl,fun i hi=>by simp [V.refs] at hi⟩
  ·cases he
 | fld ss x j=>
  simp only [b6] at he ⊢
  split at he
  ·split at he
   ·rename_i hs
    obtain ⟨u,hu,e1⟩:=ae.1 he;simp only [al] at e1;obtain ⟨rfl,rfl⟩:=e1;exact ⟨rfl,fun h2=>by rw [if_pos hs,hu]; rfl,fun i hi=>by simp [V.refs] at hi⟩
   ·cases he
  ·cases he
 | idx ar s x j=>
  cases ar with
  | none=>
   simp only [b6] at he ⊢
   split at he
   ·obtain ⟨u,hu,e1⟩:=ae.1 he
    simp only [al] at e1;obtain ⟨rfl,rfl⟩:=e1;exact ⟨rfl,fun h2=>by rw [hu]; rfl,fun i hi=>by simp [V.refs] at hi⟩
   ·cases he
  | some n=>
   simp only [b6] at he ⊢
   split at he
   ·split at he
    ·rename_i hs
     obtain ⟨u,hu,e1⟩:=ae.1 he;simp only [al] at e1;obtain ⟨rfl,rfl⟩:=e1;exact ⟨rfl,fun h2=>by rw [if_pos hs,hu]; rfl,fun i hi=>by simp [V.refs] at hi⟩
    ·cases he
   ·cases he
 | ext x j=>
  simp only [b6] at he ⊢
  split at he
  ·obtain ⟨u,hu,e1⟩:=ae.1 he
   simp only [al] at e1;obtain ⟨rfl,rfl⟩:=e1;exact ⟨rfl,fun h2=>by rw [hu]; rfl,fun i hi=>by simp [V.refs] at hi⟩
  ·rename_i vs hx
   obtain ⟨u,hu,e1⟩:=ae.1 he;simp only [al] at e1;obtain ⟨rfl,rfl⟩:=e1;exact ⟨rfl,fun h2=>by rw [hu]; rfl,fun i hi=>fo hx (by simpa [V.refs] using Nn hu i hi)⟩
  ·cases he
 | mkFn f xs ys=>
  simp only [b6] at he ⊢;obtain ⟨us,hu,he⟩:=aa.1 he;obtain ⟨vs,hv,e1⟩:=ae.1 he;simp only [al] at e1;obtain ⟨rfl,rfl⟩:=e1;refine ⟨rfl,fun h2=>by rw [hu,ah,hv]; rfl,fun i hi=>?_⟩
  simp only [V.refs,bp] at hi;simp only [Op.temps,dw,bp];exact hi.imp (va hu) (va hv)
 | len str x=>
  cases str <;> simp only [b6] at he ⊢ <;> split at he <;> first
   | cases he; done
   | (simp only [ab,al] at he
      obtain ⟨rfl,rfl⟩:=he;exact ⟨rfl,fun h2=>rfl,fun i hi=>by simp [V.refs] at hi⟩)
 | maxI x y=>
  simp only [b6] at he ⊢
  split at he
  ·split at he
   ·rename_i hk
    simp only [ab,al] at he;obtain ⟨rfl,rfl⟩:=he;exact ⟨rfl,fun h2=>by rw [if_pos hk],fun i hi=>by simp [V.refs] at hi⟩
   ·cases he
  ·cases he
 | minI x y=>
  simp only [b6] at he ⊢
  split at he
  ·split at he
   ·rename_i hk
    simp only [ab,al] at he;obtain ⟨rfl,rfl⟩:=he;exact ⟨rfl,fun h2=>by rw [if_pos hk],fun i hi=>by simp [V.refs] at hi⟩
   ·cases he
  ·cases he
 | nilq neg x=>
  simp only [b6] at he ⊢
  split at he
  ·simp only [ab,al] at he
   obtain ⟨rfl,rfl⟩:=he;exact ⟨rfl,fun h2=>rfl,fun i hi=>by simp [V.refs] at hi⟩
  ·simp only [ab,al] at he
   obtain ⟨rfl,rfl⟩:=he;exact ⟨rfl,fun h2=>rfl,fun i hi=>by simp [V.refs] at hi⟩
  ·cases he
 | fail=>simp [b6] at he
 | call m news f xs=>cases m <;> simp [Op.cls] at hc
 | box fz i x=>cases fz <;> simp [Op.cls] at hc
 | build fz z ps=>cases fz <;> simp [Op.cls] at hc
 | buildSl fz i s z n ps=>cases fz <;> simp [Op.cls] at hc
 | store fz s x y=>cases fz <;> simp [Op.cls] at hc
 | nilOwn _ _=>simp [Op.cls] at hc
 | mkSl _ _ _ _ _ _=>simp [Op.cls] at hc
 | load _ _=>simp [Op.cls] at hc
 | cut _ _ _ _ _ _=>simp [Op.cls] at hc
 | fldA _ _ _=>simp [Op.cls] at hc
 | idxA _ _ _ _=>simp [Op.cls] at hc
 | append _ _ _ _ _=>simp [Op.cls] at hc
 | copy _ _ _=>simp [Op.cls] at hc
 | toStr _=>simp [Op.cls] at hc
 | clear _ _ _=>simp [Op.cls] at hc
 | mkMap _=>simp [Op.cls] at hc
 | mapGet _ _ _=>simp [Op.cls] at hc
 | mapOk _ _ _=>simp [Op.cls] at hc
 | mapSet _ _ _ _=>simp [Op.cls] at hc
 | tbOne _ _=>simp [Op.cls] at hc
 | tbApp _ _ _=>simp [Op.cls] at hc
 | tbA _ _=>simp [Op.cls] at hc
 | tbLoad _=>simp [Op.cls] at hc
 | tbStore _ _=>simp [Op.cls] at hc
theorem sa {e:Env} {f:Arg} {fv:V} {g:Nat×List V×List V} (hf:e.arg f=some fv) (hg:callee fv=some g):∀i,i∈V.refss g.2.1∨i∈V.refss g.2.2→i∈e.refsOf f.temps:=by
 have hd:∀ds:List D,V.refss (ds.map .d)=[]:=by
  intro ds
  induction ds with
  | nil=>simp [V.refss]
  | cons d ds ih=>simp [V.refss,V.refs,ih]
 intro i hi;unfold callee at hg
 split at hg
 ·simp only [ab] at hg
  subst hg;simp only [hd] at hi;simp at hi
 ·simp only [ab] at hg
  subst hg;exact fo hf (by simpa [V.refs] using hi)
 ·cases hg
theorem zx (vs ws:List V):V.refss (vs++ws)=V.refss vs++V.refss ws:=by
 induction vs with
 | nil=>simp [V.refss]
 | cons v vs ih=>simp [V.refss,ih,ek]
theorem ajp {O:am} {np:Nat} {e:Env} {h h':Heap} {p:Op} {v:V} (hc:p.cls=.r) (he:b6 O np e h p=some (v,h')) :
 h'=h∧(∀h2,(∀i∈e.refsOf p.temps,h2[i]? = h[i]?)→b6 O np e h2 p=some (v,h2))∧∀i∈v.refs,i∈e.refsOf p.temps:=by
 have one:∀{x:Arg} {u:V} {i:Nat} {ts:List Nat},e.arg x=some u→i∈u.refs→(∀n∈x.temps,n∈ts)→i∈e.refsOf ts:=fun hu hi hs=>Vi hs (fo hu hi)
 cases p with
 | tbA x j=>
  simp only [b6] at he ⊢
  split at he
  ·rename_i i off n cap k hx hj
   split at he
   ·rename_i fr sh idx rows hB
    split at he
    ·rename_i hcc
     simp only [ab,al] at he;obtain ⟨rfl,rfl⟩:=he;have hin:i∈e.refsOf (Op.tbA x j).temps:=one hx (by simp [V.refs]) (fun n hn=>by simp [Op.temps,hn])
     exact ⟨rfl,fun h2 g=>by simp only [g i hin,hB]; rw [if_pos hcc],fun q hq=>by simp only [V.refs,c7] at hq; subst hq; exact hin⟩
    ·cases he
   ·cases he
  ·cases he
 | tbLoad x=>
  simp only [b6] at he ⊢
  split at he
  ·rename_i i k hx
   split at he
   ·rename_i fr sh idx rows hB
    obtain ⟨r,hr,he1⟩:=aa.1 he;obtain ⟨xs,hxs,e1⟩:=ae.1 he1;clear he he1;simp only [al] at e1;obtain ⟨rfl,rfl⟩:=e1;have hin:i∈e.refsOf (Op.tbLoad x).temps:=one hx (by simp [V.refs]) (fun n hn=>hn)
    exact ⟨rfl,fun h2 g=>by simp only [g i hin,hB]; rw [hr,ah,hxs]; rfl,fun q hq=>by simp only [V.refs,c7] at hq; subst hq; exact hin⟩
   ·cases he
  ·cases he
 | load s x=>
  simp only [b6] at he ⊢
  split at he
  ·split at he
   ·rename_i hs
    simp only [ab,al] at he;obtain ⟨rfl,rfl⟩:=he;exact ⟨rfl,fun h2 _=>by rw [if_pos hs],fun i hi=>by simp [V.refs] at hi⟩
   ·cases he
  ·rename_i i p hx
   obtain ⟨d,hd,he⟩:=aa.1 he
   split at he
   ·rename_i hs
    simp only [ab,al] at he;obtain ⟨rfl,rfl⟩:=he;exact ⟨rfl,fun h2 g=>by rw [g i (one hx (by simp [V.refs]) (fun n hn=>hn)),hd,ah,if_pos hs],fun i hi=>by simp [V.refs] at hi⟩
   ·cases he
  ·cases he
 | cut ar s x lo hi mx=>
  have hxs:∀n∈x.temps,n∈(Op.cut ar s x lo hi mx).temps:=fun n hn=>by simp [Op.temps,hn]
  cases ar with
  | none=>
   simp only [b6] at he ⊢
   split at he
   ·obtain ⟨m,hm,he⟩:=aa.1 he
    obtain ⟨b,hb,he⟩:=aa.1 he;obtain ⟨a,ha,he⟩:=aa.1 he
    split at he
    ·rename_i hcc
     simp only [ab,al] at he;obtain ⟨rfl,rfl⟩:=he;exact ⟨rfl,fun h2 _=>by simp only [hm,hb,ha,ah]; rw [if_pos hcc],fun i hi=>by simp [V.refs] at hi⟩
    ·cases he
   ·rename_i i p off n cap hx
    obtain ⟨q,hq,he⟩:=aa.1 he;obtain ⟨m,hm,he⟩:=aa.1 he;obtain ⟨b,hb,he⟩:=aa.1 he;obtain ⟨a,ha,he⟩:=aa.1 he
    split at he
    ·rename_i hcc
     simp only [ab,al] at he;obtain ⟨rfl,rfl⟩:=he;have hii:=one hx (i:=i) (by simp [V.refs]) hxs
     exact ⟨rfl,fun h2 g=>by simp only [g i hii,hq,hm,hb,ha,ah]; rw [if_pos hcc],fun j hj=>by simp only [V.refs,c7] at hj; subst hj; exact hii⟩
    ·cases he
   ·cases he
  | some n=>
   simp only [b6] at he ⊢
   split at he
   ·rename_i i p hx
    obtain ⟨q,hq,he⟩:=aa.1 he
    split at he
    ·obtain ⟨m,hm,he⟩:=aa.1 he
     obtain ⟨b,hb,he⟩:=aa.1 he;obtain ⟨a,ha,he⟩:=aa.1 he
     split at he
     ·rename_i hcc
      simp only [ab,al] at he;obtain ⟨rfl,rfl⟩:=he;have hii:=one hx (i:=i) (by simp [V.refs]) hxs
      exact ⟨rfl,fun h2 g=>by simp only [g i hii,hq,hm,hb,ha,ah]; rw [if_pos hcc],fun j hj=>by simp only [V.refs,c7] at hj; subst hj; exact hii⟩
     ·cases he
    ·cases he
   ·obtain ⟨m,hm,he⟩:=aa.1 he
    obtain ⟨b,hb,he⟩:=aa.1 he;obtain ⟨a,ha,he⟩:=aa.1 he
    split at he
    ·rename_i hcc
     simp only [ab,al] at he;obtain ⟨rfl,rfl⟩:=he;exact ⟨rfl,fun h2 _=>by simp only [hm,hb,ha,ah]; rw [if_pos hcc],fun i hi=>by simp [V.refs] at hi⟩
    ·cases he
   ·cases he
 | fldA ss x j=>
  simp only [b6] at he ⊢
  split at he
  ·rename_i i p hx
   obtain ⟨d,hd,he⟩:=aa.1 he;have hii:=one hx (i:=i) (ts:=x.temps) (by simp [V.refs]) (fun n hn=>hn)
   split at he
   ·rename_i hs
    simp only [ab,al] at he;obtain ⟨rfl,rfl⟩:=he;exact ⟨rfl,fun h2 g=>by rw [g i hii,hd,ah,if_pos hs],fun j hj=>by simp only [V.refs,c7] at hj; subst hj; exact hii⟩
   ·cases he
  ·split at he
   ·rename_i hs
    obtain ⟨u,hu,e1⟩:=ae.1 he;simp only [al] at e1;obtain ⟨rfl,rfl⟩:=e1;exact ⟨rfl,fun h2 _=>by rw [if_pos hs,hu]; rfl,fun i hi=>by simp [V.refs] at hi⟩
   ·cases he
  ·cases he
 | idxA ar s x j=>
  have hxs:∀n∈x.temps,n∈(Op.idxA ar s x j).temps:=fun n hn=>by simp [Op.temps,hn]
  cases ar with
  | none=>
   simp only [b6] at he ⊢
   split at he
   ·rename_i i p off n cap k hx hk
    obtain ⟨d,hd,he⟩:=aa.1 he;have hii:=one hx (i:=i) (by simp [V.refs]) hxs
    split at he
    ·rename_i hs
     simp only [ab,al] at he;obtain ⟨rfl,rfl⟩:=he;exact ⟨rfl,fun h2 g=>by rw [g i hii,hd,ah,if_pos hs],fun j hj=>by simp only [V.refs,c7] at hj; subst hj; exact hii⟩
    ·cases he
   ·split at he
    ·rename_i hs
     obtain ⟨u,hu,e1⟩:=ae.1 he;simp only [al] at e1;obtain ⟨rfl,rfl⟩:=e1;exact ⟨rfl,fun h2 _=>by rw [if_pos hs,hu]; rfl,fun i hi=>by simp [V.refs] at hi⟩
    ·cases he
   ·cases he
  | some n=>
   simp only [b6] at he ⊢
   split at he
   ·rename_i i p k hx hk
    obtain ⟨d,hd,he⟩:=aa.1 he;have hii:=one hx (i:=i) (by simp [V.refs]) hxs
    split at he
    ·split at he
     ·rename_i hs
      simp only [ab,al] at he;obtain ⟨rfl,rfl⟩:=he;exact ⟨rfl,fun h2 g=>by rw [g i hii,hd]; simp only [ah]; rw [if_pos hs],fun j hj=>by simp only [V.refs,c7] at hj; subst hj; exact hii⟩
     ·cases he
    ·cases he
   ·split at he
    ·rename_i hs
     obtain ⟨u,hu,e1⟩:=ae.1 he;simp only [al] at e1;obtain ⟨rfl,rfl⟩:=e1;exact ⟨rfl,fun h2 _=>by rw [if_pos hs,hu]; rfl,fun i hi=>by simp [V.refs] at hi⟩
    ·cases he
   ·cases he
 | build fz z ps=>
  cases fz with
  | true=>simp [Op.cls] at hc
  | false=>
   simp only [b6] at he ⊢;obtain ⟨xs,hx,he⟩:=aa.1 he;obtain ⟨h1,hf,he'⟩:=aa.1 he;clear he
   have hh:∀h2,freezeIf false h2 (fe e ps)=some h2:=by
    intro h2;unfold freezeIf at hf ⊢;simp only [b5,if_false] at hf ⊢
    split at hf
    ·rename_i hr; rw [if_pos hr]
    ·cases hf
   have heq:h1=h:=au (hf.symm.trans (hh h));rw [heq] at he'
   split at he'
   ·obtain ⟨cs,hcs,e1⟩:=ae.1 he'
    simp only [al] at e1;obtain ⟨rfl,rfl⟩:=e1;exact ⟨rfl,fun h2 g=>by rw [ua g,hx,ah,hh h2,ah]; simp only [hcs,bc],fun i hi=>by simp [V.refs] at hi⟩
   ·obtain ⟨cs,hcs,e1⟩:=ae.1 he'
    simp only [al] at e1;obtain ⟨rfl,rfl⟩:=e1;exact ⟨rfl,fun h2 g=>by rw [ua g,hx,ah,hh h2,ah]; simp only [hcs,bc],fun i hi=>by simp [V.refs] at hi⟩
   ·cases he'
 | call m news f xs=>
  simp only [b6] at he ⊢;obtain ⟨fv,hf,he⟩:=aa.1 he;obtain ⟨g,hg,he⟩:=aa.1 he;obtain ⟨vs,hv,he⟩:=aa.1 he
  have hr:∀i∈V.refss (g.2.1++vs++g.2.2),i∈e.refsOf (Op.call m news f xs).temps:=by
   intro i hi;simp only [zx,bp] at hi;simp only [Op.temps,dw,bp];rcases hi with (hi | hi) | hi
   ·exact .inl (sa hf hg i (.inl hi))
   ·exact .inr (va hv hi)
   ·exact .inl (sa hf hg i (.inr hi))
  cases m with
  | flat=>
   simp only [jy] at he ⊢;obtain ⟨ds,hds,he⟩:=aa.1 he;obtain ⟨ans,hans,he⟩:=aa.1 he;obtain ⟨x,hx,he⟩:=aa.1 he
   split at he
   ·rename_i hfl
    simp only [ab,al] at he;obtain ⟨rfl,rfl⟩:=he;refine ⟨rfl,fun h2 gg=>?_,fun i hi=>by simp [V.refs] at hi⟩
    simp only [hf,hg,hv,ah];rw [rm _ fun i hi=>gg i (hr i hi),hds,ah,hans,ah,hx,ah,if_pos hfl]
   ·cases he
  | plain=>
   simp only [jy] at he ⊢;obtain ⟨ds,hds,he⟩:=aa.1 he;obtain ⟨ans,hans,he⟩:=aa.1 he;obtain ⟨x,hx,he⟩:=aa.1 he
   split at he
   ·rename_i hfl
    simp only [ab,al] at he;obtain ⟨rfl,rfl⟩:=he;refine ⟨rfl,fun h2 gg=>?_,fun i hi=>by simp [V.refs] at hi⟩
    simp only [hf,hg,hv,ah];rw [rm _ fun i hi=>gg i (hr i hi),hds,ah,hans,ah,hx,ah,if_pos hfl]
   ·cases he
  | data=>simp [Op.cls] at hc
  | heap=>simp [Op.cls] at hc
 | box fz i x=>cases fz <;> simp [Op.cls] at hc
 | buildSl fz i s z n ps=>cases fz <;> simp [Op.cls] at hc
 | store fz s x y=>cases fz <;> simp [Op.cls] at hc
 | _=>simp [Op.cls] at hc
theorem sv {h h1:Heap} {is:List Nat} (hf:freezeIf false h is=some h1):is=[]∧h1=h:=by
 unfold freezeIf at hf;simp only [b5,if_false] at hf
 split at hf
 ·rename_i he
  exact ⟨by simpa using he,(au hf).symm⟩
 ·cases hf
theorem xp {e:Env}:∀{ps:List (Nat×Arg)} {i:Nat},i∈fe e ps→i∈e.refsOf (wd ps)
 | [],i,h=>by simp [fe] at h
 | (k,a)::r,i,h=>by
  simp only [fe,bp] at h;simp only [wd,dw,bp];refine h.imp (fun h=>?_) xp
  split at h
  ·rename_i v hv; exact fo hv h
  ·simp at h
theorem O9 {e:Env} {h h2:Heap}:∀{ps:List (Nat×Arg)},fe e ps=[]→kj e h2 ps=kj e h ps
 | [],_=>rfl
 | (k,a)::r,g=>by
  simp only [fe,List.append_eq_nil_iff] at g;simp only [kj];cases ha:e.arg a with
  | none=>rfl
  | some v=>
   have hv:v.refs=[]:=by simpa [ha] using g.1
   simp only [ah];rw [v9 v (h:=h) (h2:=h2) (by simp [hv]),O9 g.2]
theorem ajk {O:am} {np:Nat} {e:Env} {h h':Heap} {p:Op} {v:V} (hc:p.cls=.a) (he:b6 O np e h p=some (v,h')) :
 ∃j b,p.news=[j]∧h[np+j]? = some .hole∧b≠Blk.hole∧h'=h.set (np+j) b∧(∀h2:Heap,h2[np+j]? = some .hole→b6 O np e h2 p=some (v,h2.set (np+j) b))∧∀i∈v.refs,i=np+j:=by
 have put:∀{h2:Heap} {i:Nat} {b:Blk},h2[i]? = some .hole→i8 h2 i b=some (h2.set i b):=fun hh=>by simp [i8,hh]
 cases p with
 | nilOwn i s=>
  simp only [b6] at he ⊢;obtain ⟨h1,hp,e1⟩:=ae.1 he;simp only [al] at e1;obtain ⟨rfl,rfl⟩:=e1;obtain ⟨hi,rfl⟩:=dk hp;exact ⟨i,_,rfl,hi,by simp,rfl,fun h2 hh=>by rw [put hh]; rfl,fun j hj=>by simpa [V.refs] using hj⟩
 | mkSl i s z bytes x y=>
  simp only [b6] at he ⊢
  split at he
  ·split at he
   ·rename_i hcc
    obtain ⟨h1,hp,e1⟩:=ae.1 he;simp only [al] at e1;obtain ⟨rfl,rfl⟩:=e1;obtain ⟨hi,rfl⟩:=dk hp;exact ⟨i,_,rfl,hi,by simp,rfl,fun h2 hh=>by rw [if_pos hcc,put hh]; rfl,fun j hj=>by simpa [V.refs] using hj⟩
   ·cases he
  ·cases he
 | box fz i x=>
  cases fz with
  | true=>simp [Op.cls] at hc
  | false=>
   simp only [b6] at he ⊢;obtain ⟨u,hu,he1⟩:=aa.1 he;obtain ⟨d,hd,he2⟩:=aa.1 he1;obtain ⟨h1,hf,he3⟩:=aa.1 he2;obtain ⟨h2,hp,e1⟩:=ae.1 he3;clear he he1 he2 he3;simp only [al] at e1;obtain ⟨rfl,rfl⟩:=e1;obtain ⟨hr,rfl⟩:=sv hf;obtain ⟨hi,rfl⟩:=dk hp;refine ⟨i,_,rfl,hi,by simp,rfl,fun h2 hh=>?_,fun j hj=>by simpa [V.refs] using hj⟩
   have:B7 h2 u=some d:=by
    unfold B7 at hd ⊢;rw [v9 u (h:=h1) (h2:=h2) (by simp [hr])]; exact hd
   rw [hu,ah,this,ah,hr];simp only [freezeIf,b5,if_false,List.isEmpty_nil,if_true,ah];rw [put hh]; rfl
 | buildSl fz i s z n ps=>
  cases fz with
  | true=>simp [Op.cls] at hc
  | false=>
   simp only [b6] at he ⊢;obtain ⟨xs,hx,he1⟩:=aa.1 he;obtain ⟨cs,hcs,he2⟩:=aa.1 he1;obtain ⟨h1,hf,he3⟩:=aa.1 he2;obtain ⟨h2,hp,e1⟩:=ae.1 he3;clear he he1 he2 he3;simp only [al] at e1;obtain ⟨rfl,rfl⟩:=e1;obtain ⟨hr,rfl⟩:=sv hf;obtain ⟨hi,rfl⟩:=dk hp;refine ⟨i,_,rfl,hi,by simp,rfl,fun h2 hh=>?_,fun j hj=>by simpa [V.refs] using hj⟩
   rw [O9 (h:=h1) (h2:=h2) hr,hx,ah,hcs,ah,hr];simp only [freezeIf,b5,if_false,List.isEmpty_nil,if_true,ah];rw [put hh]; rfl
 | build fz _ _=>cases fz <;> simp [Op.cls] at hc
 | store fz _ _ _=>cases fz <;> simp [Op.cls] at hc
 | call m _ _ _=>cases m <;> simp [Op.cls] at hc
 | _=>simp [Op.cls] at hc
theorem Blk.set_nh {b b':Blk} {p:List Nat} {d:D} (h:b.set p d=some b'):b'≠.hole:=by
 cases b with
 | hole=>simp [Blk.set] at h
 | box fr x=>
  cases fr
  ·simp only [Blk.set] at h
   obtain ⟨y,_,rfl⟩:=ae.1 h;simp
  ·simp [Blk.set] at h
 | sl fr s cs=>
  cases fr
  ·cases p with
   | nil=>simp [Blk.set] at h
   | cons i p=>
    simp only [Blk.set] at h;obtain ⟨c,_,h⟩:=aa.1 h;obtain ⟨y,_,rfl⟩:=ae.1 h;simp
  ·cases p <;> simp [Blk.set] at h
 | mp fr es=>cases p <;> simp [Blk.set] at h
 | gone _ _ _=>simp [Blk.set] at h
 | tb fr s idx rows=>
  cases fr
  ·match p,h with
   | [],h=>simp [Blk.set] at h
   | 0::_,h=>simp [Blk.set] at h
   | [_+1],h=>simp [Blk.set] at h
   | (r+1)::i::p,h=>
    simp only [Blk.set] at h;obtain ⟨_,_,h⟩:=aa.1 h;obtain ⟨_,_,h⟩:=aa.1 h;obtain ⟨_,_,rfl⟩:=ae.1 h;simp
  ·match p,h with
   | [],h=>simp [Blk.set] at h
   | [_],h=>simp [Blk.set] at h
   | _::_::_,h=>simp [Blk.set] at h
theorem ah6 {O:am} {np:Nat} {e:Env} {h h':Heap} {p:Op} {v:V} (hc:p.cls=.s) (he:b6 O np e h p=some (v,h')) :
 ∃i b,i∈e.refsOf p.temps∧b≠Blk.hole∧h'=h.set i b∧(∀h2:Heap,(∀i∈e.refsOf p.temps,h2[i]? = h[i]?)→b6 O np e h2 p=some (v,h2.set i b))∧v.refs=[]:=by
 cases p with
 | tbStore x y=>
  simp only [b6] at he ⊢
  split at he
  ·rename_i i k i' r n cap hx hy
   split at he
   ·rename_i sh idx rows hB
    split at he
    ·rename_i hcc
     simp only [ab,al] at he;obtain ⟨rfl,rfl⟩:=he
     have hin:i∈e.refsOf (Op.tbStore x y).temps:=by
      simp only [Op.temps,dw,bp];exact .inl (fo hx (by simp [V.refs]))
     exact ⟨i,_,hin,by simp,rfl,fun h2 g=>by simp only [g i hin,hB]; rw [if_pos hcc],by simp [V.refs,V.refss]⟩
    ·cases he
   ·cases he
  ·cases he
 | store fz s x y=>
  cases fz with
  | true=>simp [Op.cls] at hc
  | false=>
   simp only [b6] at he ⊢;obtain ⟨u,hu,he1⟩:=aa.1 he;obtain ⟨d,hd,he2⟩:=aa.1 he1;obtain ⟨h1,hf,he3⟩:=aa.1 he2;clear he he1 he2;obtain ⟨hr,rfl⟩:=sv hf
   split at he3
   ·rename_i i p hp
    split at he3
    ·rename_i hs
     obtain ⟨b,hb,he4⟩:=aa.1 he3;obtain ⟨b',hb',e1⟩:=ae.1 he4;simp only [al] at e1;obtain ⟨rfl,rfl⟩:=e1
     have hi:i∈e.refsOf (Op.store false s x y).temps:=by
      simp only [Op.temps,dw,bp];exact .inl (fo hp (by simp [V.refs]))
     refine ⟨i,b',hi,Blk.set_nh hb',rfl,fun h2 g=>?_,by simp [V.refs,V.refss]⟩
     have hd2:B7 h2 u=some d:=by
      unfold B7 at hd ⊢;rw [v9 u (h:=h1) (h2:=h2) (by simp [hr])]; exact hd
     rw [hu,ah,hd2,ah,hr];simp only [freezeIf,b5,if_false,List.isEmpty_nil,if_true,ah];rw [g i hi,hb,ah,hb',if_pos hs]; rfl
    ·cases he3
   ·cases he3
 | box fz _ _=>cases fz <;> simp [Op.cls] at hc
 | buildSl fz _ _ _ _ _=>cases fz <;> simp [Op.cls] at hc
 | build fz _ _=>cases fz <;> simp [Op.cls] at hc
 | call m _ _ _=>cases m <;> simp [Op.cls] at hc
 | _=>simp [Op.cls] at hc
def Laid (h:Heap) (i:Nat):Prop:=∃B:Blk,h[i]? = some B∧B≠.hole
theorem Laid.set {h:Heap} {i j:Nat} {b:Blk} (hb:b≠.hole) (g:Laid h i):Laid (h.set j b) i:=by
 obtain ⟨B,hB,hn⟩:=g
 by_cases hij:j=i
 ·subst hij
  exact ⟨b,b4 (ao.1 hB).1,hb⟩
 ·exact ⟨B,by rw [b7 hij]; exact hB,hn⟩
theorem Laid.new {h:Heap} {j:Nat} {b:Blk} (hb:b≠.hole) (g:h[j]? = some .hole):Laid (h.set j b) j:=
 ⟨b,b4 (ao.1 g).1,hb⟩
theorem Laid.freeze {h:Heap} {i:Nat} (is:List Nat) (g:Laid h i):Laid (freeze h is) i:=by
 obtain ⟨B,hB,hn⟩:=g
 by_cases hi:i∈is
 ·exact ⟨B.freeze,by rw [jo,if_pos hi,hB]; rfl,fun e=>hn (Blk.freeze_hole e)⟩
 ·exact ⟨B,by rw [jo,if_neg hi]; exact hB,hn⟩
theorem Laid.freezeIf {h h1:Heap} {i:Nat} {fz:Bool} {is:List Nat} (hf:freezeIf fz h is=some h1) (g:Laid h i):Laid h1 i:=by
 cases fz with
 | false=>rw [(sv hf).2]; exact g
 | true=>
  simp only [Pe.freezeIf,if_true,ab] at hf;subst hf; exact g.freeze is
theorem Mu:∀{is:List Nat} {bs:Heap} {h h':Heap},h.put is bs=some h'→∀i,Laid h i→Laid h' i
 | [],[],h,h',e,i,g=>by simp only [Heap.put,ab] at e; subst e; exact g
 | j::is,b::bs,h,h',e,i,g=>by
  simp only [Heap.put] at e
  split at e
  ·cases e
  ·rename_i hb
   exact Mu e i (g.set (by rintro rfl; simp [Blk.isHole] at hb))
 | [],_::_,_,_,e,_,_=>by simp [Heap.put] at e
 | _::_,[],_,_,e,_,_=>by simp [Heap.put] at e
theorem zb:∀{is:List Nat} {bs:Heap} {h h':Heap},putNews h is bs=some h'→bs.length≤is.length∧(∀i,Laid h i→Laid h' i)∧∀(k j:Nat),k<bs.length→is[k]? = some j→Laid h' j
 | is,[],h,h',e=>by
  cases is <;> simp only [putNews,ab] at e <;> subst e <;> exact ⟨by simp,fun _ g=>g,fun k j hk=>by simp at hk⟩
 | j::is,b::bs,h,h',e=>by
  simp only [putNews] at e
  split at e
  ·cases e
  ·rename_i hb
   have hb':b≠.hole:=by rintro rfl; simp [Blk.isHole] at hb
   obtain ⟨h0,e0,e⟩:=aa.1 e;obtain ⟨hj,rfl⟩:=dk e0;obtain ⟨h1,h2,h3⟩:=zb e;refine ⟨by simpa using h1,fun i g=>h2 i (g.set hb'),fun k i hk hi=>?_⟩
   cases k with
   | zero=>
    simp only [ct,ab] at hi;subst hi;exact h2 _ (.new hb' hj)
   | succ k=>exact h3 k i (by simpa using hk) (by simpa using hi)
 | [],_::_,_,_,e=>by simp [putNews] at e
theorem Oa {O:am} {np:Nat} {e:Env} {h h':Heap} {p:Op} {v:V} (hc:p.cls=.x∨p.cls=.w) (he:b6 O np e h p=some (v,h')) (hp:∀i∈e.refsOf p.temps,Laid h i) :
 (∀i,Laid h i→Laid h' i)∧∀i∈v.refs,Laid h' i:=by
 cases p with
 | box fz i x=>
  simp only [b6] at he;obtain ⟨u,hu,he⟩:=aa.1 he;obtain ⟨d,hd,he⟩:=aa.1 he;obtain ⟨h1,hf,he⟩:=aa.1 he;obtain ⟨h2,hpb,e1⟩:=ae.1 he;simp only [al] at e1;obtain ⟨rfl,rfl⟩:=e1;obtain ⟨hi,rfl⟩:=dk hpb;refine ⟨fun _ g=>(g.freezeIf hf).set (by simp),fun j hj=>?_⟩
  simp only [V.refs,c7] at hj;subst hj;exact .new (by simp) hi
 | build fz z ps=>
  simp only [b6] at he;obtain ⟨xs,hx,he⟩:=aa.1 he;obtain ⟨h1,hf,he⟩:=aa.1 he
  split at he
  ·obtain ⟨cs,hcs,e1⟩:=ae.1 he
   simp only [al] at e1;obtain ⟨rfl,rfl⟩:=e1;exact ⟨fun _ g=>g.freezeIf hf,fun j hj=>by simp [V.refs] at hj⟩
  ·obtain ⟨cs,hcs,e1⟩:=ae.1 he
   simp only [al] at e1;obtain ⟨rfl,rfl⟩:=e1;exact ⟨fun _ g=>g.freezeIf hf,fun j hj=>by simp [V.refs] at hj⟩
  ·cases he
 | buildSl fz i s z n ps=>
  simp only [b6] at he;obtain ⟨xs,hx,he⟩:=aa.1 he;obtain ⟨cs,hcs,he⟩:=aa.1 he;obtain ⟨h1,hf,he⟩:=aa.1 he;obtain ⟨h2,hpb,e1⟩:=ae.1 he;simp only [al] at e1;obtain ⟨rfl,rfl⟩:=e1;obtain ⟨hi,rfl⟩:=dk hpb;refine ⟨fun _ g=>(g.freezeIf hf).set (by simp),fun j hj=>?_⟩
  simp only [V.refs,c7] at hj;subst hj;exact .new (by simp) hi
 | store fz s x y=>
  simp only [b6] at he;obtain ⟨u,hu,he⟩:=aa.1 he;obtain ⟨d,hd,he⟩:=aa.1 he;obtain ⟨h1,hf,he⟩:=aa.1 he
  split at he
  ·split at he
   ·obtain ⟨b,hb,he⟩:=aa.1 he
    obtain ⟨b',hb',e1⟩:=ae.1 he;simp only [al] at e1;obtain ⟨rfl,rfl⟩:=e1;exact ⟨fun _ g=>(g.freezeIf hf).set (Blk.set_nh hb'),fun j hj=>by simp [V.refs,V.refss] at hj⟩
   ·cases he
  ·cases he
 | append s i bytes x y=>
  simp only [b6] at he;obtain ⟨w,hw,he⟩:=aa.1 he;obtain ⟨d,hd,he⟩:=aa.1 he
  split at he
  ·rename_i sh1 ys j off n cap hxe
   split at he
   ·rename_i fr sh2 cs hB
    split at he
    ·split at he
     ·simp only [ab,al] at he
      obtain ⟨rfl,rfl⟩:=he;refine ⟨fun _ g=>g.set (by simp),fun k hk=>?_⟩
      simp only [V.refs,c7] at hk;subst hk;exact Laid.set (by simp) ⟨_,hB,by simp⟩
     ·split at he
      ·obtain ⟨h2,hpb,e1⟩:=ae.1 he
       simp only [al] at e1;obtain ⟨rfl,rfl⟩:=e1;obtain ⟨hi,rfl⟩:=dk hpb;refine ⟨fun _ g=>g.set (by simp),fun k hk=>?_⟩
       simp only [V.refs,c7] at hk;subst hk;exact .new (by simp) hi
      ·cases he
    ·cases he
   ·cases he
  ·split at he
   ·obtain ⟨h2,hpb,e1⟩:=ae.1 he
    simp only [al] at e1;obtain ⟨rfl,rfl⟩:=e1;obtain ⟨hi,rfl⟩:=dk hpb;refine ⟨fun _ g=>g.set (by simp),fun k hk=>?_⟩
    simp only [V.refs,c7] at hk;subst hk;exact .new (by simp) hi
   ·cases he
  ·cases he
 | copy s x y=>
  simp only [b6] at he;obtain ⟨w,hw,he⟩:=aa.1 he;obtain ⟨d,hd,he⟩:=aa.1 he
  split at he
  ·split at he
   ·split at he
    ·simp only [ab,al] at he
     obtain ⟨rfl,rfl⟩:=he;exact ⟨fun _ g=>g.set (by simp),fun k hk=>by simp [V.refs] at hk⟩
    ·cases he
   ·cases he
  ·cases he
 | call m news f xs=>
  simp only [b6] at he;obtain ⟨fv,hf,he⟩:=aa.1 he;obtain ⟨g,hg,he⟩:=aa.1 he;obtain ⟨vs,hv,he⟩:=aa.1 he
  have hr:∀i∈V.refss (g.2.1++vs++g.2.2),Laid h i:=by
   intro i hi;apply hp;simp only [zx,bp] at hi;simp only [Op.temps,dw,bp];rcases hi with (hi | hi) | hi
   ·exact .inl (sa hf hg i (.inl hi))
   ·exact .inr (va hv hi)
   ·exact .inl (sa hf hg i (.inr hi))
  cases m with
  | flat=>simp [Op.cls] at hc
  | plain=>simp [Op.cls] at hc
  | data=>
   simp only [jy] at he;obtain ⟨ds,hds,he⟩:=aa.1 he;obtain ⟨ans,hans,he⟩:=aa.1 he;obtain ⟨x,hx,he⟩:=aa.1 he;simp only [ab,al] at he;obtain ⟨rfl,rfl⟩:=he;exact ⟨fun _ g=>g.freeze _,fun k hk=>by simp [V.refs] at hk⟩
  | heap=>
   simp only [oq] at he;generalize (news.map (np + ·)).filter (!(t7 (V.refss (g.2.1++vs++g.2.2))).contains ·)=at_ at he
   obtain ⟨bs,hbs,he⟩:=aa.1 he;obtain ⟨ans,hans,he⟩:=aa.1 he;obtain ⟨h1,hh1,he⟩:=aa.1 he;obtain ⟨h2,hh2,he⟩:=aa.1 he
   split at he
   case isFalse=>cases he
   rename_i hall
   simp only [ab,al] at he;obtain ⟨rfl,rfl⟩:=he;obtain ⟨n1,n2,n3⟩:=zb hh2;refine ⟨fun i g=>n2 i (Mu hh1 i g),fun i hi=>?_⟩
   rw [V.ren_refs,cn] at hi;obtain ⟨k,hk,rfl⟩:=hi;have hkl:=df.1 hall k hk;simp only [decide_eq_true_eq] at hkl
   by_cases h0:k<(t7 (V.refss (g.2.1++vs++g.2.2))).length
   ·rw [if_pos h0]
    have hm:(t7 (V.refss (g.2.1++vs++g.2.2))).getD k 0∈t7 (V.refss (g.2.1++vs++g.2.2)):=by
     rw [List.getD_eq_getElem?_getD,ac h0]; exact az h0
    exact n2 _ (Mu hh1 _ (hr _ (Aq.1 hm)))
   ·rw [if_neg h0]
    have h2:k-(t7 (V.refss (g.2.1++vs++g.2.2))).length<ans.2.2.length:=by omega
    refine n3 _ _ h2 ?_;rw [List.getD_eq_getElem?_getD,ac (by omega)]
    rfl
 | toStr x=>
  simp only [b6] at he;obtain ⟨w,hw,he⟩:=aa.1 he;obtain ⟨d,hd,he⟩:=aa.1 he
  split at he
  ·obtain ⟨bs,hb,e1⟩:=ae.1 he
   simp only [al] at e1;obtain ⟨rfl,rfl⟩:=e1;exact ⟨fun _ g=>g,fun i hi=>by simp [V.refs] at hi⟩
  ·cases he
 | clear s z x=>
  simp only [b6] at he
  split at he
  ·split at he
   ·split at he
    ·simp only [ab,al] at he
     obtain ⟨rfl,rfl⟩:=he;exact ⟨fun _ g=>g.set (by simp),fun i hi=>by simp [V.refs,V.refss] at hi⟩
    ·cases he
   ·cases he
  ·cases he
 | tbOne i x=>
  simp only [b6] at he
  split at he
  ·split at he
   ·split at he
    ·obtain ⟨h2,hpb,e1⟩:=ae.1 he
     simp only [al] at e1;obtain ⟨rfl,rfl⟩:=e1;obtain ⟨hi,rfl⟩:=dk hpb;refine ⟨fun _ g=>(g.set (by simp [Blk.toGone])).set (by simp),fun j hj=>?_⟩
     simp only [V.refs,c7] at hj;subst hj;exact .new (by simp) hi
    ·cases he
   ·cases he
  ·cases he
 | tbApp bytes x y=>
  simp only [b6] at he
  split at he
  ·rename_i j p n cap k cap' hx hy
   split at he
   ·obtain ⟨q,hq,he⟩:=aa.1 he
    split at he
    ·simp only [ab,al] at he
     obtain ⟨rfl,rfl⟩:=he;refine ⟨fun _ g=>(g.set (by simp [Blk.toGone])).set (by simp),fun i hi=>?_⟩
     simp only [V.refs,c7] at hi;subst hi;refine ((hp i ?_).set (by simp [Blk.toGone])).set (by simp)
     simp only [Op.temps,dw,bp];exact .inl (fo hx (by simp [V.refs]))
    ·cases he
   ·cases he
  ·cases he
 | mkMap i=>
  simp only [b6] at he;obtain ⟨h2,hpb,e1⟩:=ae.1 he;simp only [al] at e1;obtain ⟨rfl,rfl⟩:=e1;obtain ⟨hi,rfl⟩:=dk hpb;refine ⟨fun _ g=>g.set (by simp),fun j hj=>?_⟩
  simp only [V.refs,c7] at hj;subst hj;exact .new (by simp) hi
 | mapGet str x k=>
  simp only [b6] at he
  split at he
  ·split at he
   ·split at he
    ·simp only [ab,al] at he
     obtain ⟨rfl,rfl⟩:=he;exact ⟨fun _ g=>g,fun i hi=>by simp [V.refs] at hi⟩
    ·cases he
   ·cases he
  ·cases he
 | mapOk str x k=>
  simp only [b6] at he
  split at he
  ·split at he
   ·split at he
    ·simp only [ab,al] at he
     obtain ⟨rfl,rfl⟩:=he;exact ⟨fun _ g=>g,fun i hi=>by simp [V.refs] at hi⟩
    ·cases he
   ·cases he
  ·cases he
 | mapSet str x k y=>
  simp only [b6] at he
  split at he
  ·split at he
   ·split at he
    ·simp only [ab,al] at he
     obtain ⟨rfl,rfl⟩:=he;exact ⟨fun _ g=>g.set (by simp),fun i hi=>by simp [V.refs,V.refss] at hi⟩
    ·cases he
   ·cases he
  ·cases he
 | _=>simp [Op.cls] at hc
theorem aa8 {O:am} {np:Nat} {e:Env} {h h':Heap} {p:Op} {v:V} (he:b6 O np e h p=some (v,h')) (hp:∀i∈e.refsOf p.temps,Laid h i) :
 (∀i,Laid h i→Laid h' i)∧∀i∈v.refs,Laid h' i:=by
 cases hc:p.cls with
 | z=>
  obtain ⟨rfl,_,h3⟩:=ahh hc he;exact ⟨fun _ g=>g,fun i hi=>hp i (h3 i hi)⟩
 | r=>
  obtain ⟨rfl,_,h3⟩:=ajp hc he;exact ⟨fun _ g=>g,fun i hi=>hp i (h3 i hi)⟩
 | a=>
  obtain ⟨j,b,_,hj,hb,rfl,_,h3⟩:=ajk hc he;exact ⟨fun _ g=>g.set hb,fun i hi=>by rw [h3 i hi]; exact .new hb hj⟩
 | s=>
  obtain ⟨j,b,_,hb,rfl,_,h3⟩:=ah6 hc he;exact ⟨fun _ g=>g.set hb,fun i hi=>by rw [h3] at hi; simp at hi⟩
 | w=>exact Oa (.inr hc) he hp
 | x=>exact Oa (.inl hc) he hp
structure Par (W:List Nat) (h h2 g g2:Heap):Prop where
 on:∀i∈W,g2[i]? = g[i]?
 off1:∀i,i ∉ W→g[i]? = h[i]?
 off2:∀i,i ∉ W→g2[i]? = h2[i]?
 len:g.length=h.length
theorem Par.start {W:List Nat} {h h2:Heap} (a:∀i∈W,h2[i]? = h[i]?):Par W h h2 h h2:=⟨a,fun _ _=>rfl,fun _ _=>rfl,rfl⟩
theorem Jt:∀(is:List Nat) (h:Heap),(freeze h is).length=h.length
 | [],_=>rfl
 | i::is,h=>by
  unfold freeze;rw [Jt is,List.length_modify]
theorem Par.freeze {W is:List Nat} {h h2 g g2:Heap} (p:Par W h h2 g g2) (hs:∀i∈is,i∈W):Par W h h2 (Pe.freeze g is) (Pe.freeze g2 is) where
 on i hi:=by rw [jo,jo,p.on i hi]
 off1 i hi:=by rw [jo,if_neg fun k=>hi (hs i k),p.off1 i hi]
 off2 i hi:=by rw [jo,if_neg fun k=>hi (hs i k),p.off2 i hi]
 len:=(Jt is g).trans p.len
theorem O5 {g g2:Heap} {j:Nat} (h:g2[j]? = g[j]?):j<g2.length↔j<g.length:=by
 have h1:=List.getElem?_eq_none_iff (l:=g) (i:=j);have h2:=List.getElem?_eq_none_iff (l:=g2) (i:=j);rw [h] at h2;have h3:=h1.symm.trans h2;omega
theorem Par.set {W:List Nat} {h h2 g g2:Heap} (p:Par W h h2 g g2) {j:Nat} (hj:j∈W) (b:Blk):Par W h h2 (g.set j b) (g2.set j b) where
 on i hi:=by
  by_cases hij:j=i
  ·subst hij
   have hl:=O5 (p.on j hj)
   by_cases hk:j<g.length
   ·rw [b4 hk,b4 (hl.2 hk)]
   ·rw [bq (by rw [bx]; omega),bq (by rw [bx]; omega)]
  ·rw [b7 hij,b7 hij,p.on i hi]
 off1 i hi:=by rw [b7 (by rintro rfl; exact hi hj),p.off1 i hi]
 off2 i hi:=by rw [b7 (by rintro rfl; exact hi hj),p.off2 i hi]
 len:=by rw [bx,p.len]
theorem sd {g:Heap} {i:Nat} {b:Blk} (hh:g[i]? = some .hole):i8 g i b=some (g.set i b):=by simp [i8,hh]
theorem Par.put {W:List Nat} {h h2:Heap}:∀{is:List Nat} {bs g g2 g1:Heap},Par W h h2 g g2→(∀i∈is,i∈W)→g.put is bs=some g1→∃g3,g2.put is bs=some g3∧Par W h h2 g1 g3
 | [],[],g,g2,g1,p,_,e=>by
  simp only [Heap.put,ab] at e ⊢;subst e;exact ⟨_,rfl,p⟩
 | i::is,b::bs,g,g2,g1,p,hs,e=>by
  simp only [Heap.put] at e ⊢
  split at e
  ·cases e
  ·rename_i hb
   rw [if_neg hb];exact Par.put (p.set (hs i (by simp)) b) (fun j hj=>hs j (by simp [hj])) e
 | [],_::_,_,_,_,_,_,e=>by simp [Heap.put] at e
 | _::_,[],_,_,_,_,_,e=>by simp [Heap.put] at e
theorem Par.putNews {W:List Nat} {h h2:Heap}:∀{is:List Nat} {bs g g2 g1:Heap},Par W h h2 g g2→(∀i∈is.take bs.length,i∈W)→putNews g is bs=some g1→∃g3,putNews g2 is bs=some g3∧Par W h h2 g1 g3
 | is,[],g,g2,g1,p,_,e=>by
  cases is <;> simp only [Pe.putNews,ab] at e ⊢ <;> subst e <;> exact ⟨_,rfl,p⟩
 | i::is,b::bs,g,g2,g1,p,hs,e=>by
  simp only [Pe.putNews] at e ⊢
  split at e
  ·cases e
  ·rename_i hb
   rw [if_neg hb];obtain ⟨g0,e0,e⟩:=aa.1 e;obtain ⟨hj,rfl⟩:=dk e0;have hi:i∈W:=hs i (by simp)
   rw [sd ((p.on i hi).trans hj),ah];exact Par.putNews (p.set hi b) (fun j hj=>hs j (by simp [hj])) e
 | [],_::_,_,_,_,_,_,e=>by simp [Pe.putNews] at e
theorem Md {g:Heap} {i j:Nat} {b:Blk} (hb:b≠.hole) (h:(g.set i b)[j]? = some .hole):g[j]? = some .hole:=by
 by_cases hij:i=j
 ·subst hij
  have hl:i<g.length:=by
   have:=(ao.1 h).1
   rwa [bx] at this
  rw [b4 hl] at h;exact absurd (au h) hb
 ·rwa [b7 hij] at h
theorem Um:∀{is:List Nat} {bs g g1:Heap},g.put is bs=some g1→∀j:Nat,g1[j]? = some Blk.hole→g[j]? = some Blk.hole
 | [],[],g,g1,e,j,h=>by simp only [Heap.put,ab] at e; subst e; exact h
 | i::is,b::bs,g,g1,e,j,h=>by
  simp only [Heap.put] at e
  split at e
  ·cases e
  ·rename_i hb
   exact Md (by rintro rfl; simp [Blk.isHole] at hb) (Um e j h)
 | [],_::_,_,_,e,_,_=>by simp [Heap.put] at e
 | _::_,[],_,_,e,_,_=>by simp [Heap.put] at e
theorem G9:∀{is:List Nat} {bs g g1:Heap},putNews g is bs=some g1→∀j∈is.take bs.length,g[j]? = some Blk.hole
 | is,[],_,_,_,j,h=>by simp at h
 | i::is,b::bs,g,g1,e,j,h=>by
  simp only [putNews] at e
  split at e
  ·cases e
  ·rename_i hb
   obtain ⟨g0,e0,e⟩:=aa.1 e;obtain ⟨hi,rfl⟩:=dk e0;rw [bv,jf] at h;rcases dp.1 h with rfl | h
   ·exact hi
   ·exact Md (by rintro rfl; simp [Blk.isHole] at hb) (G9 e j h)
 | [],_::_,_,_,e,_,_=>by simp [putNews] at e
theorem Hj {h:Heap} {is:List Nat} {j:Nat} (g:(freeze h is)[j]? = some .hole):h[j]? = some .hole:=by
 rw [jo] at g
 split at g
 ·obtain ⟨B,hB,e⟩:=ae.1 g
  rw [hB,Blk.freeze_hole e]
 ·exact g
theorem Mw {h h2:Heap}:∀{is:List Nat},(∀i∈is,h2[i]? = h[i]?)→h2.pick is=h.pick is
 | [],_=>rfl
 | i::is,a=>by
  simp only [Heap.pick];rw [a i (by simp),Mw fun j hj=>a j (by simp [hj])]
theorem tz {h h1:Heap} {is:List Nat} (hf:freezeIf true h is=some h1):h1=freeze h is:=by
 simp only [freezeIf,if_true,ab] at hf;exact hf.symm
theorem M4 {h h2:Heap} (u:V) (g:∀i∈u.refs,h2[i]? = h[i]?):B7 h2 u=B7 h u:=by
 unfold B7;rw [v9 u g]
theorem ani {O:am} {np:Nat} {e:Env} {h h':Heap} {p:Op} {v:V} (hc:p.cls=.w) (he:b6 O np e h p=some (v,h')) :
 ∃N:List Nat,(∀i∈N,h[i]? = some .hole∧Laid h' i)∧∀h2:Heap,(∀i∈e.refsOf p.temps++N,h2[i]? = h[i]?)→∃h3,b6 O np e h2 p=some (v,h3)∧Par (e.refsOf p.temps++N) h h2 h' h3:=by
 cases p with
 | box fz i x=>
  cases fz with
  | false=>simp [Op.cls] at hc
  | true=>
   simp only [b6] at he ⊢;obtain ⟨u,hu,he1⟩:=aa.1 he;obtain ⟨d,hd,he2⟩:=aa.1 he1;obtain ⟨h1,hf,he3⟩:=aa.1 he2;obtain ⟨g,hp,e1⟩:=ae.1 he3;clear he he1 he2 he3;simp only [al] at e1;obtain ⟨rfl,rfl⟩:=e1;obtain rfl:=tz hf;obtain ⟨hi,rfl⟩:=dk hp;refine ⟨[np+i],fun j hj=>?_,fun h2 a=>?_⟩
   ·obtain rfl:=c7.1 hj
    exact ⟨Hj hi,.new (by simp) hi⟩
   ·have hs:∀j∈u.refs,j∈e.refsOf (Op.box true i x).temps++[np+i]:=fun j hj=>cd _ (fo hu hj)
    have hn:np+i∈e.refsOf (Op.box true i x).temps++[np+i]:=by simp
    have p1:=(Par.start a).freeze hs;refine ⟨_,?_,p1.set hn _⟩;rw [hu,ah,M4 u fun j hj=>a j (hs j hj),hd,ah]
    simp only [freezeIf,if_true,ah];rw [sd ((p1.on _ hn).trans hi),bc]
 | build fz z ps=>
  cases fz with
  | false=>simp [Op.cls] at hc
  | true=>
   simp only [b6] at he ⊢;obtain ⟨xs,hx,he1⟩:=aa.1 he;obtain ⟨h1,hf,he2⟩:=aa.1 he1;clear he he1;obtain rfl:=tz hf;refine ⟨[],by simp,fun h2 a=>?_⟩
   have hs:∀j∈fe e ps,j∈e.refsOf (Op.build true z ps).temps++[]:=fun j hj=>cd _ (xp hj)
   have p1:=(Par.start a).freeze hs
   have hpc:kj e h2 ps=some xs:=by
    rw [ua fun j hj=>a j (cd _ hj)]; exact hx
   split at he2
   ·obtain ⟨cs,hcs,e1⟩:=ae.1 he2
    simp only [al] at e1;obtain ⟨rfl,rfl⟩:=e1;refine ⟨_,?_,p1⟩;rw [hpc];simp only [freezeIf,if_true,ah,hcs,bc]
   ·obtain ⟨cs,hcs,e1⟩:=ae.1 he2
    simp only [al] at e1;obtain ⟨rfl,rfl⟩:=e1;refine ⟨_,?_,p1⟩;rw [hpc];simp only [freezeIf,if_true,ah,hcs,bc]
   ·cases he2
 | buildSl fz i s z n ps=>
  cases fz with
  | false=>simp [Op.cls] at hc
  | true=>
   simp only [b6] at he ⊢;obtain ⟨xs,hx,he1⟩:=aa.1 he;obtain ⟨cs,hcs,he2⟩:=aa.1 he1;obtain ⟨h1,hf,he3⟩:=aa.1 he2;obtain ⟨g,hp,e1⟩:=ae.1 he3;clear he he1 he2 he3;simp only [al] at e1;obtain ⟨rfl,rfl⟩:=e1;obtain rfl:=tz hf;obtain ⟨hi,rfl⟩:=dk hp;refine ⟨[np+i],fun j hj=>?_,fun h2 a=>?_⟩
   ·obtain rfl:=c7.1 hj
    exact ⟨Hj hi,.new (by simp) hi⟩
   ·have hs:∀j∈fe e ps,j∈e.refsOf (Op.buildSl true i s z n ps).temps++[np+i]:=fun j hj=>cd _ (xp hj)
    have hn:np+i∈e.refsOf (Op.buildSl true i s z n ps).temps++[np+i]:=by simp
    have p1:=(Par.start a).freeze hs
    have hpc:kj e h2 ps=some xs:=by
     rw [ua fun j hj=>a j (cd _ hj)]; exact hx
    refine ⟨_,?_,p1.set hn _⟩;rw [hpc,ah,hcs,ah];simp only [freezeIf,if_true,ah];rw [sd ((p1.on _ hn).trans hi),bc]
 | store fz s x y=>
  cases fz with
  | false=>simp [Op.cls] at hc
  | true=>
   simp only [b6] at he ⊢;obtain ⟨u,hu,he1⟩:=aa.1 he;obtain ⟨d,hd,he2⟩:=aa.1 he1;obtain ⟨h1,hf,he3⟩:=aa.1 he2;clear he he1 he2;obtain rfl:=tz hf;refine ⟨[],by simp,fun h2 a=>?_⟩
   have hs:∀j∈u.refs,j∈e.refsOf (Op.store true s x y).temps++[]:=fun j hj=>cd _ (by
    simp only [Op.temps,dw,bp]; exact .inr (fo hu hj))
   have p1:=(Par.start a).freeze hs
   split at he3
   ·rename_i i p hp
    split at he3
    ·rename_i hss
     obtain ⟨b,hb,he4⟩:=aa.1 he3;obtain ⟨b',hb',e1⟩:=ae.1 he4;simp only [al] at e1;obtain ⟨rfl,rfl⟩:=e1
     have hi:i∈e.refsOf (Op.store true s x y).temps++[]:=cd _ (by
      simp only [Op.temps,dw,bp]; exact .inl (fo hp (by simp [V.refs])))
     refine ⟨_,?_,p1.set hi _⟩;rw [hu,ah,M4 u fun j hj=>a j (hs j hj),hd,ah]
     simp only [freezeIf,if_true,ah];rw [if_pos hss,p1.on i hi,hb,ah,hb',bc]
    ·cases he3
   ·cases he3
 | copy s x y=>
  simp only [b6] at he ⊢;obtain ⟨w,hw,he1⟩:=aa.1 he;obtain ⟨d,hd,he2⟩:=aa.1 he1;clear he he1;refine ⟨[],by simp,fun h2 a=>?_⟩
  have hs:∀j∈w.refs,j∈e.refsOf (Op.copy s x y).temps++[]:=fun j hj=>cd _ (by
   simp only [Op.temps,dw,bp]; exact .inr (fo hw hj))
  have hd2:toE h2 w=some d:=by rw [Bn w fun j hj=>a j (hs j hj)]; exact hd
  split at he2
  ·rename_i t ys j off n cap hx
   have hj:j∈e.refsOf (Op.copy s x y).temps++[]:=cd _ (by
    simp only [Op.temps,dw,bp]; exact .inl (fo hx (by simp [V.refs])))
   split at he2
   ·rename_i t' cs hB
    split at he2
    ·rename_i hcc
     simp only [ab,al] at he2;obtain ⟨rfl,rfl⟩:=he2;refine ⟨_,?_,(Par.start a).set hj _⟩;rw [hw,ah,hd2,ah];simp only [hx,a j hj,hB];rw [if_pos hcc]
    ·cases he2
   ·cases he2
  ·cases he2
 | call m news f xs=>
  simp only [b6] at he ⊢;obtain ⟨fv,hf,he1⟩:=aa.1 he;obtain ⟨g,hg,he2⟩:=aa.1 he1;obtain ⟨vs,hv,he3⟩:=aa.1 he2;clear he he1 he2
  have hr:∀i∈V.refss (g.2.1++vs++g.2.2),i∈e.refsOf (Op.call m news f xs).temps:=by
   intro i hi;simp only [zx,bp] at hi;simp only [Op.temps,dw,bp];rcases hi with (hi | hi) | hi
   ·exact .inl (sa hf hg i (.inl hi))
   ·exact .inr (va hv hi)
   ·exact .inl (sa hf hg i (.inr hi))
  cases m with
  | flat=>simp [Op.cls] at hc
  | plain=>simp [Op.cls] at hc
  | data=>
   simp only [jy] at he3 ⊢;obtain ⟨ds,hds,he4⟩:=aa.1 he3;obtain ⟨ans,hans,he5⟩:=aa.1 he4;obtain ⟨x,hx,he6⟩:=aa.1 he5;clear he3 he4 he5;simp only [ab,al] at he6;obtain ⟨rfl,rfl⟩:=he6;refine ⟨[],by simp,fun h2 a=>?_⟩
   have hs:∀i∈V.refss (g.2.1++vs++g.2.2),i∈e.refsOf (Op.call Mode.data news f xs).temps++[]:=fun i hi=>cd _ (hr i hi)
   refine ⟨_,?_,(Par.start a).freeze hs⟩;simp only [hf,hg,hv,ah];rw [rm _ fun i hi=>a i (hs i hi),hds,ah,hans,ah,hx,ah]
  | heap=>
   simp only [oq] at he3 ⊢;generalize hat:(news.map (np + ·)).filter (!(t7 (V.refss (g.2.1++vs++g.2.2))).contains ·)=at_ at he3
   obtain ⟨bs,hbs,he4⟩:=aa.1 he3;obtain ⟨ans,hans,he5⟩:=aa.1 he4;obtain ⟨h1,hh1,he6⟩:=aa.1 he5;obtain ⟨h2',hh2,he7⟩:=aa.1 he6;clear he3 he4 he5 he6
   split at he7
   case isFalse=>cases he7
   rename_i hall
   simp only [ab,al] at he7;obtain ⟨rfl,rfl⟩:=he7;obtain ⟨n1,n2,n3⟩:=zb hh2;refine ⟨at_.take ans.2.2.length,fun j hj=>⟨Um hh1 j (G9 hh2 j hj),?_⟩,fun h2 a=>?_⟩
   ·obtain ⟨k,hk,e1⟩:=je hj
    have hk':k<ans.2.2.length:=by rw [b8] at hk; omega
    refine n3 k j hk' ?_;rw [ki] at e1;rw [←e1];exact ac (by rw [b8] at hk; omega)
   ·have hs:∀i∈t7 (V.refss (g.2.1++vs++g.2.2)),i∈e.refsOf (Op.call Mode.heap news f xs).temps++at_.take ans.2.2.length:=fun i hi=>cd _ (hr i (Aq.1 hi))
    obtain ⟨g3,q1,q2⟩:=(Par.start a).put hs hh1;obtain ⟨g4,q3,q4⟩:=q2.putNews (fun i hi=>List.mem_append_right _ hi) hh2
    refine ⟨g4,?_,q4⟩;simp only [hf,hg,hv,ah];rw [hat,Mw fun i hi=>a i (hs i hi),hbs,ah,hans,ah,q1,ah,q3,ah,if_pos hall]
 | append s i bytes x y=>
  simp only [b6] at he ⊢;obtain ⟨w,hw,he1⟩:=aa.1 he;obtain ⟨d,hd,he2⟩:=aa.1 he1;clear he he1
  have hwr:∀j∈w.refs,j∈e.refsOf (Op.append s i bytes x y).temps:=fun j hj=>by
   simp only [Op.temps,dw,bp];exact .inr (fo hw hj)
  split at he2
  ·rename_i t ys j off n cap hx
   have hjr:j∈e.refsOf (Op.append s i bytes x y).temps:=by
    simp only [Op.temps,dw,bp];exact .inl (fo hx (by simp [V.refs]))
   split at he2
   ·rename_i fr t' cs hj
    split at he2
    ·rename_i hC
     split at he2
     ·rename_i hF
      simp only [ab,al] at he2;obtain ⟨rfl,rfl⟩:=he2;refine ⟨[],by simp,fun h2 a=>?_⟩
      have aj:=a j (cd _ hjr);refine ⟨_,?_,(Par.start a).set (cd _ hjr) _⟩;simp only [hw,ah,Bn w fun j hj=>a j (cd _ (hwr j hj)),hd,hx,aj,hj]
      rw [if_pos hC,if_pos hF]
     ·rename_i hF
      split at he2
      ·rename_i hG
       obtain ⟨g,hp,e1⟩:=ae.1 he2;simp only [al] at e1;obtain ⟨rfl,rfl⟩:=e1;obtain ⟨hi,rfl⟩:=dk hp;refine ⟨[np+i],fun j hj=>?_,fun h2 a=>?_⟩
       ·obtain rfl:=c7.1 hj
        exact ⟨hi,.new (by simp) hi⟩
       ·have aj:=a j (cd _ hjr)
        have ai:=a (np+i) (by simp)
        refine ⟨_,?_,(Par.start a).set (by simp) _⟩
        simp only [hw,ah,Bn w fun j hj=>a j (cd _ (hwr j hj)),hd,hx,aj,hj]
        rw [if_pos hC,if_neg hF,if_pos hG,sd (ai.trans hi)];rfl
      ·cases he2
    ·cases he2
   ·cases he2
  ·rename_i t y' ys t' hx
   split at he2
   ·rename_i hC
    obtain ⟨g,hp,e1⟩:=ae.1 he2;simp only [al] at e1;obtain ⟨rfl,rfl⟩:=e1;obtain ⟨hi,rfl⟩:=dk hp;refine ⟨[np+i],fun j hj=>?_,fun h2 a=>?_⟩
    ·obtain rfl:=c7.1 hj
     exact ⟨hi,.new (by simp) hi⟩
    ·have ai:=a (np+i) (by simp)
     refine ⟨_,?_,(Par.start a).set (by simp) _⟩
     simp only [hw,ah,Bn w fun j hj=>a j (cd _ (hwr j hj)),hd,hx]
     rw [if_pos hC,sd (ai.trans hi)];rfl
   ·cases he2
  ·cases he2
 | tbOne i x=>
  simp only [b6] at he ⊢
  split at he
  ·rename_i j n cap hx
   have hjr:j∈e.refsOf (Op.tbOne i x).temps:=fo hx (by simp [V.refs])
   split at he
   ·rename_i sh cs hj
    split at he
    ·rename_i hC
     obtain ⟨g,hp,e1⟩:=ae.1 he;clear he;simp only [al] at e1;obtain ⟨rfl,rfl⟩:=e1;obtain ⟨hi,rfl⟩:=dk hp;refine ⟨[np+i],fun q hq=>?_,fun h2 a=>?_⟩
     ·obtain rfl:=c7.1 hq
      exact ⟨Md (by simp [Blk.toGone]) hi,.new (by simp) hi⟩
     ·have aj:=a j (cd _ hjr)
      have p1:=(Par.start a).set (cd _ hjr) (Blk.toGone (.sl false sh cs));have hn:np+i∈e.refsOf (Op.tbOne i x).temps++[np+i]:=by simp
      refine ⟨_,?_,p1.set hn _⟩;simp only [aj,hj];rw [if_pos hC,sd ((p1.on _ hn).trans hi)];rfl
    ·cases he
   ·cases he
  ·cases he
 | tbApp bytes x y=>
  simp only [b6] at he ⊢
  split at he
  ·rename_i j p n cap k cap' hx hy
   have hjr:j∈e.refsOf (Op.tbApp bytes x y).temps:=by
    simp only [Op.temps,dw,bp];exact .inl (fo hx (by simp [V.refs]))
   have hkr:k∈e.refsOf (Op.tbApp bytes x y).temps:=by
    simp only [Op.temps,dw,bp];exact .inr (fo hy (by simp [V.refs]))
   split at he
   ·rename_i B sh cs hj hk
    obtain ⟨q,hq,he1⟩:=aa.1 he;clear he
    split at he1
    ·rename_i hC
     simp only [ab,al] at he1;obtain ⟨rfl,rfl⟩:=he1;refine ⟨[],by simp,fun h2 a=>?_⟩
     have aj:=a j (cd _ hjr);have ak:=a k (cd _ hkr);refine ⟨_,?_,((Par.start a).set (cd _ hkr) _).set (cd _ hjr) _⟩;simp only [aj,ak,hj,hk];rw [hq,ah,if_pos hC]
    ·cases he1
   ·cases he
  ·cases he
 | _=>simp [Op.cls] at hc
def Ins.look (i:Ins):List Nat:=i.op.temps++(match i.guard with | some (n,_)=>[n] | none=>[])
def Op.isAppend:Op→Bool
 | .append _ _ _ _ _=>true
 | .tbApp _ _ _=>true
 | _=>false
inductive Kd where
 | off | z | r
 | a (j:Nat) (b:Blk)
 | s (j:Nat) (b:Blk)
 | w (W:List Nat) (h:Heap)
 | x (h:Heap)
def over (h h':Heap) (W:List Nat):Heap:=h.mapIdx fun i b=>if i∈W then (h'[i]?).getD b else b
structure Tr where
 i:Ins
 s:St
 k:Kd
 v:V
def Tr.T (t:Tr):List Nat:=t.s.e.refsOf t.i.op.temps
def Tr.hag (t:Tr) (h:Heap):Prop:=
 match t.k with
 | .off | .z=>True
 | .r | .s _ _=>∀i∈t.T,h[i]? = t.s.h[i]?
 | .a j _=>h[j]? = some .hole
 | .w W _=>∀i∈W,h[i]? = t.s.h[i]?
 | .x _=>h=t.s.h
def Tr.ag (t:Tr) (s:St):Prop:=Le t.i.look t.s.e s.e∧t.hag s.h
def Tr.heff (t:Tr) (h:Heap):Heap:=
 match t.k with
 | .off | .z | .r=>h
 | .a j b | .s j b=>h.set j b
 | .w W h'=>over h h' W
 | .x h'=>h'
def Tr.eeff (t:Tr) (e:Env):Env:=(e.kill (t.i.op.kill t.s.e t.v)).putO t.i.dst t.v
def Tr.eff (t:Tr) (s:St):St:=⟨t.eeff s.e,t.heff s.h⟩
def PI (s:St):Prop:=∀n v,s.e.get n=some v→∀i∈v.refs,Laid s.h i
structure Tr.Valid (O:am) (np:Nat) (t:Tr):Prop where
 exec:∀s,t.ag s→gv O np s t.i=some (t.eff s)
 laid:∀s,t.ag s→PI s→PI (t.eff s)
 keep:∀s,t.ag s→PI s→∀i,Laid s.h i→Laid (t.heff s.h) i
 cls:match t.k with
  | .off=>True
  | .z=>t.i.op.cls=.z
  | .r=>t.i.op.cls=.r
  | .a _ b=>t.i.op.cls=.a∧b≠.hole
  | .s j b=>t.i.op.cls=.s∧b≠.hole∧j∈t.T
  | .w W h'=>t.i.op.cls=.w∧h'.length=t.s.h.length∧∃N:List Nat,W=t.T++N∧∀i∈N,t.s.h[i]? = some .hole∧Laid h' i
  | .x _=>t.i.op.cls=.x
theorem a41 {p:Op} (h:p.isAppend=false) (e:Env) (v:V):p.kill e v=none:=by
 cases p <;> simp_all [Op.isAppend,Op.kill]
theorem wc {e:Env} {d:Option Nat} {v:V} {n:Nat}:(e.putO d v).get n=if d=some n then some v else e.get n:=by
 cases d with
 | none=>simp [Env.putO]
 | some d=>
  simp only [Env.putO,Env.get,ab]
theorem PI.put {e:Env} {h h':Heap} {k:Option Nat} {d:Option Nat} {v:V} (hp:PI ⟨e,h⟩) (h1:∀i,Laid h i→Laid h' i) (h2:∀i∈v.refs,Laid h' i):PI ⟨(e.kill k).putO d v,h'⟩:=by
 intro n w hn i hi;simp only [wc] at hn
 split at hn
 ·obtain rfl:=au hn
  exact h2 i hi
 ·exact h1 i (hp n w (T8 hn).1 i hi)
theorem PI.refsOf {s:St} (hp:PI s) {e:Env} {ns:List Nat} (hl:Le ns e s.e) {i:Nat} (hi:i∈e.refsOf ns):Laid s.h i:=by
 obtain ⟨n,hn,v,hv,h⟩:=Ds hi;exact hp n v (hl n hn v hv) i h
theorem a06 {i:Ins} {e e':Env} (hl:Le i.look e e') {b:Bool} (h:i.on e=some b):i.on e'=some b:=by
 unfold Ins.on at h ⊢;cases hg:i.guard with
 | none=>rw [hg] at h; exact h
 | some q=>
  obtain ⟨n,b'⟩:=q;rw [hg] at h;simp only at h ⊢
  split at h
  ·rename_i t hn
   rw [hl n (by simp [Ins.look,hg]) _ hn]; exact h
  ·rename_i hn
   rw [hl n (by simp [Ins.look,hg]) _ hn]; exact h
  ·cases h
theorem Le.refl (ns:List Nat) (e:Env):Le ns e e:=fun _ _ _ h=>h
theorem Mc (h h':Heap) (W:List Nat) (i:Nat):(over h h' W)[i]? = (h[i]?).map fun b=>if i∈W then (h'[i]?).getD b else b:=by
 unfold over;rw [List.getElem?_mapIdx]
theorem Yh {h h' k:Heap} {W:List Nat} {i:Nat} (hi:i∈W) (hl:h'.length=k.length) (ha:h[i]? = k[i]?):(over h h' W)[i]? = h'[i]?:=by
 rw [Mc,ha]
 by_cases hk:i<k.length
 ·rw [ac hk,ac (show i<h'.length by omega),bc,if_pos hi]
  rfl
 ·rw [bq (by omega),bq (by omega)]
  rfl
theorem V4 {h h':Heap} {W:List Nat} {i:Nat} (hi:i ∉ W):(over h h' W)[i]? = h[i]?:=by
 rw [Mc];simp only [if_neg hi,Option.map_id']
theorem T0 {W:List Nat} {h h2 h' h3:Heap} (p:Par W h h2 h' h3) (a:∀i∈W,h2[i]? = h[i]?):h3=over h2 h' W:=by
 refine ci fun i=>?_
 by_cases hi:i∈W
 ·rw [Yh hi p.len (a i hi),p.on i hi]
 ·rw [V4 hi,p.off2 i hi]
theorem aio {O:am} {np:Nat} {s s':St} {i:Ins} (h:gv O np s i=some s'):∃t:Tr,t.i=i∧t.s=s∧t.ag s∧t.eff s=s'∧t.Valid O np:=by
 unfold gv at h
 split at h
 ·rename_i hon
  obtain ⟨⟨v,h'⟩,hev,rfl⟩:=ae.1 h
  -- what holds of all
  have common:∀(k:Kd),(∀s0:St,Le i.look s.e s0.e→(Tr.mk i s k v).hag s0.h→b6 O np s.e s0.h i.op=some (v,(Tr.mk i s k v).heff s0.h)) →
   ∀s0,(Tr.mk i s k v).ag s0→gv O np s0 i=some ((Tr.mk i s k v).eff s0)∧(PI s0→PI ((Tr.mk i s k v).eff s0)∧∀j,Laid s0.h j→Laid ((Tr.mk i s k v).heff s0.h) j):=by
   intro k hx s0 ⟨g1,g3⟩;simp only at g1;have ht:Le i.op.temps s.e s0.e:=Le.sub g1 fun n hn=>by simp [Ins.look,hn]
   obtain ⟨m1,m2⟩:=aby ht (hx s0 g1 g3);refine ⟨?_,fun hp=>?_⟩
   ·unfold gv
    rw [a06 g1 hon];simp only [m1,bc,Tr.eff,Tr.eeff,m2]
   ·obtain ⟨l1,l2⟩:=aa8 m1 fun j hj=>hp.refsOf (Le.refl _ _) hj
    simp only [Tr.eff,Tr.eeff];exact ⟨PI.put hp l1 l2,l1⟩
  cases hc:i.op.cls with
  | z=>
   obtain ⟨rfl,h2,_⟩:=ahh hc hev;have c:=common .z fun s0 _ _=>h2 s0.h
   refine ⟨⟨i,s,.z,v⟩,rfl,rfl,⟨Le.refl _ _,trivial⟩,?_,fun s0 g=>(c s0 g).1,fun s0 g hp=>((c s0 g).2 hp).1,fun s0 g hp=>((c s0 g).2 hp).2,hc⟩
   simp [Tr.eff,Tr.eeff,Tr.heff]
  | r=>
   obtain ⟨rfl,h2,_⟩:=ajp hc hev;have c:=common .r fun s0 _ g=>h2 s0.h g
   refine ⟨⟨i,s,.r,v⟩,rfl,rfl,⟨Le.refl _ _,fun _ _=>rfl⟩,?_,fun s0 g=>(c s0 g).1,fun s0 g hp=>((c s0 g).2 hp).1,fun s0 g hp=>((c s0 g).2 hp).2,hc⟩
   simp [Tr.eff,Tr.eeff,Tr.heff]
  | a=>
   obtain ⟨j,b,_,hj,hb,rfl,h2,_⟩:=ajk hc hev;have c:=common (.a (np+j) b) fun s0 _ g=>h2 s0.h g
   refine ⟨⟨i,s,.a (np+j) b,v⟩,rfl,rfl,⟨Le.refl _ _,hj⟩,?_,fun s0 g=>(c s0 g).1,fun s0 g hp=>((c s0 g).2 hp).1,fun s0 g hp=>((c s0 g).2 hp).2,hc,hb⟩
   simp [Tr.eff,Tr.eeff,Tr.heff]
  | s=>
   obtain ⟨j,b,hj,hb,rfl,h2,_⟩:=ah6 hc hev;have c:=common (.s j b) fun s0 _ g=>h2 s0.h g
   refine ⟨⟨i,s,.s j b,v⟩,rfl,rfl,⟨Le.refl _ _,fun _ _=>rfl⟩,?_,fun s0 g=>(c s0 g).1,fun s0 g hp=>((c s0 g).2 hp).1,fun s0 g hp=>((c s0 g).2 hp).2,hc,hb,hj⟩
   simp [Tr.eff,Tr.eeff,Tr.heff]
  | w=>
   obtain ⟨N,hN,h2⟩:=ani hc hev
   have c:=common (.w (s.e.refsOf i.op.temps++N) h') fun s0 _ g=>by
    have g':∀j∈s.e.refsOf i.op.temps++N,s0.h[j]? = s.h[j]?:=g;obtain ⟨h3,q1,q2⟩:=h2 s0.h g';rw [q1,T0 q2 g'];rfl
   obtain ⟨h3,q1,q2⟩:=h2 s.h fun _ _=>rfl
   have e3:h3=h':=by
    have:=q1.symm.trans hev
    simpa using this
   subst e3;refine ⟨⟨i,s,.w (s.e.refsOf i.op.temps++N) h3,v⟩,rfl,rfl,⟨Le.refl _ _,fun _ _=>rfl⟩,?_,fun s0 g=>(c s0 g).1,fun s0 g hp=>((c s0 g).2 hp).1,fun s0 g hp=>((c s0 g).2 hp).2,hc,q2.len,N,rfl,hN⟩
   simp [Tr.eff,Tr.eeff,Tr.heff,←T0 q2 fun _ _=>rfl]
  | x=>
   have c:=common (.x h') fun s0 _ g=>by
    have g':s0.h=s.h:=g;rw [g']; exact hev
   refine ⟨⟨i,s,.x h',v⟩,rfl,rfl,⟨Le.refl _ _,rfl⟩,?_,fun s0 g=>(c s0 g).1,fun s0 g hp=>((c s0 g).2 hp).1,fun s0 g hp=>((c s0 g).2 hp).2,hc⟩
   simp [Tr.eff,Tr.eeff,Tr.heff]
 ·rename_i hon
  obtain rfl:=au h
  have hk:i.op.kill s.e (.tup [])=none:=by
   cases i.op <;> try rfl
   all_goals simp only [Op.kill]
   all_goals split <;> simp_all
  refine ⟨⟨i,s,.off,.tup []⟩,rfl,rfl,⟨Le.refl _ _,trivial⟩,by simp [Tr.eff,Tr.eeff,Tr.heff,hk,Env.kill],fun s0 g=>?_,fun s0 _ hp=>?_,fun s0 _ _ i hi=>hi,trivial⟩
  ·unfold gv
   obtain ⟨g1,_⟩:=g;rw [a06 g1 hon];simp [Tr.eff,Tr.eeff,Tr.heff,hk,Env.kill]
  ·simp only [Tr.eff,Tr.eeff,Tr.heff,hk]
   exact PI.put hp (fun _ h=>h) (fun i hi=>by simp [V.refs,V.refss] at hi)
 ·cases h
structure Sim (s t:St):Prop where
 h:s.h=t.h
 e:∀n,s.e.get n=t.e.get n
theorem Sim.refl (s:St):Sim s s:=⟨rfl,fun _=>rfl⟩
theorem Sim.symm {s t:St} (h:Sim s t):Sim t s:=⟨h.h.symm,fun n=>(h.e n).symm⟩
theorem Sim.trans {s t u:St} (h:Sim s t) (g:Sim t u):Sim s u:=⟨h.h.trans g.h,fun n=>(h.e n).trans (g.e n)⟩
theorem wx (e:Env) (k:Option Nat) (n:Nat):(e.kill k).get n=match k with | some j=>if e.clear j n then e.get n else none | none=>e.get n:=by
 cases k with
 | none=>rfl
 | some j=>exact Du (e.clear j) e n
theorem Sim.kill {e e':Env} (h:∀n,e.get n=e'.get n) (k:Option Nat) (n:Nat):(e.kill k).get n=(e'.kill k).get n:=by
 rw [wx,wx];cases k with
 | none=>exact h n
 | some j=>
  have hc:e.clear j n=e'.clear j n:=by unfold Env.clear; rw [h n]
  simp only [hc,h n]
theorem Sim.eff {s t:St} (h:Sim s t) (x:Tr):Sim (x.eff s) (x.eff t):=by
 refine ⟨by simp only [Tr.eff,h.h],fun n=>?_⟩
 simp only [Tr.eff,Tr.eeff,wc,Sim.kill h.e]
theorem Sim.ag {s t:St} (h:Sim s t) {x:Tr} (g:x.ag s):x.ag t:=by
 obtain ⟨g1,g3⟩:=g;exact ⟨fun n hn v hv=>by rw [←h.e n]; exact g1 n hn v hv,by rw [←h.h]; exact g3⟩
def Ins.free (d:Option Nat) (ns:List Nat):Bool:=
 match d with
 | some d=>!ns.contains d
 | none=>true
def a7m:Option Nat→Option Nat→Bool
 | some a,some b=>a != b
 | _,_=>true
def oh:Cls→Cls→Option Bool
 | .z,_ | _,.z | .r,.r | .r,.a | .a,.r | .a,.a | .a,.s | .s,.a | .a,.w | .w,.a=>some false
 | .r,.s | .s,.r | .s,.s | .r,.w | .w,.r | .s,.w | .w,.s | .w,.w=>some true
 | _,_=>none
def Ins.isLoad (i:Ins):Bool:=match i.op,i.guard with
 | .load _ _,none=>true
 | _,_=>false
def S0 (y x:Ins):Bool:=Ins.free y.dst x.look&&Ins.free x.dst y.look&&a7m y.dst x.dst && !y.op.isAppend&&(!x.op.isAppend||y.isLoad)
theorem Se {i:Ins} (h:i.isLoad=true):i.op.isAppend=false∧i.guard=none∧∃s x,i.op=.load s x:=by
 unfold Ins.isLoad at h
 split at h
 ·rename_i s x h1 h2
  exact ⟨by rw [h1]; rfl,h2,s,x,h1⟩
 ·cases h
theorem yf {d:Option Nat} {ns:List Nat} (h:Ins.free d ns=true) {n:Nat} (hn:n∈ns):d≠some n:=by
 rintro rfl
 simp [Ins.free,hn] at h
theorem Mk {a b:Option Nat} (h:a7m a b=true) {n:Nat} (ha:a=some n):b≠some n:=by
 subst ha
 rintro rfl
 simp [a7m] at h
theorem A9 {t:Tr} (ha:t.i.op.isAppend=false) (e:Env) (n:Nat):(t.eeff e).get n=if t.i.dst=some n then some t.v else e.get n:=by
 unfold Tr.eeff;rw [wc,a41 ha]; rfl
theorem E8 {t:Tr} (ha:t.i.op.isAppend=false) {e:Env} {n:Nat} (hn:t.i.dst≠some n):(t.eeff e).get n=e.get n:=by
 rw [A9 ha,if_neg hn]
theorem a7c {O:am} {np:Nat} {t:Tr} (vt:t.Valid O np) {s:St} (g:t.ag s) (hl:t.i.isLoad=true) {n:Nat} (hn:t.i.dst=some n):∃d,t.v=.d d:=by
 obtain ⟨l1,l2,sh,x,l3⟩:=Se hl;have h:=vt.exec s g;unfold gv Ins.on at h;rw [l2] at h;simp only [l3] at h;obtain ⟨⟨v,h'⟩,hev,heq⟩:=ae.1 h
 have e1:((t.eff s).e.get n)=some t.v:=by
  simp only [Tr.eff,Tr.eeff,wc,hn,if_true]
 rw [←heq] at e1;simp only [wc,hn,if_true,ab] at e1;subst e1;simp only [b6] at hev
 split at hev
 ·split at hev
  ·simp only [ab,al] at hev; exact ⟨_,hev.1.symm⟩
  ·cases hev
 ·obtain ⟨q,_,hev⟩:=aa.1 hev
  split at hev
  ·simp only [ab,al] at hev; exact ⟨_,hev.1.symm⟩
  ·cases hev
 ·cases hev
theorem H5 (t:Tr) (e:Env) (n:Nat):(t.eeff e).get n=if t.i.dst=some n then some t.v else (match t.i.op.kill t.s.e t.v with | some j=>if e.clear j n then e.get n else none | none=>e.get n):=by
 unfold Tr.eeff;rw [wc,wx]
theorem a1f {p:Op} {e:Env} {v:V} {j:Nat} (h:p.kill e v=some j):j∈e.refsOf p.temps:=by
 unfold Op.kill at h
 split at h
 ·split at h
  ·rename_i hx
   split at h
   ·obtain rfl:=au h
    simp only [Op.temps,dw,bp];exact .inl (fo hx (by simp [V.refs]))
   ·cases h
  ·cases h
 ·split at h
  ·rename_i hx
   split at h
   ·obtain rfl:=au h
    simp only [Op.temps,dw,bp];exact .inl (fo hx (by simp [V.refs]))
   ·cases h
  ·cases h
 ·cases h
theorem H1 {e:Env} {j n:Nat} {v:V} (h:e.get n=some v):e.clear j n=true↔j ∉ v.refs:=by
 unfold Env.clear;rw [h];simp only [kh,List.any_eq_false,beq_iff_eq];exact ⟨fun h hj=>h j hj rfl,fun h x hx e=>h (e▸hx)⟩
def Kd.rd (T:List Nat):Kd→Nat→Prop
 | .off,_ | .z,_=>False
 | .r,i=>i∈T
 | .a j _,i=>i=j
 | .s _ _,i=>i∈T
 | .w W _,i=>i∈W
 | .x _,_=>True
def Kd.wr:Kd→Nat→Prop
 | .off,_ | .z,_ | .r,_=>False
 | .a j _,i | .s j _,i=>i=j
 | .w W _,i=>i∈W
 | .x _,_=>True
def Kd.isX:Kd→Bool
 | .x _=>true
 | _=>false
theorem yc {t:Tr} (hx:t.k.isX=false) {i:Nat} (hi:¬ t.k.wr i) (h:Heap):(t.heff h)[i]? = h[i]?:=by
 unfold Tr.heff;cases hk:t.k with
 | off | z | r=>rfl
 | a j b | s j b=>
  rw [hk] at hi;exact b7 fun e=>hi e.symm
 | w W h'=>
  rw [hk] at hi;exact V4 hi
 | x h'=>rw [hk] at hx; cases hx
theorem a1t {t:Tr} (_hx:t.k.isX=false) {i:Nat} {h h2:Heap} (he:h2[i]? = h[i]?):(t.heff h2)[i]? = (t.heff h)[i]?:=by
 unfold Tr.heff;cases hk:t.k with
 | off | z | r=>exact he
 | a j b | s j b=>
  simp only
  by_cases hij:j=i
  ·subst hij
   have hl:=O5 he
   by_cases hk:j<h.length
   ·rw [b4 hk,b4 (hl.2 hk)]
   ·rw [bq (by rw [bx]; omega),bq (by rw [bx]; omega)]
  ·rw [b7 hij,b7 hij,he]
 | w W h'=>simp only [Mc,he]
 | x h'=>rfl
theorem a4m {t:Tr} (hx:t.k.isX=false) {h h2:Heap} (he:∀i,t.k.rd t.T i→h2[i]? = h[i]?) (g:t.hag h):t.hag h2:=by
 unfold Tr.hag at g ⊢;cases hk:t.k with
 | off | z=>trivial
 | r=>rw [hk] at g he; exact fun i hi=>(he i hi).trans (g i hi)
 | a j b=>rw [hk] at g he; exact (he j rfl).trans g
 | s j b=>rw [hk] at g he; exact fun i hi=>(he i hi).trans (g i hi)
 | w W h'=>rw [hk] at g he; exact fun i hi=>(he i hi).trans (g i hi)
 | x h'=>rw [hk] at hx; cases hx
theorem a8t {O:am} {np:Nat} {t:Tr} (vt:t.Valid O np) (hx:t.k.isX=false) {h:Heap} (hg:t.hag h) {i:Nat} (hi:t.k.wr i) :
 (i∈t.T∧(t.i.op.cls=.s∨t.i.op.cls=.w))∨(h[i]? = some .hole∧Laid (t.heff h) i):=by
 have vc:=vt.cls;unfold Tr.hag at hg;unfold Tr.heff;cases hk:t.k with
 | off | z | r=>rw [hk] at hi; exact hi.elim
 | a j b=>
  rw [hk] at hi hg;simp only [hk] at vc;obtain rfl:i=j:=hi;exact .inr ⟨hg,.new vc.2 hg⟩
 | s j b=>
  rw [hk] at hi;simp only [hk] at vc;obtain rfl:i=j:=hi;exact .inl ⟨vc.2.2,.inl vc.1⟩
 | w W h'=>
  rw [hk] at hi hg;simp only [hk] at vc;obtain ⟨c1,c2,N,rfl,hN⟩:=vc;have hi':i∈t.T++N:=hi;rcases bp.1 hi' with hT | hn
  ·exact .inl ⟨hT,.inr c1⟩
  ·obtain ⟨q1,B,hB,hb⟩:=hN i hn
   exact .inr ⟨(hg i hi').trans q1,B,(Yh hi' c2 (hg i hi')).trans hB,hb⟩
 | x h'=>rw [hk] at hx; cases hx
theorem a1k {O:am} {np:Nat} {t:Tr} (vt:t.Valid O np) (hx:t.k.isX=false) {h:Heap} (hg:t.hag h) {i:Nat} (hi:t.k.rd t.T i) :
 (i∈t.T∧(t.i.op.cls=.r∨t.i.op.cls=.s∨t.i.op.cls=.w))∨(h[i]? = some .hole∧t.k.wr i):=by
 have vc:=vt.cls;unfold Tr.hag at hg;cases hk:t.k with
 | off | z=>rw [hk] at hi; exact hi.elim
 | r=>
  rw [hk] at hi;simp only [hk] at vc;exact .inl ⟨hi,.inl vc⟩
 | a j b=>
  rw [hk] at hi hg;obtain rfl:i=j:=hi;exact .inr ⟨hg,rfl⟩
 | s j b=>
  rw [hk] at hi;simp only [hk] at vc;exact .inl ⟨hi,.inr (.inl vc.1)⟩
 | w W h'=>
  rw [hk] at hi hg;simp only [hk] at vc;obtain ⟨c1,c2,N,rfl,hN⟩:=vc;have hi':i∈t.T++N:=hi;rcases bp.1 hi' with hT | hn
  ·exact .inl ⟨hT,.inr (.inr c1)⟩
  ·exact .inr ⟨(hg i hi').trans (hN i hn).1,hi'⟩
 | x h'=>rw [hk] at hx; cases hx
theorem te {h:Heap} {i:Nat} (h1:h[i]? = some .hole) (h2:Laid h i):False:=by
 obtain ⟨B,hB,hn⟩:=h2;rw [hB] at h1;exact hn (au h1)
theorem a4h {O:am} {np:Nat} {y x:Tr} (vy:y.Valid O np) (vx:x.Valid O np) {b:Bool} (hc:oh y.i.op.cls x.i.op.cls=some b) (h:y.k.isX=true):x.k=.off∨x.k=.z:=by
 have vyc:=vy.cls;have vxc:=vx.cls;cases hky:y.k with
 | x hy=>
  simp only [hky] at vyc;rw [vyc] at hc;cases hkx:x.k with
  | off=>exact .inl rfl
  | z=>exact .inr rfl
  | r=>simp only [hkx] at vxc; rw [vxc] at hc; simp [oh] at hc
  | a j b=>simp only [hkx] at vxc; rw [vxc.1] at hc; simp [oh] at hc
  | s j b=>simp only [hkx] at vxc; rw [vxc.1] at hc; simp [oh] at hc
  | w W h'=>simp only [hkx] at vxc; rw [vxc.1] at hc; simp [oh] at hc
  | x h'=>simp only [hkx] at vxc; rw [vxc] at hc; simp [oh] at hc
 | _=>rw [hky] at h; cases h
theorem a40 {O:am} {np:Nat} {y x:Tr} (vy:y.Valid O np) (vx:x.Valid O np) {b:Bool} (hc:oh y.i.op.cls x.i.op.cls=some b) (h:x.k.isX=true):y.k=.off∨y.k=.z:=by
 have vyc:=vy.cls;have vxc:=vx.cls;cases hkx:x.k with
 | x hx=>
  simp only [hkx] at vxc;rw [vxc] at hc;cases hky:y.k with
  | off=>exact .inl rfl
  | z=>exact .inr rfl
  | r=>simp only [hky] at vyc; rw [vyc] at hc; simp [oh] at hc
  | a j b=>simp only [hky] at vyc; rw [vyc.1] at hc; simp [oh] at hc
  | s j b=>simp only [hky] at vyc; rw [vyc.1] at hc; simp [oh] at hc
  | w W h'=>simp only [hky] at vyc; rw [vyc.1] at hc; simp [oh] at hc
  | x h'=>simp only [hky] at vyc; rw [vyc] at hc; simp [oh] at hc
 | _=>rw [hkx] at h; cases h
theorem swap {O:am} {np:Nat} {y x:Tr} {s:St} (hp:PI s) (vy:y.Valid O np) (vx:x.Valid O np) (ay:y.ag s) (ax:x.ag (y.eff s)) (hd:S0 y.i x.i=true)
 {b:Bool} (hc:oh y.i.op.cls x.i.op.cls=some b) (hap:b=true→∀i∈y.T,i ∉ x.T):x.ag s∧y.ag (x.eff s)∧Sim (y.eff (x.eff s)) (x.eff (y.eff s)):=by
 have aya:=ay;have axa:=ax;unfold S0 at hd;simp only [av,kh,Bool.or_eq_true] at hd;obtain ⟨⟨⟨⟨d1,d2⟩,d3⟩,ny⟩,nx⟩:=hd;obtain ⟨ay1,ay3⟩:=ay;obtain ⟨ax1,ax3⟩:=ax
 -- variables
 have lx:Le x.i.look x.s.e s.e:=fun n hn v hv=>by
  have:=ax1 n hn v hv
  rwa [Tr.eff,E8 ny (yf d1 hn)] at this
 have ly:Le y.i.look y.s.e (x.eff s).e:=fun n hn v hv=>by
  have h1:=ay1 n hn v hv;rcases nx with nx | nx
  ·rw [Tr.eff,E8 nx (yf d2 hn)]
   exact h1
  ·simp only [Tr.eff,Tr.eeff,wc,if_neg (yf d2 hn),wx]
   cases hk:x.i.op.kill x.s.e x.v with
   | none=>exact h1
   | some j=>
    obtain ⟨l1,l2,sh,a,l3⟩:=Se nx;have hj:=a1f hk
    have hnt:n∈y.i.op.temps:=by
     unfold Ins.look at hn;rw [l2] at hn
     simpa using hn
    have hb:b=true:=by
     have c1:y.i.op.cls=.r:=by rw [l3]; rfl
     have c2:x.i.op.cls=.w:=by
      cases hop:x.i.op <;> rw [hop] at hk <;> first | rfl | (simp only [Op.kill] at hk; cases hk)
     rw [c1,c2] at hc
     simpa [oh] using hc.symm
    have hcl:s.e.clear j n=true:=(H1 h1).2 fun hi=>hap hb j (wl hnt hv hi) hj
    simp only [hcl,if_true];exact h1
 have es:∀n,(y.eff (x.eff s)).e.get n=(x.eff (y.eff s)).e.get n:=by
  intro n;rcases nx with nx | nx
  ·simp only [Tr.eff,A9 ny,A9 nx]
   by_cases h1:y.i.dst=some n
   ·have h2:=Mk d3 h1
    simp only [h1,h2,if_true,if_false]
   ·simp only [h1,if_false]
  ·show (y.eeff (x.eeff s.e)).get n=(x.eeff (y.eeff s.e)).get n
   rw [A9 ny,H5 x (y.eeff s.e),H5 x s.e]
   by_cases h1:y.i.dst=some n
   ·have h2:=Mk d3 h1
    obtain ⟨d,hd⟩:=a7c vy aya nx h1;have hg:(y.eeff s.e).get n=some y.v:=by rw [A9 ny,if_pos h1]
    rw [if_pos h1,if_neg h2];cases hk:x.i.op.kill x.s.e x.v with
    | none=>exact hg.symm
    | some j=>
     have hcl:(y.eeff s.e).clear j n=true:=(H1 hg).2 (by rw [hd]; simp [V.refs])
     simp only [hcl,if_true];exact hg.symm
   ·rw [if_neg h1]
    by_cases h2:x.i.dst=some n
    ·rw [if_pos h2,if_pos h2]
    ·rw [if_neg h2,if_neg h2]
     have hg:(y.eeff s.e).get n=s.e.get n:=E8 ny h1;cases hk:x.i.op.kill x.s.e x.v with
     | none=>exact hg.symm
     | some j=>
      have hcl:(y.eeff s.e).clear j n=s.e.clear j n:=by unfold Env.clear; rw [hg]
      simp only [hcl,hg]
 -- what is laid
 have tx:∀i∈x.T,Laid s.h i:=fun i hi=>hp.refsOf (Le.sub lx fun n hn=>by simp [Ins.look,hn]) hi
 have ty:∀i∈y.T,Laid s.h i:=fun i hi=>hp.refsOf (Le.sub ay1 fun n hn=>by simp [Ins.look,hn]) hi
 have ky:∀i,Laid s.h i→Laid (y.heff s.h) i:=vy.keep s aya hp;have ax3':x.hag (y.heff s.h):=ax3
 have hm:x.hag s.h∧y.hag (x.heff s.h)∧y.heff (x.heff s.h)=x.heff (y.heff s.h):=by
  cases hyx:y.k.isX with
  | true=>
   rcases a4h vy vx hc hyx with hk | hk
   ·simp only [Tr.hag,Tr.heff,hk] at ay3 ⊢
    exact ⟨trivial,ay3,trivial⟩
   ·simp only [Tr.hag,Tr.heff,hk] at ay3 ⊢
    exact ⟨trivial,ay3,trivial⟩
  | false=>
   cases hxx:x.k.isX with
   | true=>
    rcases a40 vy vx hc hxx with hk | hk
    ·simp only [Tr.hag,Tr.heff,hk] at ax3' ⊢
     exact ⟨ax3',trivial,trivial⟩
    ·simp only [Tr.hag,Tr.heff,hk] at ax3' ⊢
     exact ⟨ax3',trivial,trivial⟩
   | false=>
    -- both reach the same place only if they are told to be apart
    have two:∀i,i∈y.T→i∈x.T→(y.i.op.cls=.s∨y.i.op.cls=.w∨(y.i.op.cls=.r∧(x.i.op.cls=.s∨x.i.op.cls=.w)))→(x.i.op.cls=.r∨x.i.op.cls=.s∨x.i.op.cls=.w)→False:=by
     intro i h1 h2 h3 h4
     have hb:b=true:=by
      rcases h3 with h3 | h3 | ⟨h3,h5⟩
      ·rcases h4 with h4 | h4 | h4 <;> rw [h3,h4] at hc <;> simpa [oh] using hc.symm
      ·rcases h4 with h4 | h4 | h4 <;> rw [h3,h4] at hc <;> simpa [oh] using hc.symm
      ·rcases h5 with h5 | h5 <;> rw [h3,h5] at hc <;> simpa [oh] using hc.symm
     exact hap hb i h1 h2
    have D1:∀i,y.k.wr i→¬ x.k.rd x.T i:=by
     intro i hw hr;rcases a8t vy hyx ay3 hw with ⟨w1,w2⟩ | ⟨w1,w2⟩
     ·rcases a1k vx hxx ax3' hr with ⟨r1,r2⟩ | ⟨r1,_⟩
      ·exact two i w1 r1 (w2.imp id .inl) r2
      ·exact te r1 (ky i (ty i w1))
     ·rcases a1k vx hxx ax3' hr with ⟨r1,r2⟩ | ⟨r1,_⟩
      ·exact te w1 (tx i r1)
      ·exact te r1 w2
    have D2:∀i,x.k.wr i→¬ y.k.rd y.T i:=by
     intro i hw hr;rcases a8t vx hxx ax3' hw with ⟨w1,w2⟩ | ⟨w1,w2⟩
     ·rcases a1k vy hyx ay3 hr with ⟨r1,r2⟩ | ⟨r1,_⟩
      ·refine two i r1 w1 ?_ (.inr w2)
       rcases r2 with r2 | r2 | r2
       ·exact .inr (.inr ⟨r2,w2⟩)
       ·exact .inl r2
       ·exact .inr (.inl r2)
      ·exact te r1 (tx i w1)
     ·rcases a1k vy hyx ay3 hr with ⟨r1,r2⟩ | ⟨r1,r2⟩
      ·exact te w1 (ky i (ty i r1))
      ·rcases a8t vy hyx ay3 r2 with ⟨q1,q2⟩ | ⟨q1,q2⟩
       ·exact te r1 (ty i q1)
       ·exact te w1 q2
    have rw_:∀{t:Tr},t.Valid O np→t.k.isX=false→∀i,t.k.wr i→t.k.rd t.T i:=by
     intro t vt ht i hi;have vc:=vt.cls;cases hk:t.k with
     | off | z | r=>rw [hk] at hi; exact hi.elim
     | a j b=>rw [hk] at hi; exact hi
     | s j b=>
      rw [hk] at hi;simp only [hk] at vc;obtain rfl:i=j:=hi;exact vc.2.2
     | w W h'=>rw [hk] at hi; exact hi
     | x h'=>rw [hk] at ht; cases ht
    refine ⟨a4m hxx (fun i hi=>(yc hyx (fun hw=>D1 i hw hi) s.h).symm) ax3',a4m hyx (fun i hi=>yc hxx (fun hw=>D2 i hw hi) s.h) ay3,ci fun i=>?_⟩
    by_cases hw:x.k.wr i
    ·have h1:¬ y.k.wr i:=fun h=>D1 i h (rw_ vx hxx i hw)
     rw [yc hyx h1,a1t hxx (yc hyx h1 s.h)]
    ·rw [yc hxx hw,a1t hyx (yc hxx hw s.h)]
 exact ⟨⟨lx,hm.1⟩,⟨ly,hm.2.1⟩,⟨hm.2.2,es⟩⟩
end Pe
namespace Pe
open Go
variable {P:Program} {num:Nat→Nat}
def Chain:List Tr→St→St→Prop
 | [],s,s'=>Sim s s'
 | t::L,s,s'=>t.ag s∧Chain L (t.eff s) s'
theorem Chain.sim:∀{L:List Tr} {s t s':St},Sim s t→Chain L s s'→Chain L t s'
 | [],_,_,_,h,g=>h.symm.trans g
 | x::_L,_s,_t,_s',h,g=>⟨h.ag g.1,Chain.sim (h.eff x) g.2⟩
def Ind (y x:Tr):Prop:=S0 y.i x.i=true∧∃b,oh y.i.op.cls x.i.op.cls=some b∧(b=true→∀i∈y.T,i ∉ x.T)
theorem acj {O:am} {np:Nat} {x:Tr} {post:List Tr} {s':St} (vx:x.Valid O np):∀{pre:List Tr} {s:St},PI s→(∀t∈pre,t.Valid O np)→Chain (pre++x::post) s s'→(∀y∈pre,Ind y x)→x.ag s∧Chain (pre++post) (x.eff s) s'
 | [],s,_,_,hc,_=>hc
 | y::pre,s,hp,hv,hc,hi=>by
  have vy:=hv y (by simp)
  obtain ⟨ay,hc⟩:=hc;obtain ⟨ax,hc'⟩:=acj vx (pre:=pre) (vy.laid s ay hp) (fun t ht=>hv t (by simp [ht])) hc (fun z hz=>hi z (by simp [hz]))
  obtain ⟨i1,b,i2,i3⟩:=hi y (by simp)
  obtain ⟨g1,g2,g3⟩:=swap hp vy vx ay ax i1 i2 i3;exact ⟨g1,g2,Chain.sim g3.symm hc'⟩
def Seq:List Tr→St→St→Prop
 | [],s,s'=>s=s'
 | t::L,s,s'=>t.s=s∧t.ag s∧t.i.side s.e=true∧Seq L (t.eff s) s'
theorem Seq.chain:∀{L:List Tr} {s s':St},Seq L s s'→Chain L s s'
 | [],_,_,h=>h▸Sim.refl _
 | _::_,_,_,h=>⟨h.2.1,Seq.chain h.2.2.2⟩
theorem a9i {O:am} {np:Nat}:∀{is:List Ins} {s s':St},fy O np is s=some s'→∃L:List Tr,L.map (·.i)=is∧(∀t∈L,t.Valid O np)∧Seq L s s'
 | [],s,s',h=>by
  simp only [fy,ab] at h;exact ⟨[],rfl,by simp,h⟩
 | i::is,s,s',h=>by
  simp only [fy] at h;obtain ⟨s1,h1,h⟩:=aa.1 h;obtain ⟨L,g1,g2,g3⟩:=a9i h
  have hside:i.side s.e=true:=by
   unfold n8 at h1
   split at h1
   ·assumption
   ·cases h1
  obtain ⟨t,e1,e2,e3,e4,e5⟩:=aio (H8 h1);exact ⟨t::L,by simp [e1,g1],by simpa using ⟨e5,g2⟩,e2,e3,by rw [e1]; exact hside,by rw [e4]; exact g3⟩
theorem Wr {i:Ins} {e:Env} (h:i.side e=true) {n:Nat} (hn:n∈i.apart) {v:V} (hv:e.get n=some v) {j:Nat} (hj:j∈v.refs):j ∉ e.refsOf i.op.temps:=by
 intro hx;have hmem:j∈e.refsOf i.apart:=wl hn hv hj;unfold Ins.side at h
 have hne:i.apart.isEmpty=false:=by
  cases hq:i.apart with
  | nil=>rw [hq] at hn; simp at hn
  | cons _ _=>rfl
 rw [hne] at h;simp only [Bool.false_or] at h;have h1:=df.1 h j hmem;simp only [kh,List.any_eq_false,beq_iff_eq] at h1;exact h1 j hx rfl
theorem Seq.keeps {ns:List Nat}:∀{mid:List Tr} {x:Tr} {post:List Tr} {s s':St},Seq (mid++x::post) s s'→(∀z∈mid,(z.i.op.isAppend=false∨∀n∈ns,n∈z.i.apart)∧Ins.free z.i.dst ns=true)→x.s=x.s∧x.i.side x.s.e=true∧∀n∈ns,x.s.e.get n=s.e.get n
 | [],x,post,s,s',h,_=>by
  obtain ⟨rfl,_,h2,_⟩:=h;exact ⟨rfl,h2,fun _ _=>rfl⟩
 | z::mid,x,post,s,s',h,hm=>by
  obtain ⟨hzs,_,hside,h⟩:=h;obtain ⟨_,h2,h3⟩:=Seq.keeps h fun y hy=>hm y (by simp [hy])
  obtain ⟨m1,m2⟩:=hm z (by simp)
  refine ⟨rfl,h2,fun n hn=>(h3 n hn).trans ?_⟩
  rw [Tr.eff];rcases m1 with m1 | m1
  ·exact E8 m1 (yf m2 hn)
  ·show (z.eeff s.e).get n=s.e.get n
   rw [H5,if_neg (yf m2 hn)];cases hk:z.i.op.kill z.s.e z.v with
   | none=>rfl
   | some j=>
    have hj:=a1f hk;rw [hzs] at hj;cases hv:s.e.get n with
    | none=>
     have hcl:s.e.clear j n=true:=by unfold Env.clear; rw [hv]
     simp only [hcl,if_true]
    | some v=>
     have hcl:s.e.clear j n=true:=(H1 hv).2 fun hi=>Wr hside (m1 n hn) hv hi hj
     simp only [hcl,if_true]
theorem Seq.apart:∀{pre:List Tr} {y x:Tr} {mid post:List Tr} {s s':St},Seq (pre++y::(mid++x::post)) s s'→(∀z∈y::mid,(z.i.op.isAppend=false∨∀n∈y.i.op.temps,n∈z.i.apart)∧Ins.free z.i.dst y.i.op.temps=true)→(∀n∈y.i.op.temps,n∈x.i.apart)→∀i∈y.T,i ∉ x.T
 | z::pre,y,x,mid,post,s,s',h,hm,ha=>Seq.apart (pre:=pre) h.2.2.2 hm ha
 | [],y,x,mid,post,s,s',h,hm,ha=>by
  intro i hi hx;have hys:y.s=s:=h.1;obtain ⟨_,hside,hk⟩:=Seq.keeps (ns:=y.i.op.temps) (mid:=y::mid) (s:=s) h hm;obtain ⟨n,hn,v,hv,hiv⟩:=Ds hi;have hn':=ha n hn;have hxv:x.s.e.get n=some v:=by rw [hk n hn,←hys]; exact hv
  have hmem:i∈x.s.e.refsOf x.i.apart:=wl hn' hxv hiv;unfold Ins.side at hside
  have hne:x.i.apart.isEmpty=false:=by
   cases hq:x.i.apart with
   | nil=>rw [hq] at hn'; simp at hn'
   | cons _ _=>rfl
  rw [hne] at hside;simp only [Bool.false_or] at hside;have h1:=df.1 hside i hmem;simp only [kh,List.any_eq_false,beq_iff_eq] at h1;exact h1 i hx rfl
def ae8 (acc:List Nat) (o:Oper):Nat:=o.after.toList.foldr (fun e m=>if Region.binds .any e then m ||| (1 <<< e.on) ||| acc.getD e.on 0 else m) 0
def Aj:List Oper→List Nat→List Nat
 | [],acc=>acc
 | o::os,acc=>Aj os (acc++[ae8 acc o])
def Ws (is:List Ins) (ky kx:Nat) (y x:Ins):Bool:=
 S0 y x&&match oh y.op.cls x.op.cls with
  | some false=>true
  | some true=>y.op.temps.all (x.apart.contains ·)&&((is.drop ky).take (kx-ky)).all fun z=>(!z.op.isAppend||y.op.temps.all (z.apart.contains ·))&&Ins.free z.dst y.op.temps
  | none=>false
def Y1 (ops:List Oper) (is:List Ins):Bool:=
 let ms:=Aj ops []
 (List.range is.length).all fun kx=>match ops[kx]?,is[kx]? with
  | some o,some x=>(o.after.toList.all fun e=>!Region.binds .any e||decide (e.on<kx)) &&
   (List.range kx).all fun ky=>(ms.getD kx 0).testBit ky||match is[ky]? with | some y=>Ws is ky kx y x | none=>false
  | _,_=>false
def Vu (ops:List Oper) (L:Nat→Prop):Prop:=∀(k:Nat) o,ops[k]? = some o→L k→∀e∈o.after.toList,Region.binds .any e=true→L e.on
def Ee (ops:List Oper) (acc:List Nat):Prop:=
 ∀(k m:Nat),acc[k]? = some m→∀o,ops[k]? = some o→∀L,Vu ops L→(∀e∈o.after.toList,Region.binds .any e=true→L e.on)→∀y,m.testBit y=true→L y
theorem U5 {ops:List Oper} {acc:List Nat} (hl:acc.length≤ops.length) (hg:Ee ops acc) {L:Nat→Prop} (hL:Vu ops L) (es:List Edge) (hes:∀e∈es,Region.binds .any e=true→L e.on) (y:Nat)
 (hy:(es.foldr (fun e m=>if Region.binds .any e then m ||| (1 <<< e.on) ||| acc.getD e.on 0 else m) 0).testBit y=true):L y:=by
 induction es with
 | nil=>simp at hy
 | cons e es ih=>
  have ih':=ih fun e' he'=>hes e' (by simp [he'])
  simp only [List.foldr_cons] at hy
  split at hy
  ·rename_i hb
   simp only [Nat.testBit_or,Bool.or_eq_true] at hy;have he:=hes e (by simp) hb
   rcases hy with (hy | hy) | hy
   ·exact ih' hy
   ·have:e.on=y:=by
     rw [Nat.shiftLeft_eq,Nat.one_mul,Nat.testBit_two_pow] at hy
     simpa using hy
    exact this▸he
   ·by_cases hk:e.on<acc.length
    ·have h1:acc[e.on]? = some acc[e.on]:=ac hk
     have h2:acc.getD e.on 0=acc[e.on]:=by simp [List.getD_eq_getElem?_getD,h1]
     have h3:ops[e.on]? = some ops[e.on]:=ac (by omega)
     rw [h2] at hy;exact hg e.on _ h1 _ h3 L hL (fun e' he' hb'=>hL e.on _ h3 he e' he' hb') y hy
    ·have h1:acc[e.on]? = none:=bq (by omega)
     simp [List.getD_eq_getElem?_getD,h1] at hy
  ·exact ih' hy
theorem Hi {ops:List Oper}:∀(os:List Oper) (acc:List Nat),(∃pre,ops=pre++os∧pre.length=acc.length)→Ee ops acc→Ee ops (Aj os acc)
 | [],acc,_,hg=>hg
 | o::os,acc,⟨pre,e,hl⟩,hg=>by
  refine Hi os _ ⟨pre++[o],by simp [e],by simp [hl]⟩ ?_
  intro k m hk o' ho' L hL hp y hy;rcases dx k acc.length with h | h
  ·rw [bi h] at hk
   exact hg k m hk o' ho' L hL hp y hy
  ·rw [bj h] at hk
   have hk0:k-acc.length=0:=by
    rcases mf (k-acc.length) with h0 | h0
    ·exact h0
    ·rw [bq (by simp only [bv,da]; omega)] at hk; cases hk
   rw [hk0] at hk;simp only [ct,ab] at hk;subst hk;have hkl:k=pre.length:=by omega
   have:o'=o:=by
    rw [e,hkl,bj (ba _),lh] at ho'
    simpa using ho'.symm
   subst this;exact U5 (by rw [e]; simp; omega) hg hL _ hp y hy
theorem Wy (ops:List Oper):Ee ops (Aj ops []):=
 Hi ops [] ⟨[],rfl,rfl⟩ (by intro k m hk; simp at hk)
def t0:Tr:=⟨default,⟨[],[]⟩,.off,default⟩
theorem SR.pi {C:Cx} {φ:Loc} {s:St} {tmps:Array Value} (hs:SR C φ s tmps):PI s:=by
 intro n v hn i hi;obtain ⟨u,_,h⟩:=hs.env n v hn;exact RX.refs v u h i hi
theorem SR.sim {C:Cx} {φ:Loc} {s t:St} {tmps:Array Value} (hs:SR C φ s tmps) (h:Sim s t):SR C φ t tmps:=
 ⟨h.h▸hs.hr,hs.bd,fun n v hn=>by rw [←h.e n] at hn; rw [←h.h]; exact hs.env n v hn⟩
theorem getD_some {α:Type} {l:List α} {d:α} {k:Nat} {x:α} (h:l[k]? = some x):l.getD k d=x:=by
 rw [List.getD_eq_getElem?_getD,h]; rfl
theorem a26 {O:am} {ops:Array Oper} {N np:Nat} {Q:Exit→Act→World→Prop} {is:List Ins} (hok:qp P num ops N is ops.toList=true) (hdr:Y1 ops.toList is=true) (hO:km P num O) (T:List Nat) (hT:ops.toList.all (p6 T)=true)
 {L:List Tr} (hL:L.map (·.i)=is) (hV:∀t∈L,t.Valid O np) {s0 s':St} (hseq:Seq L s0 s') :
 ∀(fuel:Nat) (listed:Array Bool) (rem:List Nat) (C:Cx) (φ:Loc) (s:St) (a:Act),rem.length=fuel→rem.Pairwise (· < ·)→listed.size=ops.size→(∀j,j∈rem↔listed[j]? = some false) →
 Vu ops.toList (fun j=>listed[j]? = some true)→C.num=num→SR C φ s a.tmps→N≤a.tmps.size→Chain (rem.map fun k=>L.getD k t0) s s' →
 (∀C' φ' a',C'.num=num→Runs np C C' φ φ' s.h s'.h→SR C' φ' s' a'.tmps→a'.tmps.size=a.tmps.size→Keep T a a'→Q .normal a' C'.w)→wpAny P .any ops Q fuel listed a C.w:=by
 obtain ⟨hlen,hget⟩:=jm hok;have hLlen:L.length=is.length:=by rw [←hL]; simp
 have hol:ops.toList.length=ops.size:=by simp
 intro fuel
 induction fuel with
 | zero=>
  intro listed rem C φ s a hrl _ _ hrem _ hC hs hN hch hQ;have:rem=[]:=ej.1 hrl;subst this;simp only [fa,Chain] at hch;refine ⟨?_,?_⟩
  ·apply List.eq_nil_iff_forall_not_mem.2
   intro j hj;have h1:=(mem_ready.1 hj).1
   have:listed[j]? = some false:=by
    cases hq:listed[j]? with
    | none=>rw [fb,hq] at h1; cases h1
    | some b=>rw [fb,hq] at h1; simpa using h1
   have:=(hrem j).2 this;simp at this
  ·refine hQ C φ a hC ?_ (hs.sim hch) rfl (.refl T a)
   rw [←hch.h];exact .refl np hs.hr hs.bd
 | succ fuel ih=>
  intro listed rem C φ s a hrl hsort hsz hrem hcl hC hs hN hch hQ
  have hlt:∀j,j∈rem→j<ops.size:=by
   intro j hj;have:=(hrem j).1 hj;rw [←hsz]; exact (ch.1 this).1
  -- a line's facts
  have hline:∀j,j<ops.size→∃t i o,L[j]? = some t∧is[j]? = some i∧t.i=i∧ops[j]? = some o∧t.Valid O np∧Cr P num ops N i o=true:=by
   intro j hj;have hjL:j<L.length:=by omega
   have e1:L[j]? = some L[j]:=ac hjL;have e2:is[j]? = some L[j].i:=by rw [←hL,cb,e1]; rfl
   have e3:ops.toList[j]? = some ops.toList[j]:=ac (by omega)
   exact ⟨L[j],L[j].i,ops.toList[j],e1,e2,rfl,by simp,hV _ (az hjL),hget j _ _ e2 e3⟩
  have hdr':∀kx,kx<ops.size→∀o x,ops[kx]? = some o→is[kx]? = some x→(∀e∈o.after.toList,Region.binds .any e=true→e.on<kx)∧∀ky,ky<kx→((Aj ops.toList []).getD kx 0).testBit ky=true∨∃y,is[ky]? = some y∧Ws is ky kx y x=true:=by
   intro kx hkx o x ho hx;unfold Y1 at hdr;have h1:=df.1 hdr kx (pt.2 (by omega))
   have ho':ops.toList[kx]? = some o:=by simpa using ho
   rw [ho',hx] at h1;simp only [av] at h1;refine ⟨fun e he hb=>?_,fun ky hky=>?_⟩
   ·have:=df.1 h1.1 e he
    simpa [hb] using this
   ·have:=df.1 h1.2 ky (pt.2 hky)
    simp only [Bool.or_eq_true] at this;refine this.imp id fun h=>?_
    split at h
    ·rename_i y hy; exact ⟨y,hy,h⟩
    ·cases h
  refine ⟨fun h0=>?_,fun i hi=>?_⟩
  ·-- the first line that is left is ready
   exfalso;cases rem with
   | nil=>simp at hrl
   | cons r rem=>
    have hr:r<ops.size:=hlt r (by simp)
    obtain ⟨t,ir,o,e1,e2,e3,e4,_⟩:=hline r hr
    have hmem:r∈Region.ready .any ops listed:=by
     rw [mem_ready];have h1:=(hrem r).1 (by simp)
     refine ⟨by rw [fb,h1]; rfl,o,e4,fun e he hb=>?_⟩
     have hon:=(hdr' r hr o ir e4 e2).1 e (by simpa using he) hb
     have hnot:e.on ∉ r::rem:=by
      intro hm;rcases dp.1 hm with rfl | hm
      ·omega
      ·have:=List.rel_of_pairwise_cons hsort hm
       omega
     have hin:e.on<listed.size:=by omega
     have h2:listed[e.on]? = some listed[e.on]:=mz hin;rw [fb,h2];cases hq:listed[e.on] with
     | true=>rfl
     | false=>exact absurd ((hrem e.on).2 (by rw [h2,hq])) hnot
    rw [h0] at hmem;simp at hmem
  ·obtain ⟨hun,o,ho,hpre⟩:=mem_ready.1 hi
   have hil:i<ops.size:=(ch.1 ho).1
   have hif:listed[i]? = some false:=by
    have h2:listed[i]? = some (listed[i]'(by omega)):=mz (by omega)
    rw [fb,h2] at hun;rw [h2]; exact congrArg some hun
   have hirem:=(hrem i).2 hif;obtain ⟨pre,post,rfl⟩:=List.append_of_mem hirem;obtain ⟨t,ii,o',e1,e2,e3,e4,e5,e6⟩:=hline i hil;obtain rfl:o'=o:=au (e4.symm.trans ho)
   have hpreL:∀e∈o'.after.toList,Region.binds .any e=true→listed[e.on]? = some true:=by
    intro e he hb;have:=hpre e (by simpa using he) hb
    cases hq:listed[e.on]? with
    | none=>rw [fb,hq] at this; cases this
    | some b=>rw [fb,hq] at this; simpa using this
   have hsort':=iu.1 hsort
   have hind:∀y∈pre,Ind (L.getD y t0) (L.getD i t0):=by
    intro y hy;have hyi:y<i:=hsort'.2.2 y hy i (by simp)
    have hyrem:y∈pre++i::post:=by simp [hy]
    obtain ⟨ty,iy,oy,y1,y2,y3,y4,y5,y6⟩:=hline y (by omega)
    rcases (hdr' i hil o' ii ho e2).2 y hyi with h1 | ⟨y',h1,h2⟩
    ·exfalso
     have hm:(Aj ops.toList [])[i]? = some ((Aj ops.toList []).getD i 0):=by
      cases hq:(Aj ops.toList [])[i]? with
      | none=>rw [List.getD_eq_getElem?_getD,hq] at h1; simp at h1
      | some m=>rw [getD_some hq]
     have:=Wy ops.toList i _ hm o' (by simpa using ho) _ hcl hpreL y h1
     rw [(hrem y).1 hyrem] at this;cases this
    ·obtain rfl:y'=iy:=au (h1.symm.trans y2)
     rw [getD_some y1,getD_some e1];unfold Ws at h2;simp only [av] at h2;obtain ⟨p1,p2⟩:=h2;rw [←y3,←e3] at p1 p2;refine ⟨p1,?_⟩
     split at p2
     ·rename_i hc
      exact ⟨false,hc,by simp⟩
     ·rename_i hc
      refine ⟨true,hc,fun _=>?_⟩
      simp only [av] at p2;obtain ⟨q1,q2⟩:=p2
      -- the text between them
      have hyl:y<L.length:=by omega
      have hil':i<L.length:=by omega
      have split1:L=L.take y++L[y]::(((L.drop (y+1)).take (i-y-1))++L[i]::L.drop (i+1)):=by
       have s1:L.drop (y+1)=(L.drop (y+1)).take (i-y-1)++(L.drop (y+1)).drop (i-y-1):=(i4 _ _).symm
       have s2:(L.drop (y+1)).drop (i-y-1)=L[i]::L.drop (i+1):=by
        rw [jc,show y+1+(i-y-1)=i by omega,c8 hil']
       have s3:L.drop (y+1)=(L.drop (y+1)).take (i-y-1)++L[i]::L.drop (i+1):=s1.trans (by rw [s2])
       have s4:L=L.take y++L[y]::L.drop (y+1):=by rw [←c8 hyl,i4]
       exact s4.trans (congrArg (fun q=>L.take y++L[y]::q) s3)
      have ey:L[y]=ty:=au ((ac hyl).symm.trans y1);have ei:L[i]=t:=au ((ac hil').symm.trans e1);rw [ey,ei] at split1;have hseq':=hseq;rw [split1] at hseq';refine Seq.apart hseq' ?_ ?_
      ·intro z hz
       have hz':z∈(L.drop y).take (i-y):=by
        rw [c8 hyl,ey,show i-y=(i-y-1)+1 by omega,jf]
        exact hz
       have hzi:z.i∈(is.drop y).take (i-y):=by
        rw [←hL,←List.map_drop,←List.map_take];exact gu hz'
       have:=df.1 q2 z.i hzi
       simpa using this
      ·intro n hn
       have:=df.1 q1 n hn
       simpa using this
     ·cases p2
   have hvp:∀t∈pre.map (fun k=>L.getD k t0),t.Valid O np:=by
    intro t ht;obtain ⟨y,hy,rfl⟩:=cn.1 ht;obtain ⟨ty,_,_,y1,_,_,_,y5,_⟩:=hline y (hlt y (by simp [hy]))
    rw [getD_some y1]; exact y5
   rw [cj,gq] at hch
   obtain ⟨hag,hch'⟩:=acj (by rw [getD_some e1]; exact e5) hs.pi hvp hch (by
    intro t ht;obtain ⟨y,hy,rfl⟩:=cn.1 ht;exact hind y hy)
   rw [getD_some e1] at hag hch';have hex:=e5.exec s hag;rw [e3] at hex;refine t9 (hC▸hO) hs hN (hC▸e6) ho hex fun C' φ' u rn hs'=>?_
   have hC':C'.num=num:=rn.st.le.num.trans hC;have hnd:(pre++i::post).Nodup:=hsort.imp fun h=>by omega
   have hgetset:∀j:Nat,(listed.setIfInBounds i true)[j]? = if j=i then some true else listed[j]?:=by
    intro j;rw [fu]
    by_cases hij:i=j
    ·subst hij; simp [hsz,hil]
    ·rw [if_neg hij,if_neg (f9 hij)]
   refine ih (listed.setIfInBounds i true) (pre++post) C' φ' _ _ (by simp at hrl ⊢; omega) ?_ (by simpa using hsz) ?_ ?_ hC' hs' (by rw [jx]; exact hN) (by rw [cj]; exact hch') ?_
   ·exact hsort.sublist (List.Sublist.append (List.Sublist.refl _) (List.sublist_cons_self _ _))
   ·intro j
    rw [hgetset]
    by_cases hij:j=i
    ·subst hij
     rw [if_pos rfl];refine ⟨fun h=>?_,fun h=>by cases h⟩
     have hn:=List.nodup_append.1 hnd;rcases bp.1 h with h | h
     ·exact absurd rfl (hn.2.2 j h j (by simp))
     ·exact absurd h (jh.1 hn.2.1).1
    ·rw [if_neg hij,←hrem j]
     simp [hij]
   ·intro k o2 hk hkl e he hb
    rw [hgetset] at hkl ⊢
    by_cases hei:e.on=i
    ·rw [if_pos hei]
    ·rw [if_neg hei]
     by_cases hki:k=i
     ·subst hki
      have:o2=o':=by
       have h2:ops[k]? = some o2:=by simpa using hk
       exact au (h2.symm.trans ho)
      subst this;exact hpreL e he hb
     ·rw [if_neg hki] at hkl
      exact hcl k o2 hk hkl e he hb
   ·intro C2 φ2 a2 h2 rn2 hs2 z2 d2
    exact hQ C2 φ2 a2 h2 (rn.trans rn2) hs2 (by rw [z2,jx]) ((Keep.put (df.1 hT _ (by
     have:=Array.mem_toList_iff.2 (Array.mem_of_getElem? ho);exact this)) a u).trans d2)
end Pe
namespace Pe
open Go
open Go.ChangeMaps (setBlock)
variable {P:Program} {num:Nat→Nat}
theorem Of {np:Nat} {C C1:Cx} {φ φ1:Loc} {h:Heap} {s1:St} {tmps:Array Value} (rn:Runs np C C1 φ φ1 h s1.h) (hs:SR C1 φ1 s1 tmps) {r:Nat} (hr0:C.w.heap.size≤r) (hno:¬ OwnB φ1 s1.h r) (hnI:¬ C1.I r)
 {w':World} (hw:∀b,b<C1.w.heap.size→b≠r→w'.heap[b]? = C1.w.heap[b]?) (hsz:C1.w.heap.size≤w'.heap.size) (hos:w'.os=C1.w.os) (hout:w'.output=C1.w.output) (htape:w'.tape=C1.w.tape)
 (hcell:∀a el fz,C1.w.heap[r]? ≠ some (.cells a el fz)):Runs np C { C1 with w:=w' } φ φ1 h s1.h∧SR { C1 with w:=w' } φ1 s1 tmps:=by
 have hC:C1.Le { C1 with w:=w' }:=⟨rfl,fun _ g=>g,fun b g=>hw b (hs.bd b g) (by rintro rfl; exact hnI g)⟩
 have hwd:∀b,Wide C1.w w' b:=by
  intro b a el fz e
  by_cases hb:b=r
  ·subst hb; exact absurd e (hcell a el fz)
  ·exact ⟨a,el,fz,(hw b (ch.1 e).1 hb).trans e,ba _⟩
 have hk:∀v u,RX C1 φ1 s1.h v u→RX { C1 with w:=w' } φ1 s1.h v u:=fun v u g=>
  RX.congr hC v u (fun i _ B hB=>⟨B,hB,.refl B⟩) (fun _ _=>rfl) hwd g
 have hHR:HR { C1 with w:=w' } φ1 s1.h:=by
  refine ⟨fun i B hB=>(hs.hr.blk i B hB).world' hC hwd fun k b o hkp e hl=>?_,hs.hr.inj⟩
  obtain ⟨h1,h2,h3⟩:=RB.at hl (hs.hr.blk i B hB) hkp e
  have hne:b≠r:=by
   rintro rfl
   cases ho:B.own with
   | true=>exact hno ⟨i,k,B,o,hB,ho,hkp,e⟩
   | false=>exact hnI (h3 ho)
  exact ⟨hw b h1 hne,mh⟩
 refine ⟨⟨⟨rn.st.le.trans hC,fun b hb hn=>?_,rn.st.fresh,rn.st.own,ju rn.st.size hsz,hos.trans rn.st.os,hout.trans rn.st.out,htape.trans rn.st.tape,hHR,fun b g=>ep (hs.bd b g) hsz,fun b=>(rn.st.wide b).trans (hwd b)⟩,fun v u hv g=>hk v u (rn.kp v u hv g)⟩,
  ⟨hHR,fun b g=>ep (hs.bd b g) hsz,fun n v hn=>?_⟩⟩
 ·exact (hw b (ep hb rn.st.size) (by omega)).trans (rn.st.kept b hb hn)
 ·obtain ⟨u,h1,h2⟩:=hs.env n v hn
  exact ⟨u,h1,hk v u h2⟩
theorem SR.sub {C:Cx} {φ:Loc} {s:St} {e:Env} {tmps tmps':Array Value} (hs:SR C φ s tmps) (h:∀n v,e.get n=some v→s.e.get n=some v∧tmps'[n]? = tmps[n]?):SR C φ ⟨e,s.h⟩ tmps':=
 ⟨hs.hr,hs.bd,fun n v hn=>by
  obtain ⟨h1,h2⟩:=h n v hn;rw [h2];exact hs.env n v h1⟩
theorem yl {e:Env}:∀{ks:List Nat} {n:Nat} {v:V},(e.keep ks).get n=some v→n∈ks
 | [],n,v,h=>by simp [Env.keep,Env.get] at h
 | k::ks,n,v,h=>by
  simp only [Env.keep] at h
  split at h
  ·simp only [Env.get] at h
   by_cases hk:k=n
   ·simp [hk]
   ·rw [if_neg hk] at h; exact ka _ (yl h)
  ·exact ka _ (yl h)
theorem a8h {C:Cx} {φ:Loc} {e:Env} {h:Heap} {tmps:Array Value} (np:Nat) (hs:SR C φ ⟨e,h⟩ tmps):Runs np C C φ φ h (ma e np 0 h)∧SR C φ ⟨e,ma e np 0 h⟩ tmps:=by
 obtain ⟨st,k⟩:=Nh (h':=ma e np 0 h) hs.hr hs.bd (fun i B hB=>by
  rw [tk] at hB;obtain ⟨b,hb,e⟩:=ae.1 hB
  split at e
  ·subst e; exact .inr hb
  ·exact .inl e.symm) (fun i B hB=>by
  rw [tk,hB];refine ⟨_,rfl,?_⟩
  split
  ·exact .inr rfl
  ·exact .inl rfl)
 have hold:∀v u,RX C φ h v u→(∀i∈v.refs,i<np∨e.refd i=true)→RX C φ (ma e np 0 h) v u:=by
  intro v u g hi;refine k v u (fun i hiv hh=>?_) g
  obtain ⟨B,hB,hn⟩:=RX.refs v u g i hiv;have hh:(ma e np 0 h)[i]? = some Blk.hole:=hh;rw [tk,hB,bc,b9,if_pos (hi i hiv)] at hh;exact hn (au hh)
 refine ⟨⟨st,fun v u hv g=>hold v u g fun i hi=>.inl (by have:=hv i hi; omega)⟩,⟨st.hr,st.bd,fun n v hn=>?_⟩⟩
 obtain ⟨u,h1,h2⟩:=hs.env n v hn;exact ⟨u,h1,hold v u h2 fun i hi=>.inr (T9 hn hi)⟩
theorem Bh {ops:Array Oper} {Q:Exit→Act→World→Prop} {K:Act→World→Prop} {o:Oper} {a:Act} {w w':World} {u:Value} {j:Nat} (ho:ops[j]? = some o) (hg:o.guard=none)
 (hrun:(execOp a.eval o).run P w=.ok (.value u) w') (hK:K (a.put o.dst u) w'):wpOp P ops Q j K a w:=by
 have hw:Region.wanted o (yielded ops a.tmps)=true:=by unfold Region.wanted; rw [hg]
 unfold wpOp;simp only [ho,hw,if_true];left;unfold Oper.wp;rw [hrun];exact hK
theorem Eq {N:Nat} {ops:Array Oper} {is:List Ins} (hok:qp P num ops N is ops.toList=true) {j:Nat} {i:Ins} (hi:is[j]? = some i):∃o,ops[j]? = some o∧Cr P num ops N i o=true:=by
 obtain ⟨hl,hget⟩:=jm hok;have hjl:j<ops.toList.length:=by rw [←hl]; exact (ao.1 hi).1
 have ho:ops.toList[j]? = some ops.toList[j]:=ac hjl;exact ⟨ops.toList[j],by simp,hget j _ _ hi ho⟩
theorem Gv {N:Nat} {ops:Array Oper} {o:Oper} {d:Nat} (h:Cr P num ops N ⟨some d,.fail,none,[]⟩ o=true):o.dst=some d∧d<N∧o.guard=none:=by
 unfold Cr at h;simp only [av,decide_eq_true_eq] at h;obtain ⟨⟨⟨h1,h2⟩,-⟩,h3⟩:=h;refine ⟨h1.symm,by simpa [←h1] using h2,?_⟩
 cases hq:o.guard with
 | none=>rfl
 | some q=>rw [hq] at h3; simp at h3
theorem wz {t:Nat} {T:List Nat} {o:Oper} (h:p6 [t] o=true) (g:p6 T o=true):p6 (t::T) o=true:=by
 unfold p6 at h g ⊢
 split <;> simp_all
theorem a29 {arr:Array MapEntry} {seen:Array Nat} {e:MapEntry} {l r:List MapEntry} (hn:(arr.toList.map (·.born)).Nodup) (h:(leftOf arr seen).toList=l++e::r):(leftOf arr (seen.push e.born)).toList=l++r:=by
 have h1:(leftOf arr (seen.push e.born)).toList=(leftOf arr seen).toList.filter fun x=>x.born != e.born:=by
  unfold leftOf;rw [Array.toList_filter,Array.toList_filter,List.filter_filter];apply List.filter_congr;intro x _;rw [Array.contains_push];cases seen.contains x.born <;> simp [bne]
 have h2:((leftOf arr seen).toList.map (·.born)).Nodup:=by
  unfold leftOf;rw [Array.toList_filter];exact hn.sublist (List.Sublist.map _ List.filter_sublist)
 rw [h1,h];rw [h,cj,gq,List.nodup_append] at h2;obtain ⟨_,h4,h5⟩:=h2;rw [jh] at h4;rw [List.filter_append,List.filter_cons_of_neg (by simp)]
 congr 1
 ·apply List.filter_eq_self.2
  intro x hx;have:=h5 x.born (gu hx) e.born (by simp)
  simpa using this
 ·apply List.filter_eq_self.2
  intro x hx;have:x.born≠e.born:=fun q=>h4.1 (by rw [←q]; exact gu hx)
  simpa using this
end Pe
