/-
  A part of the proof: an evaluator for a small form of the code, its soundness, and contracts of functions over it.
-/
import Derived.Lib.AppendZeros
import Derived.KernelRfl
import Derived.Test.YtjccdlpphbjckaaGreatW1
import Derived.Test.YtjccdlpphbjckaaGreatW2
import Derived.Test.YtjccdlpphbjckaaGreatW3

namespace Pe
open Go
variable {P:Program} {num:Nat→Nat}
def Goes (P:Program) (num:Nat→Nat) (ops:Array Oper) (N np:Nat) (js:List Nat) (s s':St):Prop:=
 ∀(Q:Exit→Act→World→Prop) (rest:List Nat) (C:Cx) (φ:Loc) (a:Act),C.num=num→SR C φ s a.tmps→N≤a.tmps.size →
  (∀C' φ' a',C'.num=num→Runs np C C' φ φ' s.h s'.h→SR C' φ' s' a'.tmps→a'.tmps.size=a.tmps.size→a'.defers=a.defers→wpOps P ops Q rest a' C'.w)→wpOps P ops Q (js++rest) a C.w
theorem Goes.trans {ops:Array Oper} {N np:Nat} {js ks:List Nat} {s s1 s2:St} (h1:Goes P num ops N np js s s1) (h2:Goes P num ops N np ks s1 s2):Goes P num ops N np (js++ks) s s2:=by
 intro Q rest C φ a hC hs hN hK;rw [ee];refine h1 Q (ks++rest) C φ a hC hs hN fun C1 φ1 a1 k1 r1 hs1 z1 d1=>?_
 refine h2 Q rest C1 φ1 a1 k1 hs1 (by rw [z1]; exact hN) fun C2 φ2 a2 k2 r2 hs2 z2 d2=>?_
 exact hK C2 φ2 a2 k2 (r1.trans r2) hs2 (z2.trans z1) (d2.trans d1)
theorem md {ops:Array Oper} {N np:Nat} {is:List Ins} (hok:v5 P num ops N is ops.toList=true) (j:Nat) {i:Ins} (hi:is[j]? = some i) {s s':St} (he:ni (fun _ _ _=>none) np s i=some s'):Goes P num ops N np [j] s s':=by
 obtain ⟨hl,hget⟩:=om hok;have hjl:j<ops.toList.length:=by rw [←hl]; exact (av.1 hi).1
 have ho:ops.toList[j]? = some ops.toList[j]:=af hjl;intro Q rest C φ a hC hs hN hK;show wpOps P ops Q (j::rest) a C.w;rw [wpOps_cons];have ho':ops[j]? = some ops.toList[j]:=by simp
 refine Cc (O:=fun _ _ _=>none) (np:=np) (hC▸Jd) hs hN (hC▸hget j _ _ hi ho) ho' (Hf he) fun C' φ' u rn hs'=>?_
 exact hK C' φ' _ (rn.st.le.num.trans hC) rn hs' (s9 ..) (by cases ops.toList[j].dst <;> rfl)
theorem vr {ops:Array Oper} {N np:Nat} {is:List Ins} (hok:v5 P num ops N is ops.toList=true) (j d:Nat) (hi:is[j]? = some ⟨some d,.fail,none,[]⟩) {s:St} (v:V) (h':Heap)
 (hop:∀o,ops[j]? = some o→∀C φ a,C.num=num→SR C φ s a.tmps→OpGood P o a C φ s.h v h' (fun _=>False)):Goes P num ops N np [j] s ⟨(d,v)::s.e,h'⟩:=by
 obtain ⟨hl,hget⟩:=om hok;have hjl:j<ops.toList.length:=by rw [←hl]; exact (av.1 hi).1
 have ho:ops.toList[j]? = some ops.toList[j]:=af hjl;have ho':ops[j]? = some ops.toList[j]:=by simp
 have hins:=hget j _ _ hi ho;generalize ops.toList[j]=o at ho ho' hins;unfold Mi at hins;simp only [az,decide_eq_true_eq] at hins;obtain ⟨⟨⟨hdst,hdN⟩,-⟩,hguard⟩:=hins;have hd:o.dst=some d:=hdst.symm;have hdN':d<N:=by simpa [hd] using hdN
 have hg:o.guard=none:=by
  cases hq:o.guard with
  | none=>rfl
  | some q=>rw [hq] at hguard; simp at hguard
 intro Q rest C φ a hC hs hN hK;show wpOps P ops Q (j::rest) a C.w;rw [wpOps_cons];have hw:Region.wanted o (yielded ops a.tmps)=true:=by unfold Region.wanted; rw [hg]
 unfold wpOp;simp only [ho'];rw [hw,if_pos rfl];left;refine (hop o ho' C φ a hC hs).wp _ Q fun C' φ' u st hx k=>?_
 refine hK C' φ' _ (st.le.num.trans hC) ⟨st,k.mono fun _ h=>h.elim⟩ ⟨st.hr,st.bd,fun n w hn=>?_⟩ (s9 ..) (by rw [hd]; rfl)
 simp only [Env.get] at hn;rw [hd,J9 (lr hdN' hN)]
 by_cases hdn:d=n
 ·subst hdn
  simp only [if_true,a9] at hn;subst hn;refine ⟨u,if_pos rfl,?_⟩;rcases hx with hx | hx
  ·rw [hd] at hx; cases hx
  ·exact hx
 ·rw [if_neg hdn] at hn
  rw [if_neg (gv hdn)];obtain ⟨u0,h1,h2⟩:=hs.env n w hn;exact ⟨u0,h1,k w u0 (fun _ _ h=>h.elim) h2⟩
theorem If {ops:Array Oper} {N np m:Nat} {s s1:St} (hg:Goes P num ops N np (List.range m) s s1) (hm:ops.size=m) {id:Nat} {ks:List Nat} {Q:Exit→Act→World→Prop} {C:Cx} {φ:Loc} {a:Act} (hC:C.num=num) (hs:SR C φ s a.tmps) (hN:N≤a.tmps.size)
 (hQ:a45 num np Q .normal C φ s.h ⟨s1.e.keep ks,ta (s1.e.keep ks) np 0 s1.h⟩ a):(Code.region id ops false).wp P Q a C.w:=by
 subst hm;refine wp_region ?_
 have:=hg Q [] C φ a hC hs hN fun C' φ' a' h1 h2 h3 h4 h5=>by
  simp only [wpOps];obtain ⟨r1,r2⟩:=Dj np h3 ks;exact hQ C' φ' a' h1 (h2.trans r1) r2 h4 h5
 simpa using this
theorem Je {C:Cx} {φ:Loc} {s:St} {a:Act} (hs:SR C φ s a.tmps) {x:Arg} {x':Operand} (hx:de C.num x x'=true) {sh:Sh} (hv:s.e.arg x=some (.d (.nils sh))):a.eval x'=.slice none 0 0:=by
 have:=cl hs hx hv;simp only [RX,RV,RD] at this;cases hq:a.eval x' <;> simp_all [Value.cells,isAgg,D.isAgg]
def Qd (P:Program) (num:Nat→Nat) (n:Nat) (o:Oper):Bool:=
 match o.op with
 | .call ⟨.builtin .cap,⟨[x']⟩,⟨[t]⟩⟩=>de num (.t n) x'&&(match P.underlying t with | some (.slice _)=>true | _=>false)
 | _=>false
def Ob (P:Program) (num:Nat→Nat) (n:Nat) (o:Oper):Bool:=
 match o.op with
 | .call ⟨.builtin .len,⟨[x']⟩,⟨[t]⟩⟩=>de num (.t n) x'&&(match P.underlying t with | some (.slice _)=>true | _=>false)
 | _=>false
def a1l (P:Program) (num:Nat→Nat) (n m:Nat) (o:Oper):Bool:=
 match o.op with
 | .slice t x' none (some y') none=>de num (.t n) x'&&de num (.t m) y'&&(match P.underlying t with | some (.slice e)=>(P.info? e).isSome | _=>false)
 | _=>false
def Jl (P:Program) (num:Nat→Nat) (n m:Nat) (sh:Sh) (z:D) (bytes:Nat) (o:Oper):Bool:=
 match o.op with
 | .call ⟨.builtin .append,⟨[x',y']⟩,⟨[t,tn]⟩⟩=>de num (.t n) x'&&de num (.t m) y'&&(match P.underlying tn with | some (.int _)=>true | _=>false)&&decide (0<bytes) &&
  (match P.underlying t with | some (.slice e)=>n7 P e sh&&py P e z&&Sh.beq z.sh sh&&decide (0<sh.size)&&(match P.info? e with | some inf=>inf.bytes == bytes | none=>false) | _=>false)
 | _=>false
theorem Tm {C:Cx} {φ:Loc} {s:St} {a:Act} {o:Oper} {n:Nat} {K:Nat→Prop} (hs:SR C φ s a.tmps) (ho:Qd P C.num n o=true) {sh:Sh} (hv:s.e.arg (.t n)=some (.d (.nils sh))):OpGood P o a C φ s.h (.d (.int .i64 0)) s.h K:=by
 unfold Qd at ho
 split at ho
 ·rename_i x' t hq
  simp only [az] at ho;obtain ⟨h1,h2⟩:=ho
  split at h2
  ·rename_i e he
   have hx:=Je hs h1 hv;exact da hs (u:=.int .i64 0) (by simp [execOp,hq,resolve,invoke,builtin,hx,Builtin.cap_,run_underlying he,goInt]) (i7 ..)
  ·cases h2
 ·cases ho
theorem Pp {C:Cx} {φ:Loc} {s:St} {a:Act} {o:Oper} {n:Nat} {K:Nat→Prop} (hs:SR C φ s a.tmps) (ho:Ob P C.num n o=true) {sh:Sh} (hv:s.e.arg (.t n)=some (.d (.nils sh))):OpGood P o a C φ s.h (.d (.int .i64 0)) s.h K:=by
 unfold Ob at ho
 split at ho
 ·rename_i x' t hq
  simp only [az] at ho;obtain ⟨h1,h2⟩:=ho
  split at h2
  ·rename_i e he
   have hx:=Je hs h1 hv;exact da hs (u:=.int .i64 0) (by simp [execOp,hq,resolve,invoke,builtin,hx,Builtin.len_,run_underlying he,goInt]) (i7 ..)
  ·cases h2
 ·cases ho
theorem a2j {C:Cx} {φ:Loc} {s:St} {a:Act} {o:Oper} {n m:Nat} {K:Nat→Prop} (hs:SR C φ s a.tmps) (ho:a1l P C.num n m o=true) {sh:Sh} (hv:s.e.arg (.t n)=some (.d (.nils sh))) (hm:s.e.arg (.t m)=some (.d (.int .i64 0))):OpGood P o a C φ s.h (.d (.nils sh)) s.h K:=by
 unfold a1l at ho
 split at ho
 ·rename_i t x' y' hq
  simp only [az] at ho;obtain ⟨⟨h1,h2⟩,h3⟩:=ho
  split at h3
  ·rename_i e he
   obtain ⟨inf,hinf⟩:=Option.isSome_iff_exists.1 h3;have hx:=Je hs h1 hv
   have hn:fh s.e (some (.t m)) 0=some 0:=by
    show (s.e.arg (.t m)).bind V.nat? = some 0;rw [hm]; rfl
   have hb:=Df (isS:=true) (len:=0) (cap:=0) (l:=0) (hh:=0) (m:=0) (lo:=none) (hi:=some (.t m)) (mx:=none) (lo':=none) (hi':=some y') (mx':=none) (P:=P) hs rfl (by simpa [pm] using h2) rfl rfl hn rfl (bp _) (bp _)
   refine da hs (u:=.slice none 0 0) ?_ ?_
   ·simp only [Option.map_none,ck] at hb
    simp [execOp,hq,hx,Instr.sliceAt,Instr.slice,run_underlying he,hb,ij hinf]
   ·rw [←hx]
    exact cl hs h1 hv
  ·cases h3
 ·cases ho
theorem Yf {C:Cx} {φ:Loc} {s:St} {a:Act} {o:Oper} {n m i:Nat} {sh:Sh} {z:D} {bytes:Nat} (hs:SR C φ s a.tmps) (ho:Jl P C.num n m sh z bytes o=true) {sh':Sh} (hv:s.e.arg (.t n)=some (.d (.nils sh'))) {k:Nat} (hk:s.e.arg (.t m)=some (.d (.int .i64 k))) (h0:0<k)
 (hroom:k*bytes≤1099511627776) (hi:s.h[i]? = some .hole):OpGood P o a C φ s.h (.sl i [] 0 k none) (s.h.set i (.sl false sh (List.replicate k z))) (fun _=>False):=by
 unfold Jl at ho
 split at ho
 ·rename_i x' y' t tn hq
  simp only [az,decide_eq_true_eq] at ho;obtain ⟨⟨⟨⟨h1,h2⟩,h3⟩,hby⟩,h4⟩:=ho
  split at h4
  ·rename_i e he
   simp only [az,decide_eq_true_eq] at h4;obtain ⟨⟨⟨⟨g1,g2⟩,g3⟩,g4⟩,g5⟩:=h4
   split at h3
   ·rename_i kn hkn
    split at g5
    ·rename_i inf hinf
     have g5':inf.bytes=bytes:=by simpa using g5
     obtain ⟨inf2,u,hinf2,hiz,-,hzv,hnt⟩:=pt g2;obtain rfl:inf=inf2:=b6 (hinf.symm.trans hinf2);obtain ⟨ie,hie,hse⟩:=i8 g1;obtain rfl:inf=ie:=b6 (hinf.symm.trans hie);have hzs:=Sh.beq_eq _ _ g3;have hx:=Je hs h1 hv;have hy:=ma (cl hs h2 hk)
     have hkb:k*1≤k*bytes:=nj _ hby
     have hrun:=Lib.run_append_nil_zeros (P:=P) C.w t tn o.type e inf u .i64 kn he hkn hinf hiz k h0 (by rw [hse]; exact g4) (by omega) (by rw [g5']; omega)
     obtain ⟨st1,k1⟩:=Pz (C:=C) (w':=C.w.drew) hs.hr hs.bd ⟨rfl,rfl,rfl,rfl⟩;obtain ⟨ha,hcells⟩:=(hzv { C with w:=C.w.drew }).notTup hnt
     have hul:u.cells.size=sh.size:=by rw [←hzs,←jo z _ hcells]; simp
     have hsz0:∀c:Nat,(Builtin.zeroCells u.cells c).size=c*sh.size:=by
      intro c;simp [Builtin.zeroCells,hul]
     have hge:=grownCap_ge C.w k 0 e
     obtain ⟨st2,k2,hv2⟩:=y8 (C:={ C with w:=C.w.drew }) (φ:=φ) (s:=s) st1.hr st1.bd (sh:=sh) (xs:=List.replicate k z) (cs:=Builtin.zeroCells u.cells k++Builtin.zeroCells u.cells (grownCap C.w k 0 e-k)) (us:=(List.replicate k u.cells.toList).flatten) e (ru hzs hcells k)
      (fun j v hj=>by
       have hfl:=io u.cells (by omega) k
       have hjl:=(av.1 hj).1;have e1:(Builtin.zeroCells u.cells k).toList=(List.replicate k u.cells.toList).flatten:=hfl;rw [lq (by rw [←rq,e1]; exact hjl),←jq,e1]
       exact hj) hi (len:=k) (c:=grownCap C.w k 0 e) (cap:=none) (by simp) hge (by simp) (by
       rw [Array.size_append,hsz0,hsz0,←oc];exact gi _ (by omega))
     refine ⟨_,_,_,_,?_,.inl rfl,st1.trans st2,hv2,k1.trans k2⟩;rw [←hx,←hy] at hrun;simp [execOp,hq,resolve,invoke,builtin,hrun]
    ·cases g5
   ·cases h3
  ·cases h4
 ·cases ho
def Y5:List Ins:=[⟨some 8,.mv (.t 1),none,[]⟩,⟨some 9,.mv (.t 0),none,[]⟩,⟨some 10,.fail,none,[]⟩,⟨some 11,.mv (.t 0),none,[]⟩,⟨some 12,.fail,none,[]⟩,⟨some 13,.bin .sub (.t 10) (.t 12),none,[]⟩,⟨some 14,.bin .sub (.t 8) (.t 13),none,[]⟩,⟨some 1,.mv (.t 14),none,[]⟩]
def Yb (s:Sh):List Ins:=[⟨some 17,.mv (.t 0),none,[]⟩,⟨some 18,.mv (.t 0),none,[]⟩,⟨some 19,.fail,none,[]⟩,⟨some 20,.fail,none,[]⟩,⟨some 21,.mv (.t 1),none,[]⟩,⟨some 22,.fail,none,[]⟩,⟨some 23,.mv (.t 0),none,[]⟩,⟨some 24,.fail,none,[]⟩,⟨some 25,.cut none s (.t 22) none (some (.t 24)) none,none,[]⟩,⟨some 0,.mv (.t 25),none,[]⟩]
def a97 (s:Sh):Cd:=
 .seq (.region [⟨some 4,.nilOwn 0 s,none,[]⟩] [0,1])
 (.seq (.seq (.region [⟨some 5,.mv (.t 1),none,[]⟩,⟨some 6,.bin .lss (.t 5) (.c (.int .i64 0)),none,[]⟩] [0,1,6])
  (.cond (.t 6) (.region [⟨some 7,.fail,none,[]⟩,⟨none,.fail,none,[]⟩] [0,1]) .skip))
 (.seq (.seq (.region Y5 [0,1])
  (.seq (.region [⟨some 15,.mv (.t 1),none,[]⟩,⟨some 16,.bin .gtr (.t 15) (.c (.int .i64 0)),none,[]⟩] [0,1,16])
   (.cond (.t 16) (.region (Yb s) [0]) .skip)))
  (.seq (.region [⟨some 26,.mv (.t 0),none,[]⟩,⟨some 4,.mv (.t 26),none,[]⟩] [4]) .ret)))
def Hc (s:Sh):Fn:={ nparams:=2,nblk:=2,results:=[.tmp 4],body:=a97 s }
def u6 (f:Oper→Bool) (o:Option Oper):Bool:=
 match o with
 | some o=>f o
 | none=>false
def t7 (P:Program) (num:Nat→Nat) (s:Sh) (z:D) (bytes:Nat):Code→Bool
 | .seq _ (.seq _ (.seq (.seq (.region _ a false) (.seq _ (.cond _ (.region _ b false) _))) _))=>
  u6 (Qd P num 9) a[2]? && u6 (Ob P num 11) a[4]? && u6 (Qd P num 18) b[2]? && u6 (a1l P num 17 19) b[3]? && u6 (Jl P num 20 21 s z bytes) b[5]? && u6 (Ob P num 23) b[7]?
 | _=>false
theorem u4 {f:Oper→Bool} {x:Option Oper} (h:u6 f x=true) {o:Oper} (ho:x=some o):f o=true:=by
 subst ho; exact h
theorem X1 {a:Array Oper} {N:Nat} {s:Sh} {n:Nat} {r:Env} (hn:n≤1099511627776) (hok:v5 P num a N Y5 a.toList=true) (h1:u6 (Qd P num 9) a[2]? = true) (h2:u6 (Ob P num 11) a[4]? = true) :
 Goes P num a N 0 (List.range 8) ⟨[(0,.d (.nils s)),(1,.d (.int .i64 n))]++r,[.hole,.hole]⟩ ⟨[(1,.d (.int .i64 n)),(14,.d (.int .i64 n)),(13,.d (.int .i64 0)),(12,.d (.int .i64 0)),(11,.d (.nils s)),(10,.d (.int .i64 0)),(9,.d (.nils s)),(8,.d (.int .i64 n)),(0,.d (.nils s)),(1,.d (.int .i64 n))]++r,[.hole,.hole]⟩:=by
 have hw:IntKind.i64.wrap (n:Int)=n:=by simp [IntKind.wrap,IntKind.bits,IntKind.signed]; omega
 have g0:Goes P num a N 0 [0] ⟨[(0,.d (.nils s)),(1,.d (.int .i64 n))]++r,[.hole,.hole]⟩ ⟨[(8,.d (.int .i64 n)),(0,.d (.nils s)),(1,.d (.int .i64 n))]++r,[.hole,.hole]⟩:=md hok 0 rfl rfl;have g1:Goes P num a N 0 [1] ⟨[(8,.d (.int .i64 n)),(0,.d (.nils s)),(1,.d (.int .i64 n))]++r,[.hole,.hole]⟩ ⟨[(9,.d (.nils s)),(8,.d (.int .i64 n)),(0,.d (.nils s)),(1,.d (.int .i64 n))]++r,[.hole,.hole]⟩:=md hok 1 rfl rfl;have g2:Goes P num a N 0 [2] ⟨[(9,.d (.nils s)),(8,.d (.int .i64 n)),(0,.d (.nils s)),(1,.d (.int .i64 n))]++r,[.hole,.hole]⟩ ⟨[(10,.d (.int .i64 0)),(9,.d (.nils s)),(8,.d (.int .i64 n)),(0,.d (.nils s)),(1,.d (.int .i64 n))]++r,[.hole,.hole]⟩:=vr hok 2 10 rfl (.d (.int .i64 0)) _ fun o ho C φ a hC hs=>Tm hs (hC▸u4 h1 ho) rfl
 have g3:Goes P num a N 0 [3] ⟨[(10,.d (.int .i64 0)),(9,.d (.nils s)),(8,.d (.int .i64 n)),(0,.d (.nils s)),(1,.d (.int .i64 n))]++r,[.hole,.hole]⟩ ⟨[(11,.d (.nils s)),(10,.d (.int .i64 0)),(9,.d (.nils s)),(8,.d (.int .i64 n)),(0,.d (.nils s)),(1,.d (.int .i64 n))]++r,[.hole,.hole]⟩:=md hok 3 rfl rfl;have g4:Goes P num a N 0 [4] ⟨[(11,.d (.nils s)),(10,.d (.int .i64 0)),(9,.d (.nils s)),(8,.d (.int .i64 n)),(0,.d (.nils s)),(1,.d (.int .i64 n))]++r,[.hole,.hole]⟩ ⟨[(12,.d (.int .i64 0)),(11,.d (.nils s)),(10,.d (.int .i64 0)),(9,.d (.nils s)),(8,.d (.int .i64 n)),(0,.d (.nils s)),(1,.d (.int .i64 n))]++r,[.hole,.hole]⟩:=vr hok 4 12 rfl (.d (.int .i64 0)) _ fun o ho C φ a hC hs=>Pp hs (hC▸u4 h2 ho) rfl
 have g5:Goes P num a N 0 [5] ⟨[(12,.d (.int .i64 0)),(11,.d (.nils s)),(10,.d (.int .i64 0)),(9,.d (.nils s)),(8,.d (.int .i64 n)),(0,.d (.nils s)),(1,.d (.int .i64 n))]++r,[.hole,.hole]⟩ ⟨[(13,.d (.int .i64 0)),(12,.d (.int .i64 0)),(11,.d (.nils s)),(10,.d (.int .i64 0)),(9,.d (.nils s)),(8,.d (.int .i64 n)),(0,.d (.nils s)),(1,.d (.int .i64 n))]++r,[.hole,.hole]⟩:=md hok 5 rfl rfl;have g6:Goes P num a N 0 [6] ⟨[(13,.d (.int .i64 0)),(12,.d (.int .i64 0)),(11,.d (.nils s)),(10,.d (.int .i64 0)),(9,.d (.nils s)),(8,.d (.int .i64 n)),(0,.d (.nils s)),(1,.d (.int .i64 n))]++r,[.hole,.hole]⟩ ⟨[(14,.d (.int .i64 n)),(13,.d (.int .i64 0)),(12,.d (.int .i64 0)),(11,.d (.nils s)),(10,.d (.int .i64 0)),(9,.d (.nils s)),(8,.d (.int .i64 n)),(0,.d (.nils s)),(1,.d (.int .i64 n))]++r,[.hole,.hole]⟩:=md hok 6 rfl (by simp [ni,kj,Ins.side,Ins.on,bc,Env.arg,Env.get,Env.putO,Env.kill,Op.kill,vh,xi,hw])
 have g7:Goes P num a N 0 [7] ⟨[(14,.d (.int .i64 n)),(13,.d (.int .i64 0)),(12,.d (.int .i64 0)),(11,.d (.nils s)),(10,.d (.int .i64 0)),(9,.d (.nils s)),(8,.d (.int .i64 n)),(0,.d (.nils s)),(1,.d (.int .i64 n))]++r,[.hole,.hole]⟩ ⟨[(1,.d (.int .i64 n)),(14,.d (.int .i64 n)),(13,.d (.int .i64 0)),(12,.d (.int .i64 0)),(11,.d (.nils s)),(10,.d (.int .i64 0)),(9,.d (.nils s)),(8,.d (.int .i64 n)),(0,.d (.nils s)),(1,.d (.int .i64 n))]++r,[.hole,.hole]⟩:=md hok 7 rfl rfl;exact (((((((g0).trans g1).trans g2).trans g3).trans g4).trans g5).trans g6).trans g7
theorem a4e {b:Array Oper} {N:Nat} {s:Sh} {z:D} {bytes n:Nat} {r:Env} (h0:0<n) (hroom:n*bytes≤1099511627776) (hbeq:Sh.beq s s=true) (hok:v5 P num b N (Yb s) b.toList=true) (h1:u6 (Qd P num 18) b[2]? = true) (h2:u6 (a1l P num 17 19) b[3]? = true)
 (h3:u6 (Jl P num 20 21 s z bytes) b[5]? = true) (h4:u6 (Ob P num 23) b[7]? = true) :
 Goes P num b N 0 (List.range 10) ⟨[(0,.d (.nils s)),(1,.d (.int .i64 n))]++r,[.hole,.hole]⟩ ⟨[(0,.sl 1 [] 0 0 none),(25,.sl 1 [] 0 0 none),(24,.d (.int .i64 0)),(23,.d (.nils s)),(22,.sl 1 [] 0 n none),(21,.d (.int .i64 n)),(20,.d (.nils s)),(19,.d (.int .i64 0)),(18,.d (.nils s)),(17,.d (.nils s)),(0,.d (.nils s)),(1,.d (.int .i64 n))]++r,[.hole,.sl false s (List.replicate n z)]⟩:=by
 have g0:Goes P num b N 0 [0] ⟨[(0,.d (.nils s)),(1,.d (.int .i64 n))]++r,[.hole,.hole]⟩ ⟨[(17,.d (.nils s)),(0,.d (.nils s)),(1,.d (.int .i64 n))]++r,[.hole,.hole]⟩:=md hok 0 rfl rfl;have g1:Goes P num b N 0 [1] ⟨[(17,.d (.nils s)),(0,.d (.nils s)),(1,.d (.int .i64 n))]++r,[.hole,.hole]⟩ ⟨[(18,.d (.nils s)),(17,.d (.nils s)),(0,.d (.nils s)),(1,.d (.int .i64 n))]++r,[.hole,.hole]⟩:=md hok 1 rfl rfl;have g2:Goes P num b N 0 [2] ⟨[(18,.d (.nils s)),(17,.d (.nils s)),(0,.d (.nils s)),(1,.d (.int .i64 n))]++r,[.hole,.hole]⟩ ⟨[(19,.d (.int .i64 0)),(18,.d (.nils s)),(17,.d (.nils s)),(0,.d (.nils s)),(1,.d (.int .i64 n))]++r,[.hole,.hole]⟩:=vr hok 2 19 rfl (.d (.int .i64 0)) _ fun o ho C φ a hC hs=>Tm hs (hC▸u4 h1 ho) rfl
 have g3:Goes P num b N 0 [3] ⟨[(19,.d (.int .i64 0)),(18,.d (.nils s)),(17,.d (.nils s)),(0,.d (.nils s)),(1,.d (.int .i64 n))]++r,[.hole,.hole]⟩ ⟨[(20,.d (.nils s)),(19,.d (.int .i64 0)),(18,.d (.nils s)),(17,.d (.nils s)),(0,.d (.nils s)),(1,.d (.int .i64 n))]++r,[.hole,.hole]⟩:=vr hok 3 20 rfl (.d (.nils s)) _ fun o ho C φ a hC hs=>a2j hs (hC▸u4 h2 ho) rfl rfl
 have g4:Goes P num b N 0 [4] ⟨[(20,.d (.nils s)),(19,.d (.int .i64 0)),(18,.d (.nils s)),(17,.d (.nils s)),(0,.d (.nils s)),(1,.d (.int .i64 n))]++r,[.hole,.hole]⟩ ⟨[(21,.d (.int .i64 n)),(20,.d (.nils s)),(19,.d (.int .i64 0)),(18,.d (.nils s)),(17,.d (.nils s)),(0,.d (.nils s)),(1,.d (.int .i64 n))]++r,[.hole,.hole]⟩:=md hok 4 rfl rfl;have g5:Goes P num b N 0 [5] ⟨[(21,.d (.int .i64 n)),(20,.d (.nils s)),(19,.d (.int .i64 0)),(18,.d (.nils s)),(17,.d (.nils s)),(0,.d (.nils s)),(1,.d (.int .i64 n))]++r,[.hole,.hole]⟩ ⟨[(22,.sl 1 [] 0 n none),(21,.d (.int .i64 n)),(20,.d (.nils s)),(19,.d (.int .i64 0)),(18,.d (.nils s)),(17,.d (.nils s)),(0,.d (.nils s)),(1,.d (.int .i64 n))]++r,[.hole,.sl false s (List.replicate n z)]⟩:=vr hok 5 22 rfl (.sl 1 [] 0 n none) _ fun o ho C φ a hC hs=>Yf hs (hC▸u4 h3 ho) rfl rfl h0 hroom rfl
 have g6:Goes P num b N 0 [6] ⟨[(22,.sl 1 [] 0 n none),(21,.d (.int .i64 n)),(20,.d (.nils s)),(19,.d (.int .i64 0)),(18,.d (.nils s)),(17,.d (.nils s)),(0,.d (.nils s)),(1,.d (.int .i64 n))]++r,[.hole,.sl false s (List.replicate n z)]⟩ ⟨[(23,.d (.nils s)),(22,.sl 1 [] 0 n none),(21,.d (.int .i64 n)),(20,.d (.nils s)),(19,.d (.int .i64 0)),(18,.d (.nils s)),(17,.d (.nils s)),(0,.d (.nils s)),(1,.d (.int .i64 n))]++r,[.hole,.sl false s (List.replicate n z)]⟩:=md hok 6 rfl rfl;have g7:Goes P num b N 0 [7] ⟨[(23,.d (.nils s)),(22,.sl 1 [] 0 n none),(21,.d (.int .i64 n)),(20,.d (.nils s)),(19,.d (.int .i64 0)),(18,.d (.nils s)),(17,.d (.nils s)),(0,.d (.nils s)),(1,.d (.int .i64 n))]++r,[.hole,.sl false s (List.replicate n z)]⟩ ⟨[(24,.d (.int .i64 0)),(23,.d (.nils s)),(22,.sl 1 [] 0 n none),(21,.d (.int .i64 n)),(20,.d (.nils s)),(19,.d (.int .i64 0)),(18,.d (.nils s)),(17,.d (.nils s)),(0,.d (.nils s)),(1,.d (.int .i64 n))]++r,[.hole,.sl false s (List.replicate n z)]⟩:=vr hok 7 24 rfl (.d (.int .i64 0)) _ fun o ho C φ a hC hs=>Pp hs (hC▸u4 h4 ho) rfl
 have g8:Goes P num b N 0 [8] ⟨[(24,.d (.int .i64 0)),(23,.d (.nils s)),(22,.sl 1 [] 0 n none),(21,.d (.int .i64 n)),(20,.d (.nils s)),(19,.d (.int .i64 0)),(18,.d (.nils s)),(17,.d (.nils s)),(0,.d (.nils s)),(1,.d (.int .i64 n))]++r,[.hole,.sl false s (List.replicate n z)]⟩ ⟨[(25,.sl 1 [] 0 0 none),(24,.d (.int .i64 0)),(23,.d (.nils s)),(22,.sl 1 [] 0 n none),(21,.d (.int .i64 n)),(20,.d (.nils s)),(19,.d (.int .i64 0)),(18,.d (.nils s)),(17,.d (.nils s)),(0,.d (.nils s)),(1,.d (.int .i64 n))]++r,[.hole,.sl false s (List.replicate n z)]⟩:=md hok 8 rfl (by simp [ni,kj,Ins.side,Ins.on,bc,Env.arg,Env.get,Env.putO,Env.kill,Op.kill,Blk.elems,fh,V.nat?,hbeq])
 have g9:Goes P num b N 0 [9] ⟨[(25,.sl 1 [] 0 0 none),(24,.d (.int .i64 0)),(23,.d (.nils s)),(22,.sl 1 [] 0 n none),(21,.d (.int .i64 n)),(20,.d (.nils s)),(19,.d (.int .i64 0)),(18,.d (.nils s)),(17,.d (.nils s)),(0,.d (.nils s)),(1,.d (.int .i64 n))]++r,[.hole,.sl false s (List.replicate n z)]⟩ ⟨[(0,.sl 1 [] 0 0 none),(25,.sl 1 [] 0 0 none),(24,.d (.int .i64 0)),(23,.d (.nils s)),(22,.sl 1 [] 0 n none),(21,.d (.int .i64 n)),(20,.d (.nils s)),(19,.d (.int .i64 0)),(18,.d (.nils s)),(17,.d (.nils s)),(0,.d (.nils s)),(1,.d (.int .i64 n))]++r,[.hole,.sl false s (List.replicate n z)]⟩:=md hok 9 rfl rfl;exact (((((((((g0).trans g1).trans g2).trans g3).trans g4).trans g5).trans g6).trans g7).trans g8).trans g9
theorem a35 {C:Cx} {φ:Loc} {e:Env} {h:Heap} {tmps:Array Value} (hs:SR C φ ⟨e,h⟩ tmps) {n i:Nat} {s:Sh} (hn:e.get n=some (.d (.nils s))) (hi:h[i]? = some .hole) :
 ∃φ',Runs 0 C C φ φ' h (h.set i (.sl false s []))∧SR C φ' ⟨[(n,.sl i [] 0 0 none)],h.set i (.sl false s [])⟩ tmps:=by
 obtain ⟨st,k⟩:=wu hs.hr hs.bd hi (w':=C.w) (B:=.sl false s []) (l:=none) (fun _ _=>rfl) (bp _) rfl rfl rfl (by simp) (by simp [RB])
 have hil:i<h.length:=(av.1 hi).1;refine ⟨φ.put i none,⟨st,k.mono fun _ h=>h.elim⟩,st.hr,st.bd,fun m v hm=>?_⟩
 simp only [Env.get] at hm
 split at hm
 ·rename_i e1
  subst e1;obtain rfl:=b6 hm;obtain ⟨u,h1,h2⟩:=hs.env n _ hn;refine ⟨u,h1,?_⟩
  have hu:u=.slice none 0 0:=by
   simp only [RX,RV,RD] at h2;cases u <;> simp_all [Value.cells,isAgg,D.isAgg]
  subst hu;simp only [RX];exact ⟨_,0,s,0,none,0,bg hil,by simp [Blk.run],by omega,rfl,by omega,by simp,by simp⟩
 ·cases hm
def Jr (s:Sh) (z:D) (n:Nat):St:=⟨[(4,.sl 1 [] 0 0 none)],[.hole,.sl false s (List.replicate n z)]⟩
theorem aan {s:Sh} {z:D} {bytes N n:Nat} (hm:P.follows .mixedOrders=true) {x:Code} (hok:jb P num N (a97 s) x=true) (hshape:t7 P num s z bytes x=true) (hbeq:Sh.beq s s=true) (hroom:n*bytes≤1099511627776) (hn:n≤1099511627776)
 (C:Cx) (φ:Loc) (a:Act) (hC:C.num=num) (hs:SR C φ ⟨params 0 [.d (.nils s),.d (.int .i64 n)],[]++List.replicate 2 .hole⟩ a.tmps) (hN:N≤a.tmps.size)
 (Q:Exit→Act→World→Prop) (hQ:a45 num 0 Q .ret C φ ([]++List.replicate 2 .hole) (Jr s z n) a):x.wp P Q a C.w:=by
 obtain ⟨x1,x2,rfl,ok1,ok2⟩:=q9 hok;obtain ⟨x3,x4,rfl,ok3,ok4⟩:=q9 ok2;obtain ⟨x5,x6,rfl,ok5,ok6⟩:=q9 ok4;obtain ⟨x7,x8,rfl,ok7,ok8⟩:=q9 ok5;obtain ⟨x9,xc,rfl,ok9,okc⟩:=q9 ok8;have nc:ko P num (fun _ _ _=>none):=Jd
 have hn0:¬ ((n:Int)<0):=by omega
 cases x7 <;> simp only [jb,ba,az] at ok7
 rename_i id3 ra draw3
 cases xc <;> simp only [jb,ba,az] at okc
 rename_i cc xb xe
 obtain ⟨⟨okc1,okb⟩,oke⟩:=okc;cases xb <;> simp only [jb,ba,az] at okb
 rename_i id5 rb draw5
 cases draw3 with
 | true=>simp [t7] at hshape
 | false=>
 cases draw5 with
 | true=>simp [t7] at hshape
 | false=>
 simp only [t7,az] at hshape;obtain ⟨⟨⟨⟨⟨h1,h2⟩,h3⟩,h4⟩,h5⟩,h6⟩:=hshape
 have ra8:ra.size=8:=by
  have:=(om ok7.1).1
  simpa [Y5] using this.symm
 have rb10:rb.size=10:=by
  have:=(om okb.1).1
  simpa [Yb] using this.symm
 refine wp_seq (lm (O:=fun _ _ _=>none) (np:=0) (N:=N) nc hm 1 _ _ ok1 C φ _ ⟨[(0,.d (.nils s)),(1,.d (.int .i64 n))],[.hole,.hole]⟩ a .normal hC hs hN rfl _ ?_)
 intro C1 φ1 a1 k1 r1 hs1 z1 d1
 refine wp_seq (lm (O:=fun _ _ _=>none) (np:=0) (N:=N) nc hm 1 _ _ ok3 C1 φ1 _ ⟨[(0,.d (.nils s)),(1,.d (.int .i64 n)),(6,.d (.bool false))],[.hole,.hole]⟩ a1 .normal k1 hs1 (by rw [z1]; exact hN) (by
  simp [fk,i6,ni,kj,Ins.side,Ins.on,bc,Env.arg,Env.get,Env.putO,Env.kill,Op.kill,Env.keep,ta,Env.refd,V.refs,vh,xi,hn0]) _ ?_)
 intro C2 φ2 a2 k2 r2 hs2 z2 d2;refine wp_seq (wp_seq (If (ks:=[0,1]) (X1 (r:=[(6,.d (.bool false))]) hn ok7.1 h1 h2) ra8 k2 hs2 (by rw [z2,z1]; exact hN) ?_))
 intro C3 φ3 a3 k3 r3 hs3 z3 d3;have hs3':SR C3 φ3 ⟨[(0,.d (.nils s)),(1,.d (.int .i64 n))],[.hole,.hole]⟩ a3.tmps:=hs3;have N3:N≤a3.tmps.size:=by rw [z3,z2,z1]; exact hN
 have r03:Runs 0 C C3 φ φ3 ([]++List.replicate 2 .hole) [.hole,.hole]:=(r1.trans r2).trans r3;have z03:a3.tmps.size=a.tmps.size:=z3.trans (z2.trans z1);have d03:a3.defers=a.defers:=d3.trans (d2.trans d1)
 by_cases h0:n=0
 ·subst h0
  refine wp_seq (lm (O:=fun _ _ _=>none) (np:=0) (N:=N) nc hm 1 _ _ ok9 C3 φ3 _ ⟨[(0,.d (.nils s)),(1,.d (.int .i64 (0:Nat))),(16,.d (.bool false))],[.hole,.hole]⟩ a3 .normal k3 hs3' N3 rfl _ ?_)
  intro C4 φ4 a4 k4 r4 hs4 z4 d4;refine wp_cond_false (G3 (cl hs4 (k4▸okc1) rfl)) ?_;cases xe <;> simp only [jb,ba] at oke
  refine wp_skip ?_;refine lm (O:=fun _ _ _=>none) (np:=0) (N:=N) nc hm 1 _ _ ok6 C4 φ4 _ ⟨[(4,.d (.nils s))],[.hole,.hole]⟩ a4 .ret k4 hs4 (by rw [z4]; exact N3) rfl _ ?_
  intro C5 φ5 a5 k5 r5 hs5 z5 d5;obtain ⟨φ6,r6,hs6⟩:=a35 (n:=4) (i:=1) (s:=s) hs5 rfl rfl;exact hQ C5 φ6 a5 k5 (((r03.trans r4).trans r5).trans r6) hs6 (z5.trans (z4.trans z03)) (d5.trans (d4.trans d03))
 ·have hpos:0<n:=by omega
  refine wp_seq (lm (O:=fun _ _ _=>none) (np:=0) (N:=N) nc hm 1 _ _ ok9 C3 φ3 _ ⟨[(0,.d (.nils s)),(1,.d (.int .i64 n)),(16,.d (.bool true))],[.hole,.hole]⟩ a3 .normal k3 hs3' N3 (by
   simp [fk,i6,ni,kj,Ins.side,Ins.on,bc,Env.arg,Env.get,Env.putO,Env.kill,Op.kill,Env.keep,ta,Env.refd,V.refs,vh,xi,hpos]) _ ?_)
  intro C4 φ4 a4 k4 r4 hs4 z4 d4;refine wp_cond_true (G3 (cl hs4 (k4▸okc1) rfl)) ?_;refine If (ks:=[0]) (a4e (r:=[(16,.d (.bool true))]) hpos hroom hbeq okb.1 h3 h4 h5 h6) rb10 k4 hs4 (by rw [z4]; exact N3) ?_
  intro C5 φ5 a5 k5 r5 hs5 z5 d5;have N5:N≤a5.tmps.size:=by rw [z5,z4]; exact N3
  refine lm (O:=fun _ _ _=>none) (np:=0) (N:=N) nc hm 1 _ _ ok6 C5 φ5 ⟨[(0,.sl 1 [] 0 0 none)],[.hole,.sl false s (List.replicate n z)]⟩ (Jr s z n) a5 .ret k5 hs5 N5 rfl _ ?_
  intro C6 φ6 a6 k6 r6 hs6 z6 d6;exact hQ C6 φ6 a6 k6 (((r03.trans r4).trans r5).trans r6) hs6 (z6.trans (z5.trans (z4.trans z03))) (d6.trans (d5.trans (d4.trans d03)))
theorem Xc {s:Sh} {z:D} {bytes:Nat} (hm:P.follows .mixedOrders=true) {f:Nat} {g:Func} (hg:P.funcs[num f]? = some g) (hok:B4 P num (Hc s) g=true) (hshape:(match g.body with | some x=>t7 P num s z bytes x | none=>false)=true) (hbeq:Sh.beq s s=true)
 {n:Nat} (hroom:n*bytes≤1099511627776) (hn:n≤1099511627776) {C:Cx} {φ:Loc} {us:List Value} (hC:C.num=num) (hr:HR C φ []) (hb:∀b,C.I b→b<C.w.heap.size) (hv:RXs C φ [] [.d (.nils s),.d (.int .i64 n)] us) :
 Tv P (num f) us C φ [] [.sl false s (List.replicate n z)] (.sl 0 [] 0 0 none):=by
 unfold B4 at hok;simp only [az,bne_iff_ne,ne_eq,decide_eq_true_eq] at hok;obtain ⟨⟨⟨hname,hnp⟩,hres⟩,hbody⟩:=hok;cases hcode:g.body with
 | none=>rw [hcode] at hbody; cases hbody
 | some code=>
  rw [hcode] at hbody hshape;simp only at hbody hshape;refine (Yx (Hc s) hg hname hnp hres hcode (vs:=[.d (.nils s),.d (.int .i64 n)]) (bs:=[]) (ans:=(.sl 0 [] 0 0 none,[],[.sl false s (List.replicate n z)])) .ret (Jr s z n) rfl ?_ (fun C φ a hC hs hN Q hQ=>aan hm hbody hshape hbeq hroom hn C φ a hC hs hN Q hQ) hC hr hb hv).2
  simp [Hc,Jr,yp,Ul,Env.get,n6,uz,V.refs,Heap.pick,V.ren,List.idxOf,List.findIdx,List.findIdx.go]
def Oy (ids:Nat→Option (Sh×D×Nat)):ap:=fun f vs bs=>
 match ids f with
 | some (s,z,bytes)=>match vs with
  | [.d (.nils t),.d (.int .i64 (.ofNat n))]=>match bs with
   | []=>if Sh.beq t s=true∧n*bytes≤1099511627776∧n≤1099511627776 then some (.sl 0 [] 0 0 none,[],[.sl false s (List.replicate n z)]) else none
   | _=>none
  | _=>none
 | none=>none
theorem a5h {ids:Nat→Option (Sh×D×Nat)} {f:Nat} {s:Sh} {z:D} {bytes:Nat} {n:Nat} (h1:ids f=some (s,z,bytes)) (h0:Sh.beq s s=true) (h2:n*bytes≤1099511627776) (h3:n≤1099511627776) :
 Oy ids f [.d (.nils s),.d (.int .i64 n)] []=some (.sl 0 [] 0 0 none,[],[.sl false s (List.replicate n z)]):=by
 have e:((n:Nat):Int)=.ofNat n:=rfl;rw [e];simp [Oy,h1,h0,h2,h3]
theorem Tn {ids:Nat→Option (Sh×D×Nat)} (hm:P.follows .mixedOrders=true)
 (hids:∀f s z bytes,ids f=some (s,z,bytes)→Sh.beq s s=true∧∃g,P.funcs[num f]? = some g∧B4 P num (Hc s) g=true∧(match g.body with | some x=>t7 P num s z bytes x | none=>false)=true):ko P num (Oy ids):=by
 intro f vs bs ans h C φ us hC hr hb hv;unfold Oy at h
 split at h
 ·rename_i s z bytes hi
  split at h
  ·rename_i t n
   split at h
   ·split at h
    ·rename_i hc
     obtain rfl:=b6 h;obtain ⟨hbeq,g,hg,hok,hshape⟩:=hids f s z bytes hi;obtain rfl:=Sh.beq_eq _ _ hc.1;exact ⟨rfl,Xc hm hg hok hshape hbeq hc.2.1 hc.2.2 hC hr hb hv⟩
    ·cases h
   ·cases h
  ·cases h
 ·cases h
def orA (A B:ap):ap:=fun f vs bs=>match A f vs bs with
 | some r=>some r
 | none=>B f vs bs
theorem a2l {A B:ap} (ha:ko P num A) (hb:ko P num B):ko P num (orA A B):=by
 intro f vs bs ans h;unfold orA at h
 split at h
 ·rename_i r hr
  obtain rfl:=b6 h;exact ha f vs bs _ hr
 ·exact hb f vs bs ans h
theorem a65 {A B:ap} {f:Nat} {vs:List V} {bs:Heap} {r:Ans} (h:A f vs bs=some r):orA A B f vs bs=some r:=by
 simp [orA,h]
theorem a3y {A B:ap} {f:Nat} {vs:List V} {bs:Heap} {r:Ans} (h:B f vs bs=some r) (h0:A f vs bs=none):orA A B f vs bs=some r:=by
 simp [orA,h,h0]
end Pe

/-
 Functions of the laws in the small form,printed by a program.
-/
namespace Pe
open Go
def Z23_B:Cd:=
 Irg [Ll 2 (.mv (.c (.bool false)))] [0]
 (Irg [Lw 3 0,
 Ien 4 3,
 Ibc 5 .gtr 4 4096,
 Lw 2 5] [2]
 (.ret))
def Z23:Fn:=
 { nparams:=1,nblk:=0,results:=[.tmp 2],body:=Z23_B }
end Pe

/-
 Functions of the laws in the small form,printed by a program.
-/
namespace Pe
open Go
def Z24_L0:Cd:=
 .seq (Irg [Lw 11 5,
 Lw 12 0,
 Ien 13 12,
 Ibn 14 .lss 11 13] [0,1,5,14]
 (Icd 14
 (.skip)
 (.exit 0)))
 (.seq (.block 1 (Irg [Lw 17 0,
 Lw 18 5,
 Iia 19 Sx6 17 18,
 Ipx 20 19,
 Lw 21 1,
 Lw 22 5,
 Iia 23 Sx6 21 22,
 Ipx 24 23,
 Ll 25 (.eqv true (.arr 64 .leaf .int) (.t 20) (.t 24))] [0,1,5,25]
 (Icd 25
 (Irg [Ll 4 (.mv (.c (.bool false)))] [4]
 (.ret))
 (.skip))))
 (.region [Lw 15 5,
 Ibc 16 .add 15 1,
 Lw 5 16] [0,1,5]))
def Z24_B:Cd:=
 Irg [Ll 4 (.mv (.c (.bool false)))] [0,1]
 (.seq (Irg [Lw 6 0,
 Ien 7 6,
 Lw 8 1,
 Ien 9 8,
 Ibn 10 .neq 7 9] [0,1,10]
 (Icd 10
 (Irg [Ll 4 (.mv (.c (.bool false)))] [4]
 (.ret))
 (.skip)))
 (.seq (Irg [Imc 5 0] [0,1,5]
 (.block 0 (.loop (Z24_L0))))
 (Irg [Ll 4 (.mv (.c (.bool true)))] [4]
 (.ret))))
def Z24:Fn:=
 { nparams:=2,nblk:=0,results:=[.tmp 4],body:=Z24_B }
end Pe

/-
 Functions of the program in the small form,printed by a program.
-/
namespace Pe
open Go
def Zq_B:Cd:=
 Irg [Ibx 2 0 0,
 Ibx 3 1 1,
 Ll 4 (.mv (.c (.bool false)))] [2,3]
 (Irg [Ll 5 (.fldA [.leaf,.leaf] (.t 2) 0),
 Ilx 6 5,
 Ipx 7 3,
 Ll 8 (Ofx Fw [(.t 6),(.t 7)]),
 Lw 9 8,
 Lg 10 (.load Sx6 (.t 3)) 9 true,
 Lg 11 (Opx F1o [(.t 10)]) 9 true,
 Lg 12 (Ofx F1q [(.t 11)]) 9 true,
 Lg 13 (.fldA [.leaf,.leaf] (.t 2) 1) 9 true,
 Lg 14 (.load .leaf (.t 13)) 9 true,
 Lg 15 (Ofx F1q [(.t 14)]) 9 true,
 Lg 16 (.bin .lss (.t 12) (.t 15)) 9 true,
 Ian 17 9 16,
 Lw 4 17] [4]
 (.ret))
def Zq:Fn:=
 { nparams:=2,nblk:=2,results:=[.tmp 4],body:=Zq_B }
def Zj_B:Cd:=
 Irg [Ibx 3 0 1,
 Ll 4 (.box false 1 (.c (.st [.leaf,.leaf] [(.int .i64 0),(.sl .leaf [])])))] [0,3,4]
 (Irg [Lw 5 0,
 Ipx 6 3,
 Ll 7 (Opx F1o [(.t 6)]),
 Ll 8 (.build false (.st [.leaf,.leaf] [(.int .i64 0),(.sl .leaf [])]) [(0,(.t 5)),(1,(.t 7))]),
 Ls (.store false (.st [.leaf,.leaf]) (.t 4) (.t 8))] [4]
 (.ret))
def Zj:Fn:=
 { nparams:=2,nblk:=2,results:=[.cell 4 (.st [.leaf,.leaf])],body:=Zj_B }
def Zv_B:Cd:=
 Irg [Ibx 3 0 1,
 Ll 4 (.mv (.c (.bool false)))] [0,3]
 (Irg [Ipx 6 3,
 Ll 7 (Opx F1o [(.t 6)]),
 Lw 5 7] [0,3,5]
 (Irg [Lw 8 0,
 Ipx 9 3,
 Ll 10 (Ofx F5 [(.t 8),(.t 9)]),
 Lw 11 10,
 Lx 12 5 11 true,
 Lg 13 (Ofx F1q [(.t 12)]) 11 true,
 Lg 14 (Ofx F21 [(.t 13),(Acx 1),(Acx 4)]) 11 true,
 Ian 15 11 14,
 Lw 16 15,
 Lx 17 0 16 true,
 Lx 18 5 16 true,
 Lg 19 (Ofx F1a [(.t 17),(.t 18)]) 16 true,
 Ian 20 16 19,
 Lw 4 20] [4]
 (.ret)))
def Zv:Fn:=
 { nparams:=2,nblk:=1,results:=[.tmp 4],body:=Zv_B }
def Zt_B:Cd:=
 Irg [Ibx 3 0 0,
 Ll 6 (.mv (.c (.sl .leaf [])))] [1,2,3]
 (Irg [Ll 7 (.fldA [.leaf,.leaf] (.t 3) 0),
 Ilx 8 7,
 Ll 9 (.fldA [.leaf,.leaf] (.t 3) 0),
 Ilx 10 9,
 Lw 11 1,
 Lw 12 2,
 Ll 13 (Opx F1l [(.t 10),(.t 11),(.t 12)]),
 Ll 14 (.fldA [.leaf,.leaf] (.t 3) 1),
 Ilx 15 14,
 Ll 16 (Opx F1i [(.t 8),(.t 13),(.t 15)]),
 Lw 6 16] [6]
 (.ret))
def Zt:Fn:=
 { nparams:=3,nblk:=1,results:=[.tmp 6],body:=Zt_B }
def Zo_B:Cd:=
 Irg [Ibx 2 0 0,
 Ll 4 (.mv (.c (.sl .leaf [])))] [1,2]
 (Irg [Ll 9 (.fldA [.leaf,.leaf] (.t 2) 0),
 Ilx 10 9,
 Lw 11 1,
 Ll 12 (.fldA [.leaf,.leaf] (.t 2) 1),
 Ilx 13 12,
 Ll 14 (Opx F12 [(.t 10),(.t 11),(.t 13)]),
 Lw 8 14,
 Iex 15 8 0,
 Iex 16 8 1,
 Iex 17 8 2,
 Lw 5 15,
 Lw 6 16,
 Lw 7 17] [2,6]
 (Irg [Ll 18 (.fldA [.leaf,.leaf] (.t 2) 0),
 Ilx 19 18,
 Lw 20 6,
 Ll 21 (.fldA [.leaf,.leaf] (.t 2) 1),
 Ilx 22 21,
 Ll 23 (Opx F1i [(.t 19),(.t 20),(.t 22)]),
 Lw 4 23] [4]
 (.ret)))
def Zo:Fn:=
 { nparams:=2,nblk:=1,results:=[.tmp 4],body:=Zo_B }
def Zm_L0:Cd:=
 Irg [Ibn 13 .lss 12 11] [1,3,11,12,13]
 (.seq (Icd 13
 (.skip)
 (.exit 0))
 (.seq (.block 1 (.region [Ll 14 (.fldA [.leaf,.leaf] (.t 3) 0),
 Ilx 15 14,
 Lw 16 1,
 Ll 17 (.fldA [.leaf,.leaf] (.t 3) 0),
 Ilx 18 17,
 Ll 19 (.fldA [.leaf,.leaf] (.t 3) 1),
 Ilx 20 19,
 Ll 21 (Opx F1d [(.t 15),(.t 16),(.t 18),(.t 20)]),
 Lw 1 21] [1,3,11,12]))
 (.region [Ibc 22 .add 12 1,
 Lw 12 22] [1,3,11,12])))
def Zm_B:Cd:=
 Irg [Ibx 3 0 0,
 Ll 6 (.mv (.c (.sl .leaf [])))] [1,2,3]
 (.seq (Irg [Lw 7 2,
 Ll 8 (.fldA [.leaf,.leaf] (.t 3) 1),
 Ilx 9 8,
 Ll 10 (Ofx F1q [(.t 9)]),
 Ibn 11 .rem 7 10,
 Imc 12 0] [1,3,11,12]
 (.block 0 (.loop (Zm_L0))))
 (Irg [Lw 23 1,
 Lw 6 23] [6]
 (.ret)))
def Zm:Fn:=
 { nparams:=3,nblk:=1,results:=[.tmp 6],body:=Zm_B }
def Zu_L0:Cd:=
 Irg [Ibn 13 .lss 12 11] [2,3,7,10,11,12,13]
 (.seq (Icd 13
 (.skip)
 (.exit 0))
 (.seq (.block 1 (Irg [Lw 14 12,
 Iia 15 .leaf 10 12,
 Ilx 16 15,
 Lw 8 14,
 Lw 9 16] [2,3,7,8,9,10,11,12]
 (.region [Ll 17 (.fldA [.leaf,.leaf] (.t 3) 0),
 Ilx 18 17,
 Lw 19 7,
 Ll 20 (.load (.st [.leaf,.leaf]) (.t 3)),
 Lw 21 9,
 Ll 22 (.load (.st [.leaf,.leaf]) (.t 3)),
 Lw 23 2,
 Lw 24 8,
 Ll 25 (Opx Fm [(.t 22),(.t 23),(.t 24)]),
 Ll 26 (Opx Ft [(.t 20),(.t 21),(.t 25)]),
 Ll 27 (Opx F13 [(.t 18),(.t 19),(.t 26),(Acx 1)]),
 Lw 7 27] [2,3,7,10,11,12])))
 (.region [Ibc 28 .add 12 1,
 Lw 12 28] [2,3,7,10,11,12])))
def Zu_B:Cd:=
 Irg [Ibx 3 0 0,
 Ll 6 (.mv (.c (.sl .leaf [])))] [1,2,3]
 (Irg [Ll 7 (.mv (.c (.sl .leaf [])))] [1,2,3,7]
 (.seq (Irg [Lw 10 1,
 Ien 11 10,
 Imc 12 0] [2,3,7,10,11,12]
 (.block 0 (.loop (Zu_L0))))
 (Irg [Lw 29 7,
 Lw 6 29] [6]
 (.ret))))
def Zu:Fn:=
 { nparams:=3,nblk:=1,results:=[.tmp 6],body:=Zu_B }
def Z1n_B:Cd:=
 Irg [Ibx 4 0 1,
 Imc 6 0] [0,2,4]
 (.seq (Irg [Lw 7 0,
 Ipx 8 4,
 Ll 9 (Ofx Fv [(.t 7),(.t 8)]),
 Ll 10 (.un .not (.t 9)),
 Lw 11 10,
 Lx 12 2 11 false,
 Lx 13 0 11 false,
 Lg 14 (.load Sx6 (.t 4)) 11 false,
 Lg 15 (Opx Fj [(.t 13),(.t 14)]) 11 false,
 Lg 16 (.mkFn Fq [(.t 15)] []) 11 false,
 Lg 17 (Ofx Fg [(.t 12),(.t 16)]) 11 false,
 Lg 18 (.un .not (.t 17)) 11 false,
 Ior 19 11 18] [19]
 (Icd 19
 (Irg [Imc 6 1] [6]
 (.ret))
 (.skip)))
 (Irg [Imc 6 0] [6]
 (.ret)))
def Z1n:Fn:=
 { nparams:=3,nblk:=1,results:=[.tmp 6],body:=Z1n_B }
def Z1y_L0:Cd:=
 .seq (Irg [Lw 6 3,
 Ibc 7 .gtr 6 0,
 Lw 8 7,
 Lx 9 0 8 true,
 Lx 10 3 8 true,
 Lg 11 (.bin .sub (.t 10) (Acx 1)) 8 true,
 Lg 12 (.idxA none .leaf (.t 9) (.t 11)) 8 true,
 Lg 13 (.load .leaf (.t 12)) 8 true,
 Lg 14 (.len false (.t 13)) 8 true,
 Lg 15 (.bin .eql (.t 14) (Acx 0)) 8 true,
 Ian 16 8 15] [0,3,16]
 (Icd 16
 (.skip)
 (.exit 0)))
 (.block 1 (.region [Lw 17 3,
 Ibc 18 .sub 17 1,
 Lw 3 18] [0,3]))
def Z1y_B:Cd:=
 Irg [Ll 2 (.mv (.c (.sl .leaf [])))] [0]
 (Irg [Lw 4 0,
 Ien 5 4,
 Lw 3 5] [0,3]
 (.seq (.block 0 (.loop (Z1y_L0)))
 (Irg [Lw 19 0,
 Lw 20 3,
 Lw 21 3,
 Ll 22 (.cut none .leaf (.t 19) none (some (.t 20)) (some (.t 21))),
 Lw 2 22] [2]
 (.ret))))
def Z1y:Fn:=
 { nparams:=1,nblk:=0,results:=[.tmp 2],body:=Z1y_B }
def Z1h_B:Cd:=
 Irg [Imc 4 0] [0,1]
 (Irg [Lw 5 1,
 Ien 6 5,
 Lw 7 0,
 Ien 8 7,
 Ibn 9 .sub 6 8,
 Lw 4 9] [4]
 (.ret))
def Z1h:Fn:=
 { nparams:=2,nblk:=0,results:=[.tmp 4],body:=Z1h_B }
def Z1g_L0:Cd:=
 Irg [Ibn 21 .lss 20 19] [0,5,7,12,13,14,18,19,20,21]
 (.seq (Icd 21
 (.skip)
 (.exit 2))
 (.seq (.block 3 (Irg [Iia 22 .leaf 18 20,
 Ilx 23 22,
 Lw 9 23] [0,5,7,9,12,13,14,18,19,20]
 (.region [Lw 24 0,
 Lw 25 7,
 Lw 26 9,
 Lw 27 7,
 Lw 28 9,
 Ien 29 28,
 Ibc 30 .sub 29 1,
 Ll 31 (Ofx F1p [(.t 27),(.t 30)]),
 Ll 32 (.un .neg (.t 31)),
 Ll 33 (Opx F13 [(.t 24),(.t 25),(.t 26),(.t 32)]),
 Lw 7 33] [0,5,7,12,13,14,18,19,20])))
 (.region [Ibc 34 .add 20 1,
 Lw 20 34] [0,5,7,12,13,14,18,19,20])))
def Z1g_L1:Cd:=
 Irg [Ibn 48 .lss 47 46] [0,5,7,12,13,14,45,46,47,48]
 (.seq (Icd 48
 (.skip)
 (.exit 4))
 (.seq (.block 5 (Irg [Lw 49 47,
 Iia 50 .leaf 45 47,
 Ilx 51 50,
 Lw 10 49,
 Lw 11 51] [0,5,7,10,11,12,13,14,45,46,47]
 (.region [Lw 52 5,
 Lw 53 10,
 Lw 54 0,
 Lw 55 11,
 Lw 56 7,
 Lw 57 11,
 Lw 58 7,
 Ien 59 58,
 Ibc 60 .sub 59 1,
 Ll 61 (Ofx F1p [(.t 57),(.t 60)]),
 Ll 62 (.un .neg (.t 61)),
 Ll 63 (Opx F13 [(.t 54),(.t 55),(.t 56),(.t 62)]),
 Iia 64 .leaf 52 53,
 Ls (.store false .leaf (.t 64) (.t 63))] [0,5,7,12,13,14,45,46,47])))
 (.region [Ibc 65 .add 47 1,
 Lw 47 65] [0,5,7,12,13,14,45,46,47])))
def Z1g_L2:Cd:=
 Irg [Ibn 15 .lss 14 13] [0,5,12,13,14,15]
 (.seq (Icd 15
 (.skip)
 (.exit 0))
 (.seq (.block 1 (Irg [Iia 16 .leaf 12 14,
 Ilx 17 16,
 Lw 7 17] [0,5,7,12,13,14]
 (.seq (Irg [Lw 18 5,
 Ien 19 18,
 Imc 20 0] [0,5,7,12,13,14,18,19,20]
 (.block 2 (.loop (Z1g_L0))))
 (.seq (Irg [Lw 35 7,
 Ien 36 35,
 Ibc 37 .eql 36 0] [0,5,7,12,13,14,37]
 (Icd 37
 (.exit 1)
 (.skip)))
 (Irg [Lw 38 0,
 Lw 39 7,
 Lw 40 0,
 Lw 41 7,
 Ll 42 (Ofx F1s [(.t 41)]),
 Ll 43 (Ofx F19 [(.t 40),(.t 42)]),
 Ll 44 (Opx F1j [(.t 38),(.t 39),(.t 43)]),
 Lw 7 44] [0,5,7,12,13,14]
 (.seq (Irg [Lw 45 5,
 Ien 46 45,
 Imc 47 0] [0,5,7,12,13,14,45,46,47]
 (.block 4 (.loop (Z1g_L1))))
 (Irg [Lw 66 5,
 Lw 67 7,
 Ll 68 (.buildSl false 1 .leaf (.sl .leaf []) 1 [(0,(.t 67))]),
 Ll 69 (.append .leaf 2 24 (.t 66) (.t 68)),
 Lw 5 69] [0,5,12,13,14]
 (.region [Lw 70 5,
 Ll 71 (.call .heap [] (.f F2g) [(.t 70),(.f F1h)])] [0,5,12,13,14]))))))))
 (.region [Ibc 72 .add 14 1,
 Lw 14 72] [0,5,12,13,14])))
def Z1g_B:Cd:=
 Irg [Ll 4 (.mv (.c (.sl .leaf [])))] [0,1]
 (Irg [Ll 5 (.nilOwn 0 .leaf)] [0,1,5]
 (.seq (Irg [Lw 12 1,
 Ien 13 12,
 Imc 14 0] [0,5,12,13,14]
 (.block 0 (.loop (Z1g_L2))))
 (Irg [Lw 73 5,
 Lw 4 73] [4]
 (.ret))))
def Z1g:Fn:=
 { nparams:=2,nblk:=3,results:=[.tmp 4],body:=Z1g_B }
def Z1x_B:Cd:=
 Irg [Imc 2 0] [0]
 (Irg [Lw 3 0,
 Ien 4 3,
 Ibc 5 .sub 4 1,
 Lw 2 5] [2]
 (.ret))
def Z1x:Fn:=
 { nparams:=1,nblk:=0,results:=[.tmp 2],body:=Z1x_B }
def ir_impl_toldSkew_L0:Cd:=
 Irg [Ibn 14 .lss 13 12] [2,4,11,12,13,14]
 (.seq (Icd 14
 (.skip)
 (.exit 0))
 (.seq (.block 1 (Irg [Lw 15 13,
 Iia 16 .leaf 11 13,
 Ilx 17 16,
 Lw 5 15,
 Lw 6 17] [2,4,5,6,11,12,13]
 (.region [Lw 18 5,
 Lw 19 6,
 Ll 20 (Ofx F1t [(.t 19)]),
 Iis 21 8 Sx6 4 18,
 Ls (.store false Sx6 (.t 21) (.t 20))] [2,4,11,12,13])))
 (.region [Ibc 22 .add 13 1,
 Lw 13 22] [2,4,11,12,13])))
def ir_impl_toldSkew_B:Cd:=
 Irg [Ll 2 (.box false 0 (.c (.arr 8 Sx6 z8))),
 Imc 3 0] [0,2]
 (Irg [Ll 4 (.box false 1 (.c (.arr 8 Sx6 z8)))] [0,2,4]
 (.seq (Irg [Lw 7 0,
 Ll 8 (Ofx F1x [(.t 7)]),
 Ibc 9 .gtr 8 7] [0,2,4,9]
 (Icd 9
 (Irg [Isx 10 4,
 Ls (.store false Sx8 (.t 2) (.t 10)),
 Imc 3 3] [2,3]
 (.ret))
 (.skip)))
 (.seq (Irg [Lw 11 0,
 Ien 12 11,
 Imc 13 0] [2,4,11,12,13]
 (.block 0 (.loop (ir_impl_toldSkew_L0))))
 (Irg [Isx 23 4,
 Ls (.store false Sx8 (.t 2) (.t 23)),
 Imc 3 0] [2,3]
 (.ret)))))
def Z20:Fn:=
 { nparams:=1,nblk:=2,results:=[.cell 2 Sx8,.tmp 3],body:=ir_impl_toldSkew_B }
def Zk_L0:Cd:=
 Irg [Ibn 37 .lss 36 35] [2,3,7,8,9,27,28,29,34,35,36,37]
 (.seq (Icd 37
 (.skip)
 (.exit 2))
 (.seq (.block 3 (Irg [Lw 38 36,
 Iia 39 .leaf 34 36,
 Ilx 40 39,
 Lw 10 38,
 Lw 11 40] [2,3,7,8,9,10,11,27,28,29,34,35,36]
 (.region [Lw 41 7,
 Lw 42 8,
 Lw 43 10,
 Ibn 44 .add 42 43,
 Ll 45 (.fldA [.leaf,.leaf] (.t 3) 0),
 Ilx 46 45,
 Lw 47 7,
 Lw 48 8,
 Lw 49 10,
 Ibn 50 .add 48 49,
 Iia 51 .leaf 47 50,
 Ilx 52 51,
 Ll 53 (.load (.st [.leaf,.leaf]) (.t 3)),
 Lw 54 9,
 Ll 55 (.load (.st [.leaf,.leaf]) (.t 3)),
 Lw 56 11,
 Lw 57 8,
 Ll 58 (Opx Fm [(.t 55),(.t 56),(.t 57)]),
 Ll 59 (Opx Ft [(.t 53),(.t 54),(.t 58)]),
 Ll 60 (Opx F13 [(.t 46),(.t 52),(.t 59),(Acx 1)]),
 Iia 61 .leaf 41 44,
 Ls (.store false .leaf (.t 61) (.t 60))] [2,3,7,8,9,27,28,29,34,35,36])))
 (.region [Ibc 62 .add 36 1,
 Lw 36 62] [2,3,7,8,9,27,28,29,34,35,36])))
def Zk_L1:Cd:=
 Irg [Ibn 30 .lss 29 28] [2,3,7,27,28,29,30]
 (.seq (Icd 30
 (.skip)
 (.exit 0))
 (.seq (.block 1 (Irg [Lw 31 29,
 Iia 32 .leaf 27 29,
 Ilx 33 32,
 Lw 8 31,
 Lw 9 33] [2,3,7,8,9,27,28,29]
 (Irg [Lw 34 2,
 Ien 35 34,
 Imc 36 0] [2,3,7,8,9,27,28,29,34,35,36]
 (.block 2 (.loop (Zk_L0))))))
 (.region [Ibc 63 .add 29 1,
 Lw 29 63] [2,3,7,27,28,29])))
def Zk_B:Cd:=
 Irg [Ibx 3 0 0,
 Ll 6 (.mv (.c (.sl .leaf [])))] [1,2,3]
 (.seq (Irg [Lw 12 1,
 Ien 13 12,
 Ibc 14 .eql 13 0,
 Lw 15 14,
 Lx 16 2 15 false,
 Lg 17 (.len false (.t 16)) 15 false,
 Lg 18 (.bin .eql (.t 17) (Acx 0)) 15 false,
 Ior 19 15 18] [1,2,3,19]
 (Icd 19
 (Irg [Ll 6 (.mv (.c (.sl .leaf [])))] [6]
 (.ret))
 (.skip)))
 (Irg [Lw 20 1,
 Ien 21 20,
 Lw 22 2,
 Ien 23 22,
 Ibn 24 .add 21 23,
 Ibc 25 .sub 24 1,
 Ll 26 (.mkSl 1 .leaf (.sl .leaf []) 24 (.t 25) (.t 25)),
 Lw 7 26] [1,2,3,7]
 (.seq (Irg [Lw 27 1,
 Ien 28 27,
 Imc 29 0] [2,3,7,27,28,29]
 (.block 0 (.loop (Zk_L1))))
 (Irg [Lw 64 7,
 Ll 65 (.call .data [] (.f F1y) [(.t 64)]),
 Lw 6 65] [6]
 (.ret)))))
def Zk:Fn:=
 { nparams:=3,nblk:=2,results:=[.tmp 6],body:=Zk_B }
def Z1w_B:Cd:=
 Irg [Ll 4 (.mv (.c (.sl .leaf [])))] [0,1]
 (Irg [Lw 6 1,
 Ibc 7 .add 6 1,
 Ll 8 (.mkSl 0 .leaf (.sl .leaf []) 24 (.t 7) (.t 7)),
 Lw 5 8] [0,1,5]
 (Irg [Lw 9 5,
 Lw 10 1,
 Lw 11 0,
 Iia 12 .leaf 9 10,
 Ls (.store false .leaf (.t 12) (.t 11))] [5]
 (Irg [Lw 13 5,
 Lw 4 13] [4]
 (.ret))))
def Z1w:Fn:=
 { nparams:=2,nblk:=1,results:=[.tmp 4],body:=Z1w_B }
def Zr_L0:Cd:=
 Irg [Ibn 15 .lss 14 13] [2,5,12,13,14,15]
 (.seq (Icd 15
 (.skip)
 (.exit 0))
 (.seq (.block 1 (Irg [Iia 16 .leaf 12 14,
 Ilx 17 16,
 Lw 7 17] [2,5,7,12,13,14]
 (Irg [Ll 18 (.load (.st [.leaf,.leaf]) (.t 2)),
 Lw 19 5,
 Lw 20 7,
 Ll 21 (Opx Fu [(.t 18),(.t 19),(.t 20)]),
 Lw 8 21] [2,5,8,12,13,14]
 (Irg [Lw 22 8,
 Ien 23 22,
 Ibc 24 .gtr 23 0] [2,5,8,12,13,14,24]
 (Icd 24
 (Irg [Ll 25 (.load (.st [.leaf,.leaf]) (.t 2)),
 Ll 26 (.load (.st [.leaf,.leaf]) (.t 2)),
 Lw 27 8,
 Ll 28 (Opx Fm [(.t 26),(.t 27),(Acx 1)]),
 Ll 29 (.load (.st [.leaf,.leaf]) (.t 2)),
 Lw 30 8,
 Ll 31 (Opx Fo [(.t 29),(.t 30)]),
 Ll 32 (Opx Ft [(.t 25),(.t 28),(.t 31)]),
 Lw 9 32] [2,5,9,12,13,14]
 (.region [Ll 33 (.load (.st [.leaf,.leaf]) (.t 2)),
 Ll 34 (.fldA [.leaf,.leaf] (.t 2) 0),
 Ilx 35 34,
 Lw 36 9,
 Ll 37 (Opx F1j [(.t 35),(.t 36),(Acx (-1))]),
 Ll 38 (.buildSl false 2 .leaf (.int .i64 0) 1 [(0,(Acx 1))]),
 ⟨some 39,.buildSl true 3 .leaf (.sl .leaf []) 2 [(0,(.t 37)),(1,(.t 38))],none,[2]⟩,
 Lw 40 5,
 Ll 41 (.call .data [] (.f Fk) [(.t 33),(.t 39),(.t 40)]),
 Lw 5 41] [2,5,12,13,14]))
 (.skip))))))
 (.region [Ibc 42 .add 14 1,
 Lw 14 42] [2,5,12,13,14])))
def Zr_B:Cd:=
 Irg [Ibx 2 0 0,
 Ll 4 (.mv (.c (.sl .leaf [])))] [1,2]
 (Irg [Ll 10 (.buildSl false 1 .leaf (.int .i64 0) 1 [(0,(Acx 1))]),
 Ll 11 (.call .data [] (.f F1w) [(.t 10),(Acx 0)]),
 Lw 5 11] [1,2,5]
 (.seq (Irg [Lw 12 1,
 Ien 13 12,
 Imc 14 0] [2,5,12,13,14]
 (.block 0 (.loop (Zr_L0))))
 (Irg [Lw 43 5,
 Lw 4 43] [4]
 (.ret))))
def Zr:Fn:=
 { nparams:=2,nblk:=4,results:=[.tmp 4],body:=Zr_B }
def ir_impl_LeastSkew_L0:Cd:=
 Irg [Ibn 23 .lss 22 21] [0,4,6,9,20,21,22,23]
 (.seq (Icd 23
 (.skip)
 (.exit 0))
 (.seq (.block 1 (Irg [Iia 24 Sx6 20 22,
 Ipx 25 24,
 Ibz 11 3,
 Ls (.store false Sx6 (.t 11) (.t 25))] [0,4,6,9,11,20,21,22]
 (.region [Lw 26 9,
 Ipx 27 11,
 Ll 28 (Opx F1o [(.t 27)]),
 Ll 29 (.buildSl false 4 .leaf (.sl .leaf []) 1 [(0,(.t 28))]),
 Ll 30 (.append .leaf 5 24 (.t 26) (.t 29)),
 Lw 9 30] [0,4,6,9,20,21,22])))
 (.region [Ibc 31 .add 22 1,
 Lw 22 31] [0,4,6,9,20,21,22])))
def ir_impl_LeastSkew_B:Cd:=
 Irg [Ibx 4 0 1,
 Ll 6 (.box false 1 (.c (.arr 8 Sx6 z8))),
 Imc 7 0] [0,2,4,6]
 (.seq (Irg [Lw 12 0,
 Ipx 13 4,
 Lw 14 2,
 Ll 15 (Ofx F1n [(.t 12),(.t 13),(.t 14)]),
 Lw 8 15] [0,2,4,6,8]
 (Irg [Lw 16 8,
 Ibc 17 .neq 16 0] [0,2,4,6,8,17]
 (Icd 17
 (Irg [Ll 18 (.build false (.arr 8 Sx6 z8) []),
 Lw 19 8,
 Ls (.store false Sx8 (.t 6) (.t 18)),
 Lw 7 19] [6,7]
 (.ret))
 (.skip))))
 (Irg [Ll 9 (.nilOwn 2 .leaf)] [0,2,4,6,9]
 (.seq (Irg [Lw 20 2,
 Ien 21 20,
 Imc 22 0] [0,4,6,9,20,21,22]
 (.block 0 (.loop (ir_impl_LeastSkew_L0))))
 (Irg [Lw 32 0,
 Ipx 33 4,
 Ll 34 (Opx Fj [(.t 32),(.t 33)]),
 Lw 35 9,
 Ll 36 (.call .data [] (.f Fr) [(.t 34),(.t 35)]),
 Ll 37 (Ofx F20 [(.t 36)]),
 Iex 38 37 0,
 Iex 39 37 1,
 Ls (.store false Sx8 (.t 6) (.t 38)),
 Lw 7 39] [6,7]
 (.ret)))))
def Z6:Fn:=
 { nparams:=3,nblk:=6,results:=[.cell 6 Sx8,.tmp 7],body:=ir_impl_LeastSkew_B }
end Pe

/-
 Functions of the program in the small form,printed by a program.
-/
namespace Pe
open Go
def Z1v_L0:Cd:=
 Irg [Ibn 9 .lss 8 7] [3,6,7,8,9]
 (.seq (Icd 9
 (.skip)
 (.exit 0))
 (.seq (.block 1 (Irg [Iia 10 Sx6 6 8,
 Ipx 11 10,
 Ibz 5 1,
 Ls (.store false Sx6 (.t 5) (.t 11))] [3,5,6,7,8]
 (.region [Lw 12 3,
 Ipx 13 5,
 Ll 14 (Opx F1o [(.t 13)]),
 Ll 15 (.buildSl false 2 .leaf (.sl .leaf []) 1 [(0,(.t 14))]),
 Ll 16 (.append .leaf 3 24 (.t 12) (.t 15)),
 Lw 3 16] [3,6,7,8])))
 (.region [Ibc 17 .add 8 1,
 Lw 8 17] [3,6,7,8])))
def Z1v_B:Cd:=
 Irg [Ll 2 (.mv (.c (.sl .leaf [])))] [0]
 (Irg [Ll 3 (.nilOwn 0 .leaf)] [0,3]
 (.seq (Irg [Lw 6 0,
 Ien 7 6,
 Imc 8 0] [3,6,7,8]
 (.block 0 (.loop (Z1v_L0))))
 (Irg [Lw 18 3,
 Lw 2 18] [2]
 (.ret))))
def Z1v:Fn:=
 { nparams:=1,nblk:=4,results:=[.tmp 2],body:=Z1v_B }
end Pe

/-
 Functions of the program in the small form,printed by a program.
-/
namespace Pe
open Go
def Z10_B:Cd:=
 Irg [Ibx 6 0 1,
 Imc 10 0] [0,2,3,4,6]
 (.seq (Irg [Lw 12 0,
 Ipx 13 6,
 Lw 14 2,
 Ll 15 (Ofx F1n [(.t 12),(.t 13),(.t 14)]),
 Lw 11 15] [2,3,4,11]
 (Irg [Lw 16 11,
 Ibc 17 .neq 16 0] [2,3,4,11,17]
 (Icd 17
 (Irg [Lw 18 11,
 Lw 10 18] [10]
 (.ret))
 (.skip))))
 (.seq (Irg [Lw 19 2,
 Ien 20 19,
 Lw 21 3,
 Ibn 22 .lss 20 21,
 Lw 23 22,
 Lx 24 2 23 false,
 Lg 25 (.len false (.t 24)) 23 false,
 Lx 26 4 23 false,
 Lg 27 (.bin .gtr (.t 25) (.t 26)) 23 false,
 Ior 28 23 27] [28]
 (Icd 28
 (Irg [Imc 10 2] [10]
 (.ret))
 (.skip)))
 (Irg [Imc 10 0] [10]
 (.ret))))
def Z10:Fn:=
 { nparams:=5,nblk:=1,results:=[.tmp 10],body:=Z10_B }
def Z1e_B:Cd:=
 Irg [Imc 4 0] [0,1]
 (Irg [Lw 5 0,
 Lw 6 1,
 Ll 7 (Opx F1g [(.t 5),(.t 6)]),
 Ien 8 7,
 Lw 4 8] [4]
 (.ret))
def Z1e:Fn:=
 { nparams:=2,nblk:=0,results:=[.tmp 4],body:=Z1e_B }
def Zb_B:Cd:=
 Irg [Ibx 4 0 1,
 Imc 6 0,
 Imc 7 0] [0,2,4]
 (.seq (Irg [Lw 9 0,
 Ipx 10 4,
 Lw 11 2,
 Ll 12 (Ofx F10 [(.t 9),(.t 10),(.t 11),(Acx 0),(Acx 4)]),
 Lw 8 12] [0,2,8]
 (Irg [Lw 13 8,
 Ibc 14 .neq 13 0] [0,2,8,14]
 (Icd 14
 (Irg [Lw 15 8,
 Imc 6 0,
 Lw 7 15] [6,7]
 (.ret))
 (.skip))))
 (Irg [Lw 16 0,
 Lw 17 2,
 Ll 18 (Opx F1v [(.t 17)]),
 Ll 19 (Ofx F1e [(.t 16),(.t 18)]),
 Lw 6 19,
 Imc 7 0] [6,7]
 (.ret)))
def Zb:Fn:=
 { nparams:=3,nblk:=1,results:=[.tmp 6,.tmp 7],body:=Zb_B }
def Zc_B:Cd:=
 Irg [Ibx 4 0 1,
 Ll 6 (.mv (.c (.sl Sx6 []))),
 Imc 7 0] [0,2,4]
 (.seq (Irg [Lw 9 0,
 Ipx 10 4,
 Lw 11 2,
 Ll 12 (Ofx F1n [(.t 9),(.t 10),(.t 11)]),
 Lw 8 12] [0,2,8]
 (Irg [Lw 13 8,
 Ibc 14 .neq 13 0] [0,2,8,14]
 (Icd 14
 (Irg [Lw 15 8,
 Ll 6 (.mv (.c (.sl Sx6 []))),
 Lw 7 15] [6,7]
 (.ret))
 (.skip))))
 (Irg [Lw 16 0,
 Lw 17 2,
 Ll 18 (Opx F1v [(.t 17)]),
 Ll 19 (Opx F1g [(.t 16),(.t 18)]),
 Ll 20 (Opx F11 [(.t 19)]),
 Lw 6 20,
 Imc 7 0] [6,7]
 (.ret)))
def Zc:Fn:=
 { nparams:=3,nblk:=1,results:=[.tmp 6,.tmp 7],body:=Zc_B }
def Z14_L0:Cd:=
 Irg [Ibn 13 .lss 12 11] [0,2,7,10,11,12,13]
 (.seq (Icd 13
 (.skip)
 (.exit 0))
 (.seq (.block 1 (Irg [Lw 14 12,
 Iia 15 .leaf 10 12,
 Ilx 16 15,
 Lw 8 14,
 Lw 9 16] [0,2,7,8,9,10,11,12]
 (.region [Lw 17 7,
 Lw 18 0,
 Lw 19 9,
 Lw 20 2,
 Lw 21 8,
 Iia 22 .leaf 20 21,
 Ilx 23 22,
 Ll 24 (Opx F13 [(.t 18),(.t 19),(.t 23),(Acx (-1))]),
 Ll 25 (.buildSl false 1 .leaf (.sl .leaf []) 1 [(0,(.t 24))]),
 Ll 26 (.append .leaf 2 24 (.t 17) (.t 25)),
 Lw 7 26] [0,2,7,10,11,12])))
 (.region [Ibc 27 .add 12 1,
 Lw 12 27] [0,2,7,10,11,12])))
def Z14_B:Cd:=
 Irg [Imc 6 0] [0,1,2]
 (Irg [Ll 7 (.nilOwn 0 .leaf)] [0,1,2,7]
 (.seq (Irg [Lw 10 1,
 Ien 11 10,
 Imc 12 0] [0,2,7,10,11,12]
 (.block 0 (.loop (Z14_L0))))
 (Irg [Lw 28 0,
 Lw 29 7,
 Ll 30 (Ofx F1e [(.t 28),(.t 29)]),
 Lw 6 30] [6]
 (.ret))))
def Z14:Fn:=
 { nparams:=3,nblk:=3,results:=[.tmp 6],body:=Z14_B }
def Za_B:Cd:=
 Irg [Ibx 5 0 1,
 Imc 8 0,
 Imc 9 0] [0,2,3,5]
 (.seq (Irg [Lw 11 0,
 Ipx 12 5,
 Lw 13 2,
 Lw 14 3,
 Ll 15 (.buildSl false 1 .leaf (.sl Sx6 []) 2 [(0,(.t 13)),(1,(.t 14))]),
 ⟨some 16,.call .data [] (.f F29) [(.t 15)],none,[5]⟩,
 Ll 17 (Ofx F1n [(.t 11),(.t 12),(.t 16)]),
 Lw 10 17] [0,2,3,10]
 (Irg [Lw 18 10,
 Ibc 19 .neq 18 0] [0,2,3,10,19]
 (Icd 19
 (Irg [Lw 20 10,
 Imc 8 0,
 Lw 9 20] [8,9]
 (.ret))
 (.skip))))
 (.seq (Irg [Lw 21 2,
 Ien 22 21,
 Ibc 23 .gtr 22 4,
 Lw 24 23,
 Lx 25 3 24 false,
 Lg 26 (.len false (.t 25)) 24 false,
 Lx 27 2 24 false,
 Lg 28 (.len false (.t 27)) 24 false,
 Lg 29 (.bin .neq (.t 26) (.t 28)) 24 false,
 Ior 30 24 29] [0,2,3,30]
 (Icd 30
 (Irg [Imc 8 0,
 Imc 9 2] [8,9]
 (.ret))
 (.skip)))
 (Irg [Lw 31 0,
 Lw 32 2,
 Ll 33 (Opx F1v [(.t 32)]),
 Lw 34 3,
 Ll 35 (Opx F1v [(.t 34)]),
 Ll 36 (Ofx F14 [(.t 31),(.t 33),(.t 35)]),
 Lw 8 36,
 Imc 9 0] [8,9]
 (.ret))))
def Za:Fn:=
 { nparams:=4,nblk:=2,results:=[.tmp 8,.tmp 9],body:=Za_B }
def Zl_L0:Cd:=
 Irg [Ibn 26 .lss 25 24] [1,2,5,6,7,8,16,17,18,23,24,25,26]
 (.seq (Icd 26
 (.skip)
 (.exit 2))
 (.seq (.block 3 (Irg [Lw 27 25,
 Iia 28 .leaf 23 25,
 Ilx 29 28,
 Lw 9 27,
 Lw 10 29] [1,2,5,6,7,8,9,10,16,17,18,23,24,25]
 (Irg [Lw 30 9,
 Lw 31 6,
 Ibn 32 .neq 30 31] [1,2,5,6,7,8,10,16,17,18,23,24,25,32]
 (Icd 32
 (.region [Lw 33 8,
 Lw 34 10,
 Ll 35 (.cut none .leaf (.t 34) (some (Acx 1)) none none),
 Ll 36 (.buildSl false 3 .leaf (.sl .leaf []) 1 [(0,(.t 35))]),
 Ll 37 (.append .leaf 4 24 (.t 33) (.t 36)),
 Lw 8 37] [1,2,5,6,7,8,16,17,18,23,24,25])
 (.skip)))))
 (.region [Ibc 38 .add 25 1,
 Lw 25 38] [1,2,5,6,7,8,16,17,18,23,24,25])))
def Zl_L1:Cd:=
 Irg [Ibn 19 .lss 18 17] [1,2,5,16,17,18,19]
 (.seq (Icd 19
 (.skip)
 (.exit 0))
 (.seq (.block 1 (Irg [Lw 20 18,
 Iia 21 .leaf 16 18,
 Ilx 22 21,
 Lw 6 20,
 Lw 7 22] [1,2,5,6,7,16,17,18]
 (Irg [Ll 8 (.nilOwn 2 .leaf)] [1,2,5,6,7,8,16,17,18]
 (.seq (Irg [Lw 23 1,
 Ien 24 23,
 Imc 25 0] [1,2,5,6,7,8,16,17,18,23,24,25]
 (.block 2 (.loop (Zl_L0))))
 (Irg [Ll 39 (.load (.st [.leaf,.leaf]) (.t 2)),
 Lw 40 7,
 Ll 41 (.idxA none .leaf (.t 40) (Acx 0)),
 Ilx 42 41,
 Ll 43 (.load (.st [.leaf,.leaf]) (.t 2)),
 Lw 44 8,
 ⟨some 45,.call .data [] (.f Fl) [(.t 43),(.t 44)],none,[2,40,41]⟩,
 Ll 46 (Opx Ft [(.t 39),(.t 42),(.t 45)]),
 Lw 11 46] [1,2,5,6,11,16,17,18]
 (.region [Ll 47 (.fldA [.leaf,.leaf] (.t 2) 0),
 Ilx 48 47,
 Lw 49 5,
 Lw 50 11,
 Lw 51 6,
 Ibc 52 .rem 51 2,
 Ll 53 (.bin .mul (Acx 2) (.t 52)),
 Ll 54 (.bin .sub (Acx 1) (.t 53)),
 Ll 55 (Opx F13 [(.t 48),(.t 49),(.t 50),(.t 54)]),
 Lw 5 55] [1,2,5,16,17,18]))))))
 (.region [Ibc 56 .add 18 1,
 Lw 18 56] [1,2,5,16,17,18])))
def Zl_B:Cd:=
 Irg [Ibx 2 0 0,
 Ll 4 (.mv (.c (.sl .leaf [])))] [1,2]
 (.seq (Irg [Lw 12 1,
 Ien 13 12,
 Ibc 14 .eql 13 0] [1,2,14]
 (Icd 14
 (Irg [Ll 15 (.buildSl false 1 .leaf (.int .i64 0) 1 [(0,(Acx 1))]),
 Lw 4 15] [4]
 (.ret))
 (.skip)))
 (Irg [Ll 5 (.mv (.c (.sl .leaf [])))] [1,2,5]
 (.seq (Irg [Lw 16 1,
 Ien 17 16,
 Imc 18 0] [1,2,5,16,17,18]
 (.block 0 (.loop (Zl_L1))))
 (Irg [Lw 57 5,
 Lw 4 57] [4]
 (.ret)))))
def Zl:Fn:=
 { nparams:=2,nblk:=5,results:=[.tmp 4],body:=Zl_B }
def Zs_L0:Cd:=
 Irg [Ibn 18 .lss 17 16] [1,2,5,6,7,11,12,15,16,17,18]
 (.seq (Icd 18
 (.skip)
 (.exit 2))
 (.seq (.block 3 (Irg [Iia 19 .leaf 15 17,
 Ilx 20 19,
 Lw 9 20] [1,2,5,6,7,9,11,12,15,16,17]
 (.region [Lw 21 7,
 Ll 22 (.load (.st [.leaf,.leaf]) (.t 2)),
 Lw 23 9,
 Lw 24 6,
 Ll 25 (Opx Fm [(.t 22),(.t 23),(.t 24)]),
 Ll 26 (.buildSl false 3 .leaf (.sl .leaf []) 1 [(0,(.t 25))]),
 Ll 27 (.append .leaf 4 24 (.t 21) (.t 26)),
 Lw 7 27] [1,2,5,6,7,11,12,15,16,17])))
 (.region [Ibc 28 .add 17 1,
 Lw 17 28] [1,2,5,6,7,11,12,15,16,17])))
def Zs_L1:Cd:=
 Irg [Ibn 13 .lss 12 11] [1,2,5,11,12,13]
 (.seq (Icd 13
 (.skip)
 (.exit 0))
 (.seq (.block 1 (Irg [Lw 14 12,
 Lw 6 14] [1,2,5,6,11,12]
 (Irg [Ll 7 (.nilOwn 2 .leaf)] [1,2,5,6,7,11,12]
 (.seq (Irg [Lw 15 1,
 Ien 16 15,
 Imc 17 0] [1,2,5,6,7,11,12,15,16,17]
 (.block 2 (.loop (Zs_L0))))
 (.region [Lw 29 5,
 Lw 30 7,
 Ll 31 (.buildSl true 5 .leaf (.sl .leaf []) 1 [(0,(.t 30))]),
 Ll 32 (.append .leaf 6 24 (.t 29) (.t 31)),
 Lw 5 32] [1,2,5,11,12])))))
 (.region [Ibc 33 .add 12 1,
 Lw 12 33] [1,2,5,11,12])))
def Zs_B:Cd:=
 Irg [Ibx 2 0 0,
 Ll 4 (.mv (.c (.sl .leaf [])))] [1,2]
 (Irg [Ll 5 (.nilOwn 1 .leaf)] [1,2,5]
 (.seq (Irg [Lw 10 1,
 Ien 11 10,
 Imc 12 0] [1,2,5,11,12]
 (.block 0 (.loop (Zs_L1))))
 (Irg [Lw 34 5,
 Lw 4 34] [4]
 (.ret))))
def Zs:Fn:=
 { nparams:=2,nblk:=7,results:=[.tmp 4],body:=Zs_B }
def Z7_B:Cd:=
 Irg [Ibx 4 0 1,
 Ibz 6 1,
 Imc 7 0] [0,2,4,6]
 (.seq (Irg [Lw 10 0,
 Ipx 11 4,
 Lw 12 2,
 Ll 13 (Ofx F10 [(.t 10),(.t 11),(.t 12),(Acx 0),(Acx 4)]),
 Lw 8 13] [0,2,4,6,8]
 (Irg [Lw 14 8,
 Ibc 15 .neq 14 0] [0,2,4,6,8,15]
 (Icd 15
 (Irg [Iz6 16,
 Lw 17 8,
 Ls (.store false Sx6 (.t 6) (.t 16)),
 Lw 7 17] [6,7]
 (.ret))
 (.skip))))
 (Irg [Lw 18 0,
 Ipx 19 4,
 Ll 20 (Opx Fj [(.t 18),(.t 19)]),
 Ll 9 (.box false 2 (.c (.st [.leaf,.leaf] [(.int .i64 0),(.sl .leaf [])]))),
 Ls (.store false (.st [.leaf,.leaf]) (.t 9) (.t 20))] [2,6,9]
 (Irg [Ll 21 (.load (.st [.leaf,.leaf]) (.t 9)),
 Ll 22 (.load (.st [.leaf,.leaf]) (.t 9)),
 Lw 23 2,
 Ll 24 (Opx F1v [(.t 23)]),
 Ll 25 (Opx Fs [(.t 22),(.t 24)]),
 Ll 26 (Opx Fl [(.t 21),(.t 25)]),
 Ll 27 (Ofx F1z [(.t 26)]),
 Iex 28 27 0,
 Iex 29 27 1,
 Ls (.store false Sx6 (.t 6) (.t 28)),
 Lw 7 29] [6,7]
 (.ret))))
def Z7:Fn:=
 { nparams:=3,nblk:=3,results:=[.cell 6 Sx6,.tmp 7],body:=Z7_B }
def Z8_L0:Cd:=
 Irg [Ibn 27 .lss 26 25] [9,24,25,26,27]
 (.seq (Icd 27
 (.skip)
 (.exit 0))
 (.seq (.block 1 (Irg [Iia 28 .leaf 24 26,
 Ilx 29 28,
 Lw 11 29] [9,11,24,25,26]
 (.region [Lw 30 9,
 Lw 31 11,
 Ll 32 (Opx F11 [(.t 31)]),
 Ll 33 (.buildSl false 2 .leaf (.sl Sx6 []) 1 [(0,(.t 32))]),
 Ll 34 (.append .leaf 3 24 (.t 30) (.t 33)),
 Lw 9 34] [9,24,25,26])))
 (.region [Ibc 35 .add 26 1,
 Lw 26 35] [9,24,25,26])))
def Z8_B:Cd:=
 Irg [Ibx 4 0 1,
 Ll 6 (.mv (.c (.sl .leaf []))),
 Imc 7 0] [0,2,4]
 (.seq (Irg [Lw 12 0,
 Ipx 13 4,
 Lw 14 2,
 Ll 15 (Ofx F10 [(.t 12),(.t 13),(.t 14),(Acx 0),(Acx 4)]),
 Lw 8 15] [0,2,4,8]
 (Irg [Lw 16 8,
 Ibc 17 .neq 16 0] [0,2,4,8,17]
 (Icd 17
 (Irg [Lw 18 8,
 Ll 6 (.mv (.c (.sl .leaf []))),
 Lw 7 18] [6,7]
 (.ret))
 (.skip))))
 (Irg [Ll 9 (.nilOwn 1 .leaf)] [0,2,4,9]
 (.seq (Irg [Lw 19 0,
 Ipx 20 4,
 Ll 21 (Opx Fj [(.t 19),(.t 20)]),
 Lw 22 2,
 Ll 23 (Opx F1v [(.t 22)]),
 Ll 24 (Opx Fs [(.t 21),(.t 23)]),
 Ien 25 24,
 Imc 26 0] [9,24,25,26]
 (.block 0 (.loop (Z8_L0))))
 (Irg [Lw 36 9,
 Lw 6 36,
 Imc 7 0] [6,7]
 (.ret)))))
def Z8:Fn:=
 { nparams:=3,nblk:=4,results:=[.tmp 6,.tmp 7],body:=Z8_B }
def Z4_B:Cd:=
 Irg [Ibx 4 0 1,
 Ll 6 (.mv (.c (.sl Sx6 []))),
 Imc 7 0] [0,2,4]
 (.seq (Irg [Lw 9 0,
 Ipx 10 4,
 Lw 11 2,
 Ll 12 (Ofx F1n [(.t 9),(.t 10),(.t 11)]),
 Lw 8 12] [0,2,4,8]
 (Irg [Lw 13 8,
 Ibc 14 .neq 13 0] [0,2,4,8,14]
 (Icd 14
 (Irg [Lw 15 8,
 Ll 6 (.mv (.c (.sl Sx6 []))),
 Lw 7 15] [6,7]
 (.ret))
 (.skip))))
 (Irg [Lw 16 0,
 Ipx 17 4,
 Ll 18 (Opx Fj [(.t 16),(.t 17)]),
 Lw 19 2,
 Ll 20 (Opx F1v [(.t 19)]),
 Ll 21 (Opx Fr [(.t 18),(.t 20)]),
 Ll 22 (Opx F11 [(.t 21)]),
 Lw 6 22,
 Imc 7 0] [6,7]
 (.ret)))
def Z4:Fn:=
 { nparams:=3,nblk:=1,results:=[.tmp 6,.tmp 7],body:=Z4_B }
end Pe

/-
 Functions of the laws in the small form,printed by a program.
-/
namespace Pe
open Go
abbrev F9:Nat:=1122
def ir_spec_l09Moore_ht_L0:Cd:=
 .seq (Irg [Lw 19 10,
 Lw 20 2,
 Ien 21 20,
 Ibn 22 .lss 19 21] [0,2,4,7,8,9,10,22]
 (Icd 22
 (.skip)
 (.exit 2)))
 (.seq (.block 3 (.region [Lw 25 9,
 Lw 26 0,
 Lw 27 2,
 Lw 28 10,
 Iia 29 Sx6 27 28,
 Ipx 30 29,
 Lw 31 8,
 Ipx 32 4,
 Ll 33 (Ofx F4c [(.t 26),(.t 30),(.t 31),(.t 32)]),
 Ll 34 (.buildSl false 4 Sx6 (.arr 64 .leaf z64) 1 [(0,(.t 33))]),
 Ll 35 (.append Sx6 5 64 (.t 25) (.t 34)),
 Lw 9 35] [0,2,4,7,8,9,10]))
 (.region [Lw 23 10,
 Ibc 24 .add 23 1,
 Lw 10 24] [0,2,4,7,8,9,10]))
def ir_spec_l09Moore_ht_L1:Cd:=
 .seq (Irg [Lw 12 8,
 Lw 13 2,
 Ien 14 13,
 Ibn 15 .lss 12 14] [0,2,4,7,8,15]
 (Icd 15
 (.skip)
 (.exit 0)))
 (.seq (.block 1 (Irg [Ll 18 (.buildSl false 3 Sx6 (.arr 64 .leaf z64) 0 []),
 Lw 9 18] [0,2,4,7,8,9]
 (.seq (Irg [Imc 10 0] [0,2,4,7,8,9,10]
 (.block 2 (.loop (ir_spec_l09Moore_ht_L0))))
 (.region [Lw 36 7,
 Lw 37 9,
 Ll 38 (.tbOne 6 (.t 37)),
 Ll 39 (.tbApp 24 (.t 36) (.t 38)),
 Lw 7 39] [0,2,4,7,8]))))
 (.region [Lw 16 8,
 Ibc 17 .add 16 1,
 Lw 8 17] [0,2,4,7,8]))
def ir_spec_l09Moore_ht_B:Cd:=
 Irg [Ibx 4 0 1,
 Ll 6 (.nilOwn 1 .leaf)] [0,2,4]
 (Irg [Ll 11 (.buildSl false 2 .leaf (.sl Sx6 []) 0 []),
 Lw 7 11] [0,2,4,7]
 (.seq (Irg [Imc 8 0] [0,2,4,7,8]
 (.block 0 (.loop (ir_spec_l09Moore_ht_L1))))
 (Irg [Lw 40 7,
 Lw 6 40] [6]
 (.ret))))
def ir_spec_l09Moore_ht:Fn:=
 { nparams:=3,nblk:=7,results:=[.tmp 6],body:=ir_spec_l09Moore_ht_B }
def ir_spec_l09Determinantt_L0:Cd:=
 .seq (Irg [Lw 24 9,
 Lw 25 2,
 Ien 26 25,
 Ibn 27 .lss 24 26,
 Lw 28 27,
 Lx 29 2 28 true,
 Lx 30 9 28 true,
 Lg 31 (.tbA (.t 29) (.t 30)) 28 true,
 Lg 32 (.tbLoad (.t 31)) 28 true,
 Lx 33 8 28 true,
 Lg 34 (.idxA none Sx6 (.t 32) (.t 33)) 28 true,
 Lg 35 (.load Sx6 (.t 34)) 28 true,
 Lg 36 (Ofx F3m [(.t 35)]) 28 true,
 Lg 37 (.bin .lss (.t 36) (Acx 0)) 28 true,
 Ian 38 28 37] [0,2,4,6,7,8,9,38]
 (Icd 38
 (.skip)
 (.exit 2)))
 (.block 3 (.region [Lw 39 9,
 Ibc 40 .add 39 1,
 Lw 9 40] [0,2,4,6,7,8,9]))
def ir_spec_l09Determinantt_L1:Cd:=
 .seq (Irg [Lw 107 15,
 Lw 108 10,
 Ien 109 108,
 Ibn 110 .lss 107 109] [0,2,4,6,7,8,10,11,12,13,14,15,110]
 (Icd 110
 (.skip)
 (.exit 6)))
 (.seq (.block 7 (.region [Lw 113 14,
 Lw 114 15,
 Lw 115 0,
 Lw 116 14,
 Lw 117 15,
 Iia 118 Sx6 116 117,
 Ipx 119 118,
 Lw 120 0,
 Ipx 121 13,
 Lw 122 10,
 Lw 123 15,
 Iia 124 Sx6 122 123,
 Ipx 125 124,
 Ipx 126 4,
 Ll 127 (Ofx F3z [(.t 120),(.t 121),(.t 125),(.t 126)]),
 Ll 128 (Ofx F3k [(.t 115),(.t 119),(.t 127),(Acx (-1))]),
 Iia 129 Sx6 113 114,
 Ls (.store false Sx6 (.t 129) (.t 128))] [0,2,4,6,7,8,10,11,12,13,14,15]))
 (.region [Lw 111 15,
 Ibc 112 .add 111 1,
 Lw 15 112] [0,2,4,6,7,8,10,11,12,13,14,15]))
def ir_spec_l09Determinantt_L2:Cd:=
 .seq (Irg [Lw 85 12,
 Lw 86 2,
 Ien 87 86,
 Ibn 88 .lss 85 87] [0,2,4,6,7,8,10,11,12,88]
 (Icd 88
 (.skip)
 (.exit 4)))
 (.seq (.block 5 (Irg [Lw 91 0,
 Lw 92 2,
 Lw 93 12,
 Ll 94 (.tbA (.t 92) (.t 93)),
 Ll 95 (.tbLoad (.t 94)),
 Lw 96 8,
 Iia 97 Sx6 95 96,
 Ipx 98 97,
 Ipx 99 11,
 Ipx 100 4,
 Ll 101 (Ofx F3z [(.t 91),(.t 98),(.t 99),(.t 100)]),
 Lw 102 2,
 Lw 103 12,
 Ll 104 (.tbA (.t 102) (.t 103)),
 Ll 105 (.tbLoad (.t 104)),
 Ibz 13 4,
 ⟨none,.store false Sx6 (.t 13) (.t 101),none,[102,103,104]⟩,
 Lw 14 105] [0,2,4,6,7,8,10,11,12,13,14]
 (Irg [Lw 106 8,
 Lw 15 106] [0,2,4,6,7,8,10,11,12,13,14,15]
 (.block 6 (.loop (ir_spec_l09Determinantt_L1))))))
 (.region [Lw 89 12,
 Ibc 90 .add 89 1,
 Lw 12 90] [0,2,4,6,7,8,10,11,12]))
def ir_spec_l09Determinantt_L3:Cd:=
 .seq (Irg [Lw 17 8,
 Lw 18 2,
 Ien 19 18,
 Ibn 20 .lss 17 19] [0,2,4,6,7,8,20]
 (Icd 20
 (.skip)
 (.exit 0)))
 (.seq (.block 1 (Irg [Lw 23 8,
 Lw 9 23] [0,2,4,6,7,8,9]
 (.seq (.block 2 (.loop (ir_spec_l09Determinantt_L0)))
 (.seq (Irg [Lw 41 9,
 Lw 42 2,
 Ien 43 42,
 Ibn 44 .eql 41 43] [0,2,4,6,7,8,9,44]
 (Icd 44
 (Irg [Iz6 45,
 Ls (.store false Sx6 (.t 6) (.t 45))] [6]
 (.ret))
 (.skip)))
 (Irg [Lw 46 2,
 Lw 47 9,
 Ll 48 (.tbA (.t 46) (.t 47)),
 Ll 49 (.tbLoad (.t 48)),
 Lw 10 49] [0,2,4,6,7,8,9,10]
 (.seq (Irg [Lw 50 9,
 Lw 51 8,
 Ibn 52 .neq 50 51] [0,2,4,6,7,8,9,10,52]
 (Icd 52
 (Irg [Lw 53 2,
 Lw 54 9,
 Lw 55 2,
 Lw 56 8,
 Ll 57 (.tbA (.t 55) (.t 56)),
 Ll 58 (.tbLoad (.t 57)),
 Ll 59 (.tbA (.t 53) (.t 54)),
 Ls (.tbStore (.t 59) (.t 58))] [0,2,4,6,7,8,10]
 (Irg [Lw 60 2,
 Lw 61 8,
 Lw 62 10,
 Ll 63 (.tbA (.t 60) (.t 61)),
 Ls (.tbStore (.t 63) (.t 62))] [0,2,4,6,7,8,10]
 (.region [Lw 64 0,
 Iz6 65,
 Ipx 66 7,
 Ll 67 (Ofx F3k [(.t 64),(.t 65),(.t 66),(Acx (-1))]),
 Ls (.store false Sx6 (.t 7) (.t 67))] [0,2,4,6,7,8,10])))
 (.skip)))
 (Irg [Lw 68 0,
 Ipx 69 7,
 Lw 70 10,
 Lw 71 8,
 Iia 72 Sx6 70 71,
 Ipx 73 72,
 Ipx 74 4,
 Ll 75 (Ofx F3z [(.t 68),(.t 69),(.t 73),(.t 74)]),
 Ls (.store false Sx6 (.t 7) (.t 75))] [0,2,4,6,7,8,10]
 (Irg [Lw 76 0,
 Lw 77 10,
 Lw 78 8,
 Iia 79 Sx6 77 78,
 Ipx 80 79,
 Ipx 81 4,
 Ll 82 (Ofx F4d [(.t 76),(.t 80),(.t 81)]),
 Ibz 11 3,
 Ls (.store false Sx6 (.t 11) (.t 82))] [0,2,4,6,7,8,10,11]
 (Irg [Lw 83 8,
 Ibc 84 .add 83 1,
 Lw 12 84] [0,2,4,6,7,8,10,11,12]
 (.block 4 (.loop (ir_spec_l09Determinantt_L2))))))))))))
 (.region [Lw 21 8,
 Ibc 22 .add 21 1,
 Lw 8 22] [0,2,4,6,7,8]))
def ir_spec_l09Determinantt_B:Cd:=
 Irg [Ibx 4 0 1,
 Ibz 6 1] [0,2,4,6]
 (Irg [Ll 16 (Ofx F41 []),
 Ibz 7 2,
 Ls (.store false Sx6 (.t 7) (.t 16))] [0,2,4,6,7]
 (.seq (Irg [Imc 8 0] [0,2,4,6,7,8]
 (.block 0 (.loop (ir_spec_l09Determinantt_L3))))
 (Irg [Ipx 130 7,
 Ls (.store false Sx6 (.t 6) (.t 130))] [6]
 (.ret))))
def ir_spec_l09Determinantt:Fn:=
 { nparams:=3,nblk:=5,results:=[.cell 6 Sx6],body:=ir_spec_l09Determinantt_B }
def ir_spec_MooreDeterminantt_B:Cd:=
 Irg [Ibx 4 0 1,
 Ibz 6 1,
 Imc 7 0] [0,2,4,6]
 (.seq (Irg [Lw 9 0,
 Ipx 10 4,
 Lw 11 2,
 Ll 12 (Ofx F4p [(.t 9),(.t 10),(.t 11),(Acx 4)]),
 Lw 8 12] [0,2,4,6,8]
 (Irg [Lw 13 8,
 Ibc 14 .neq 13 0] [0,2,4,6,8,14]
 (Icd 14
 (Irg [Iz6 15,
 Lw 16 8,
 Ls (.store false Sx6 (.t 6) (.t 15)),
 Lw 7 16] [6,7]
 (.ret))
 (.skip))))
 (Irg [Lw 17 0,
 Lw 18 0,
 Ipx 19 4,
 Lw 20 0,
 Ipx 21 4,
 Lw 22 2,
 ⟨some 23,.call .heap [2] (.f F4r) [(.t 20),(.t 21),(.t 22)],none,[4]⟩,
 Ll 24 (.call .heap [] (.f F4m) [(.t 18),(.t 19),(.t 23)]),
 ⟨some 25,.load Sx6 (.t 4),none,[18,19,20,21,22,23]⟩,
 Ll 26 (Ofx F3x [(.t 17),(.t 24),(.t 25)]),
 Ls (.store false Sx6 (.t 6) (.t 26)),
 Imc 7 0] [6,7]
 (.ret)))
def ir_spec_MooreDeterminantt:Fn:=
 { nparams:=3,nblk:=3,results:=[.cell 6 Sx6,.tmp 7],body:=ir_spec_MooreDeterminantt_B }
end Pe

/-
 Functions of the laws in the small form,printed by a program.
-/
namespace Pe
open Go
def Z22_L0:Cd:=
 .seq (Irg [Lw 111 14,
 Lw 112 10,
 Ien 113 112,
 Ibn 114 .lss 111 113] [0,3,4,5,6,7,10,12,14,114]
 (Icd 114
 (.skip)
 (.exit 0)))
 (.seq (.block 1 (Irg [Lw 117 10,
 Lw 118 14,
 Iia 119 .leaf 117 118,
 Ilx 120 119,
 Lw 121 12,
 Lw 122 14,
 Iia 123 .leaf 121 122,
 Ilx 124 123,
 Ll 125 (Ofx F24 [(.t 120),(.t 124)]),
 Ll 126 (.un .not (.t 125))] [0,3,4,5,6,7,10,12,14,126]
 (Icd 126
 (Irg [Ll 2 (.mv (.c (.bool false)))] [2]
 (.ret))
 (.skip))))
 (.region [Lw 115 14,
 Ibc 116 .add 115 1,
 Lw 14 116] [0,3,4,5,6,7,10,12,14]))
def Z22_L1:Cd:=
 .seq (Irg [Lw 196 23,
 Lw 197 17,
 Ien 198 197,
 Ibn 199 .lss 196 198] [0,17,19,23,199]
 (Icd 199
 (.skip)
 (.exit 2)))
 (.seq (.block 3 (Irg [Lw 202 17,
 Lw 203 23,
 Iia 204 Sx6 202 203,
 Ipx 205 204,
 Lw 206 23,
 Iis 207 8 Sx6 19 206,
 Ipx 208 207,
 Ll 209 (.eqv true (.arr 64 .leaf .int) (.t 205) (.t 208))] [0,17,19,23,209]
 (Icd 209
 (Irg [Ll 2 (.mv (.c (.bool false)))] [2]
 (.ret))
 (.skip))))
 (.region [Lw 200 23,
 Ibc 201 .add 200 1,
 Lw 23 201] [0,17,19,23]))
def Z22_B:Cd:=
 Irg [Ll 2 (.mv (.c (.bool false)))] [0]
 (.seq (Irg [Lw 55 0,
 Ll 56 (Ofx F23 [(.t 55)])] [0,56]
 (Icd 56
 (Irg [Ll 2 (.mv (.c (.bool true)))] [2]
 (.ret))
 (.skip)))
 (Irg [Lw 58 0,
 Ll 59 (Opx F3b [(.t 58)]),
 Lw 57 59,
 Iex 60 57 0,
 Iex 61 57 1,
 Iex 62 57 2,
 Ibz 4 0,
 Lw 3 60,
 Ls (.store false Sx6 (.t 4) (.t 61)),
 Lw 5 62] [0,3,4,5]
 (Irg [Lw 64 3,
 Ipx 65 4,
 Lw 66 5,
 Ll 67 (Ofx F7 [(.t 64),(.t 65),(.t 66)]),
 Lw 63 67,
 Iex 68 63 0,
 Iex 69 63 1,
 Ibz 6 1,
 Ls (.store false Sx6 (.t 6) (.t 68)),
 Lw 7 69] [0,3,4,5,6,7]
 (Irg [Lw 71 3,
 Ipx 72 4,
 Lw 73 5,
 Ll 74 (Ofx F3f [(.t 71),(.t 72),(.t 73)]),
 Lw 70 74,
 Iex 75 70 0,
 Iex 76 70 1,
 Ibz 8 2,
 Ls (.store false Sx6 (.t 8) (.t 75)),
 Lw 9 76] [0,3,4,5,6,7,8,9]
 (Irg [Lw 78 3,
 Ipx 79 4,
 Lw 80 5,
 Ll 81 (Opx F8 [(.t 78),(.t 79),(.t 80)]),
 Lw 77 81,
 Iex 82 77 0,
 Iex 83 77 1,
 Lw 10 82,
 Lw 11 83] [0,3,4,5,6,7,8,9,10,11]
 (Irg [Lw 85 3,
 Ipx 86 4,
 Lw 87 5,
 Ll 88 (Opx F3g [(.t 85),(.t 86),(.t 87)]),
 Lw 84 88,
 Iex 89 84 0,
 Iex 90 84 1,
 Lw 12 89,
 Lw 13 90] [0,3,4,5,6,7,8,9,10,11,12,13]
 (.seq (Irg [Lw 91 7,
 Lw 92 9,
 Ibn 93 .neq 91 92,
 Lw 94 93,
 Lg 95 (.load Sx6 (.t 6)) 94 false,
 Lg 96 (.load Sx6 (.t 8)) 94 false,
 Lg 97 (.eqv true (.arr 64 .leaf .int) (.t 95) (.t 96)) 94 false,
 Ior 98 94 97,
 Lw 99 98,
 Lx 100 11 99 false,
 Lx 101 13 99 false,
 Lg 102 (.bin .neq (.t 100) (.t 101)) 99 false,
 Ior 103 99 102,
 Lw 104 103,
 Lx 105 10 104 false,
 Lg 106 (.len false (.t 105)) 104 false,
 Lx 107 12 104 false,
 Lg 108 (.len false (.t 107)) 104 false,
 Lg 109 (.bin .neq (.t 106) (.t 108)) 104 false,
 Ior 110 104 109] [0,3,4,5,6,7,10,12,110]
 (Icd 110
 (Irg [Ll 2 (.mv (.c (.bool false)))] [2]
 (.ret))
 (.skip)))
 (.seq (Irg [Imc 14 0] [0,3,4,5,6,7,10,12,14]
 (.block 0 (.loop (Z22_L0))))
 (.seq (Irg [Lw 127 7,
 Ibc 128 .eql 127 0] [0,3,4,5,6,128]
 (Icd 128
 (Irg [Lw 130 3,
 Ipx 131 4,
 Lw 132 5,
 Ll 133 (Opx Fc [(.t 130),(.t 131),(.t 132)]),
 Lw 129 133,
 Iex 134 129 0,
 Iex 135 129 1,
 Lw 15 134,
 Lw 16 135] [0,3,4,5,6,15,16]
 (Irg [Lw 137 3,
 Ipx 138 4,
 Lw 139 5,
 Ll 140 (Opx F4 [(.t 137),(.t 138),(.t 139)]),
 Lw 136 140,
 Iex 141 136 0,
 Iex 142 136 1,
 Lw 17 141,
 Lw 18 142] [0,3,4,5,6,15,16,17,18]
 (Irg [Lw 144 3,
 Ipx 145 4,
 Lw 146 5,
 Ll 147 (Ofx F6 [(.t 144),(.t 145),(.t 146)]),
 Lw 143 147,
 Iex 148 143 0,
 Iex 149 143 1,
 Ll 19 (.box false 3 (.c (.arr 8 Sx6 z8))),
 Ls (.store false Sx8 (.t 19) (.t 148)),
 Lw 20 149] [0,3,4,5,6,15,16,17,18,19,20]
 (Irg [Lw 151 3,
 Ipx 152 4,
 Lw 153 5,
 Ll 154 (Ofx Fb [(.t 151),(.t 152),(.t 153)]),
 Lw 150 154,
 Iex 155 150 0,
 Iex 156 150 1,
 Lw 21 155,
 Lw 22 156] [0,5,6,15,16,17,18,19,20,21,22]
 (.seq (Irg [Lw 157 16,
 Ibc 158 .neq 157 0,
 Lw 159 158,
 Lx 160 18 159 false,
 Lg 161 (.bin .neq (.t 160) (Acx 0)) 159 false,
 Ior 162 159 161,
 Lw 163 162,
 Lx 164 20 163 false,
 Lg 165 (.bin .neq (.t 164) (Acx 0)) 163 false,
 Ior 166 163 165,
 Lw 167 166,
 Lx 168 22 167 false,
 Lg 169 (.bin .neq (.t 168) (Acx 0)) 167 false,
 Ior 170 167 169,
 Lw 171 170,
 Lg 172 (.load Sx6 (.t 6)) 171 false,
 Lg 173 (.build false (.arr 64 .leaf z64) []) 171 false,
 Lg 174 (.eqv true (.arr 64 .leaf .int) (.t 172) (.t 173)) 171 false,
 Lx 175 15 171 false,
 Lg 176 (.len false (.t 175)) 171 false,
 Lx 177 5 171 false,
 Lg 178 (.len false (.t 177)) 171 false,
 Lg 179 (.bin .eql (.t 176) (.t 178)) 171 false,
 Lg 180 (.eqv true .bool (.t 174) (.t 179)) 171 false,
 Ior 181 171 180,
 Lw 182 181,
 Lx 183 21 182 false,
 Lx 184 15 182 false,
 Lg 185 (.len false (.t 184)) 182 false,
 Lg 186 (.bin .neq (.t 183) (.t 185)) 182 false,
 Ior 187 182 186,
 Lw 188 187,
 Lx 189 17 188 false,
 Lg 190 (.len false (.t 189)) 188 false,
 Lx 191 15 188 false,
 Lg 192 (.len false (.t 191)) 188 false,
 Lg 193 (.bin .add (.t 192) (Acx 1)) 188 false,
 Lg 194 (.bin .neq (.t 190) (.t 193)) 188 false,
 Ior 195 188 194] [0,17,19,195]
 (Icd 195
 (Irg [Ll 2 (.mv (.c (.bool false)))] [2]
 (.ret))
 (.skip)))
 (Irg [Imc 23 0] [0,17,19,23]
 (.block 2 (.loop (Z22_L1)))))))))
 (.skip)))
 (Irg [Lw 211 0,
 Ll 212 (Opx F3c [(.t 211)]),
 Lw 210 212,
 Iex 213 210 0,
 Iex 214 210 1,
 Iex 215 210 2,
 Iex 216 210 3,
 Ibz 25 4,
 Lw 24 213,
 Ls (.store false Sx6 (.t 25) (.t 214)),
 Lw 26 215,
 Lw 27 216] [0,24,25,26,27]
 (Irg [Lw 218 24,
 Ipx 219 25,
 Lw 220 26,
 Lw 221 27,
 Ll 222 (Ofx Fa [(.t 218),(.t 219),(.t 220),(.t 221)]),
 Lw 217 222,
 Iex 223 217 0,
 Iex 224 217 1,
 Lw 28 223,
 Lw 29 224] [0,24,25,26,27,28,29]
 (Irg [Lw 226 24,
 Ipx 227 25,
 Lw 228 26,
 Lw 229 27,
 Ll 230 (Ofx F3h [(.t 226),(.t 227),(.t 228),(.t 229)]),
 Lw 225 230,
 Iex 231 225 0,
 Iex 232 225 1,
 Lw 30 231,
 Lw 31 232] [0,24,25,26,27,28,29,30,31]
 (Irg [Lw 234 24,
 Ipx 235 25,
 Lw 236 27,
 Lw 237 26,
 Ll 238 (Ofx Fa [(.t 234),(.t 235),(.t 236),(.t 237)]),
 Lw 233 238,
 Iex 239 233 0,
 Iex 240 233 1,
 Lw 32 239,
 Lw 33 240] [0,28,29,30,31,32,33]
 (.seq (Irg [Lw 241 29,
 Lw 242 31,
 Ibn 243 .neq 241 242,
 Lw 244 243,
 Lx 245 28 244 false,
 Lx 246 30 244 false,
 Lg 247 (.bin .neq (.t 245) (.t 246)) 244 false,
 Ior 248 244 247,
 Lw 249 248,
 Lx 250 29 249 false,
 Lg 251 (.bin .eql (.t 250) (Acx 0)) 249 false,
 Lx 252 251 249 false,
 Lx 253 33 252 true,
 Lg 254 (.bin .neq (.t 253) (Acx 0)) 252 true,
 Lx 255 254 252 true,
 Lx 256 32 255 false,
 Lx 257 28 255 false,
 Lg 258 (.bin .neq (.t 256) (.t 257)) 255 false,
 Lg 259 (.pick (.t 255) (.c (.bool true)) (.t 258)) 252 true,
 Lg 260 (.pick (.t 252) (.t 259) (.c (.bool false))) 249 false,
 Ior 261 249 260] [0,261]
 (Icd 261
 (Irg [Ll 2 (.mv (.c (.bool false)))] [2]
 (.ret))
 (.skip)))
 (Irg [Lw 263 0,
 Ll 264 (Opx F3e [(.t 263)]),
 Lw 262 264,
 Iex 265 262 0,
 Iex 266 262 1,
 Iex 267 262 2,
 Ibz 35 5,
 Lw 34 265,
 Ls (.store false Sx6 (.t 35) (.t 266)),
 Lw 36 267] [0,34,35,36]
 (Irg [Lw 269 34,
 Ipx 270 35,
 Lw 271 36,
 Ll 272 (Opx Fc [(.t 269),(.t 270),(.t 271)]),
 Lw 268 272,
 Iex 273 268 0,
 Iex 274 268 1,
 Lw 37 273,
 Lw 38 274] [0,34,35,36,37,38]
 (Irg [Lw 276 34,
 Ipx 277 35,
 Lw 278 36,
 Ll 279 (Opx F3j [(.t 276),(.t 277),(.t 278)]),
 Lw 275 279,
 Iex 280 275 0,
 Iex 281 275 1,
 Lw 39 280,
 Lw 40 281] [0,37,38,39,40]
 (Irg [Lw 283 0,
 Ll 284 (Opx F3a [(.t 283)]),
 Lw 282 284,
 Iex 285 282 0,
 Iex 286 282 1,
 Iex 287 282 2,
 Ibz 42 6,
 Lw 41 285,
 Ls (.store false Sx6 (.t 42) (.t 286)),
 Lw 43 287] [0,37,38,39,40,41,42,43]
 (Irg [Lw 289 41,
 Ipx 290 42,
 Lw 291 43,
 Ll 292 (Opx F4 [(.t 289),(.t 290),(.t 291)]),
 Lw 288 292,
 Iex 293 288 0,
 Iex 294 288 1,
 Lw 44 293,
 Lw 45 294] [0,37,38,39,40,41,42,43,44,45]
 (Irg [Lw 296 41,
 Ipx 297 42,
 Lw 298 43,
 Ll 299 (Opx F39 [(.t 296),(.t 297),(.t 298)]),
 Lw 295 299,
 Iex 300 295 0,
 Iex 301 295 1,
 Lw 46 300,
 Lw 47 301] [0,37,38,39,40,44,45,46,47]
 (Irg [Lw 303 0,
 Ll 304 (Opx F3d [(.t 303)]),
 Lw 302 304,
 Iex 305 302 0,
 Iex 306 302 1,
 Iex 307 302 2,
 Ibz 49 7,
 Lw 48 305,
 Ls (.store false Sx6 (.t 49) (.t 306)),
 Lw 50 307] [37,38,39,40,44,45,46,47,48,49,50]
 (Irg [Lw 309 48,
 Ipx 310 49,
 Lw 311 50,
 Ll 312 (Ofx Fb [(.t 309),(.t 310),(.t 311)]),
 Lw 308 312,
 Iex 313 308 0,
 Iex 314 308 1,
 Lw 51 313,
 Lw 52 314] [37,38,39,40,44,45,46,47,48,49,50,51,52]
 (Irg [Lw 316 48,
 Ipx 317 49,
 Lw 318 50,
 Ll 319 (Ofx F3i [(.t 316),(.t 317),(.t 318)]),
 Lw 315 319,
 Iex 320 315 0,
 Iex 321 315 1,
 Lw 53 320,
 Lw 54 321] [37,38,39,40,44,45,46,47,51,52,53,54]
 (Irg [Lw 322 38,
 Lw 323 40,
 Ibn 324 .eql 322 323,
 Lw 325 324,
 Lx 326 37 325 true,
 Lx 327 39 325 true,
 Lg 328 (Ofx F24 [(.t 326),(.t 327)]) 325 true,
 Ian 329 325 328,
 Lw 330 329,
 Lx 331 45 330 true,
 Lx 332 47 330 true,
 Lg 333 (.bin .eql (.t 331) (.t 332)) 330 true,
 Ian 334 330 333,
 Lw 335 334,
 Lx 336 44 335 true,
 Lx 337 46 335 true,
 Lg 338 (Ofx F24 [(.t 336),(.t 337)]) 335 true,
 Ian 339 335 338,
 Lw 340 339,
 Lx 341 52 340 true,
 Lx 342 54 340 true,
 Lg 343 (.bin .eql (.t 341) (.t 342)) 340 true,
 Ian 344 340 343,
 Lw 345 344,
 Lx 346 51 345 true,
 Lx 347 53 345 true,
 Lg 348 (.bin .eql (.t 346) (.t 347)) 345 true,
 Ian 349 345 348,
 Lw 2 349] [2]
 (.ret)))))))))))))))))))))))))
def Z22:Fn:=
 { nparams:=1,nblk:=8,results:=[.tmp 2],body:=Z22_B }
end Pe

/-
 Functions of the program in the small form,printed by a program.
-/
namespace Pe
open Go
def Z3m_L0:Cd:=
 .seq (Irg [Lw 4 3,
 Ibc 5 .geq 4 0,
 Lw 6 5,
 Lx 7 3 6 true,
 Lg 8 (.idxA (some 64) .leaf (.t 1) (.t 7)) 6 true,
 Lg 9 (.load .leaf (.t 8)) 6 true,
 Lg 10 (.bin .eql (.t 9) (.c (.int .u8 0))) 6 true,
 Ian 11 6 10] [1,3,11]
 (Icd 11
 (.skip)
 (.exit 0)))
 (.block 1 (.region [Lw 12 3,
 Ibc 13 .sub 12 1,
 Lw 3 13] [1,3]))
def Z3m_B:Cd:=
 Irg [Ibx 1 0 0,
 Imc 2 0] [1]
 (Irg [Imc 3 63] [1,3]
 (.seq (.block 0 (.loop (Z3m_L0)))
 (Irg [Lw 14 3,
 Lw 2 14] [2]
 (.ret))))
def Z3m:Fn:=
 { nparams:=1,nblk:=1,results:=[.tmp 2],body:=Z3m_B }
def Z3t_B:Cd:=
 Irg [Ll 6 (.mv (.c (.bool false)))] [0,1,2]
 (Irg [Lw 7 0,
 Lw 8 1,
 Ibn 9 .geq 7 8,
 Lw 10 9,
 Lx 11 0 10 true,
 Lx 12 2 10 true,
 Lg 13 (.bin .leq (.t 11) (.t 12)) 10 true,
 Ian 14 10 13,
 Lw 6 14] [6]
 (.ret))
def Z3t:Fn:=
 { nparams:=3,nblk:=0,results:=[.tmp 6],body:=Z3t_B }
def Z44_B:Cd:=
 Irg [Ll 2 (.mv (.c (.bool false)))] [0]
 (Irg [Lw 3 0,
 Ibc 4 .eql 3 2,
 Lw 5 4,
 Lx 6 0 5 false,
 Lg 7 (.bin .eql (.t 6) (Acx 3)) 5 false,
 Ior 8 5 7,
 Lw 9 8,
 Lx 10 0 9 false,
 Lg 11 (.bin .eql (.t 10) (Acx 5)) 9 false,
 Ior 12 9 11,
 Lw 13 12,
 Lx 14 0 13 false,
 Lg 15 (.bin .eql (.t 14) (Acx 7)) 13 false,
 Ior 16 13 15,
 Lw 2 16] [2]
 (.ret))
def Z44:Fn:=
 { nparams:=1,nblk:=0,results:=[.tmp 2],body:=Z44_B }
def Z3w_L0:Cd:=
 .seq (Irg [Lw 6 5,
 Ibc 7 .lss 6 64] [0,3,5,7]
 (Icd 7
 (.skip)
 (.exit 0)))
 (.seq (.block 1 (Irg [Lw 10 5,
 Iis 11 64 .leaf 3 10,
 Ilx 12 11,
 Icv 13 .i64 12,
 Lw 14 0,
 Ibn 15 .geq 13 14] [0,3,5,15]
 (Icd 15
 (Irg [Ll 4 (.mv (.c (.bool false)))] [4]
 (.ret))
 (.skip))))
 (.region [Lw 8 5,
 Ibc 9 .add 8 1,
 Lw 5 9] [0,3,5]))
def Z3w_B:Cd:=
 Irg [Ibx 3 0 1,
 Ll 4 (.mv (.c (.bool false)))] [0,3]
 (.seq (Irg [Imc 5 0] [0,3,5]
 (.block 0 (.loop (Z3w_L0))))
 (Irg [Lw 16 0,
 Ll 17 (Ofx F44 [(.t 16)]),
 Lw 4 17] [4]
 (.ret)))
def Z3w:Fn:=
 { nparams:=2,nblk:=1,results:=[.tmp 4],body:=Z3w_B }
def Z3y_B:Cd:=
 Irg [Ibx 1 0 0,
 Ll 2 (.mv (.c (.bool false)))] [1]
 (Irg [Ipx 4 1,
 Ll 5 (Ofx F3m [(.t 4)]),
 Lw 3 5] [1,3]
 (Irg [Lw 6 3,
 Ibc 7 .geq 6 0,
 Lw 8 7,
 Lx 9 3 8 true,
 Lg 10 (.idxA (some 64) .leaf (.t 1) (.t 9)) 8 true,
 Lg 11 (.load .leaf (.t 10)) 8 true,
 Lg 12 (.bin .eql (.t 11) (.c (.int .u8 1))) 8 true,
 Ian 13 8 12,
 Lw 2 13] [2]
 (.ret)))
def Z3y:Fn:=
 { nparams:=1,nblk:=1,results:=[.tmp 2],body:=Z3y_B }
def Z3u_L0:Cd:=
 .seq (Irg [Lw 6 5,
 Lw 7 0,
 Ibn 8 .lss 6 7] [0,1,5,8]
 (Icd 8
 (.skip)
 (.exit 0)))
 (.seq (.block 1 (Irg [Lw 11 5,
 Lw 12 1,
 Icv 13 .i64 12,
 Ibn 14 .mul 11 13,
 Lw 15 0,
 Ibn 16 .rem 14 15,
 Ibc 17 .eql 16 1] [0,1,5,17]
 (Icd 17
 (Irg [Lw 18 5,
 Icv 19 .u8 18,
 Lw 4 19] [4]
 (.ret))
 (.skip))))
 (.region [Lw 9 5,
 Ibc 10 .add 9 1,
 Lw 5 10] [0,1,5]))
def Z3u_B:Cd:=
 Irg [Ll 4 (.mv (.c (.int .u8 0)))] [0,1]
 (.seq (Irg [Imc 5 1] [0,1,5]
 (.block 0 (.loop (Z3u_L0))))
 (Irg [Ll 4 (.mv (.c (.int .u8 0)))] [4]
 (.ret)))
def Z3u:Fn:=
 { nparams:=2,nblk:=0,results:=[.tmp 4],body:=Z3u_B }
def Z3n_L0:Cd:=
 .seq (Irg [Lw 44 13,
 Lw 45 9,
 Ibn 46 .leq 44 45,
 Lw 47 46,
 Lx 48 12 47 true,
 Lg 49 (.bin .neq (.t 48) (Acx 0)) 47 true,
 Ian 50 47 49] [0,4,5,6,7,8,9,10,11,12,13,50]
 (Icd 50
 (.skip)
 (.exit 2)))
 (.seq (.block 3 (.region [Lw 53 11,
 Lw 54 9,
 Ibn 55 .sub 53 54,
 Lw 56 13,
 Ibn 57 .add 55 56,
 Lw 58 11,
 Lw 59 9,
 Ibn 60 .sub 58 59,
 Lw 61 13,
 Ibn 62 .add 60 61,
 Iis 63 64 .leaf 4 62,
 Ilx 64 63,
 Icv 65 .i64 64,
 Lw 66 12,
 Lw 67 13,
 Iis 68 64 .leaf 5 67,
 Ilx 69 68,
 Icv 70 .i64 69,
 Ibn 71 .mul 66 70,
 Ibn 72 .sub 65 71,
 Lw 73 0,
 Ibn 74 .rem 72 73,
 Lw 75 0,
 Ibn 76 .add 74 75,
 Lw 77 0,
 Ibn 78 .rem 76 77,
 Icv 79 .u8 78,
 Iis 80 64 .leaf 4 57,
 Ls (.store false .leaf (.t 80) (.t 79))] [0,4,5,6,7,8,9,10,11,12,13]))
 (.region [Lw 51 13,
 Ibc 52 .add 51 1,
 Lw 13 52] [0,4,5,6,7,8,9,10,11,12,13]))
def Z3n_L1:Cd:=
 .seq (Irg [Lw 25 11,
 Lw 26 9,
 Ibn 27 .geq 25 26] [0,4,5,6,7,8,9,10,11,27]
 (Icd 27
 (.skip)
 (.exit 0)))
 (.seq (.block 1 (Irg [Lw 30 11,
 Iis 31 64 .leaf 4 30,
 Ilx 32 31,
 Icv 33 .i64 32,
 Lw 34 10,
 Ibn 35 .mul 33 34,
 Lw 36 0,
 Ibn 37 .rem 35 36,
 Lw 12 37] [0,4,5,6,7,8,9,10,11,12]
 (Irg [Lw 38 11,
 Lw 39 9,
 Ibn 40 .sub 38 39,
 Lw 41 12,
 Icv 42 .u8 41,
 Iis 43 64 .leaf 8 40,
 Ls (.store false .leaf (.t 43) (.t 42))] [0,4,5,6,7,8,9,10,11,12]
 (Irg [Imc 13 0] [0,4,5,6,7,8,9,10,11,12,13]
 (.block 2 (.loop (Z3n_L0)))))))
 (.region [Lw 28 11,
 Ibc 29 .sub 28 1,
 Lw 11 29] [0,4,5,6,7,8,9,10,11]))
def Z3n_B:Cd:=
 Irg [Ibx 4 0 1,
 Ibx 5 1 2,
 Ibz 6 2,
 Ibz 7 3] [0,4,5,6,7]
 (Irg [Iz6 14,
 Ipx 15 5,
 Ll 16 (Ofx F3m [(.t 15)]),
 Ibz 8 4,
 Ls (.store false Sx6 (.t 8) (.t 14)),
 Lw 9 16] [0,4,5,6,7,8,9]
 (Irg [Lw 17 0,
 Lw 18 9,
 Iis 19 64 .leaf 5 18,
 Ilx 20 19,
 Ll 21 (Ofx F3u [(.t 17),(.t 20)]),
 Icv 22 .i64 21,
 Lw 10 22] [0,4,5,6,7,8,9,10]
 (.seq (Irg [Ipx 23 4,
 Ll 24 (Ofx F3m [(.t 23)]),
 Lw 11 24] [0,4,5,6,7,8,9,10,11]
 (.block 0 (.loop (Z3n_L1))))
 (Irg [Ipx 81 8,
 Ipx 82 4,
 ⟨none,.store false Sx6 (.t 6) (.t 81),none,[4]⟩,
 Ls (.store false Sx6 (.t 7) (.t 82))] [6,7]
 (.ret)))))
def Z3n:Fn:=
 { nparams:=3,nblk:=5,results:=[.cell 6 Sx6,.cell 7 Sx6],body:=Z3n_B }
def Z3x_B:Cd:=
 Irg [Ibx 4 0 1,
 Ibx 5 1 2,
 Ibz 6 2] [0,4,5,6]
 (Irg [Lw 10 0,
 Ipx 11 4,
 Ipx 12 5,
 Ll 13 (Ofx F3n [(.t 10),(.t 11),(.t 12)]),
 Lw 9 13,
 Iex 14 9 0,
 Iex 15 9 1,
 Ibz 7 3,
 Ibz 8 4,
 Ls (.store false Sx6 (.t 7) (.t 14)),
 Ls (.store false Sx6 (.t 8) (.t 15))] [6,8]
 (Irg [Ipx 16 8,
 Ls (.store false Sx6 (.t 6) (.t 16))] [6]
 (.ret)))
def Z3x:Fn:=
 { nparams:=3,nblk:=5,results:=[.cell 6 Sx6],body:=Z3x_B }
def Z41_B:Cd:=
 Irg [Ibz 0 0] [0]
 (Irg [Ll 1 (.build false (.arr 64 .leaf z64) [(0,(.c (.int .u8 1)))]),
 Ls (.store false Sx6 (.t 0) (.t 1))] [0]
 (.ret))
def Z41:Fn:=
 { nparams:=0,nblk:=1,results:=[.cell 0 Sx6],body:=Z41_B }
def Z3k_L0:Cd:=
 .seq (Irg [Lw 10 9,
 Ibc 11 .lss 10 64] [0,3,5,6,8,9,11]
 (Icd 11
 (.skip)
 (.exit 0)))
 (.seq (.block 1 (.region [Lw 14 9,
 Lw 15 9,
 Iis 16 64 .leaf 5 15,
 Ilx 17 16,
 Icv 18 .i64 17,
 Lw 19 3,
 Lw 20 9,
 Iis 21 64 .leaf 6 20,
 Ilx 22 21,
 Icv 23 .i64 22,
 Ibn 24 .mul 19 23,
 Ibn 25 .add 18 24,
 Lw 26 0,
 Ibn 27 .rem 25 26,
 Lw 28 0,
 Ibn 29 .add 27 28,
 Lw 30 0,
 Ibn 31 .rem 29 30,
 Icv 32 .u8 31,
 Iis 33 64 .leaf 5 14,
 Ls (.store false .leaf (.t 33) (.t 32))] [0,3,5,6,8,9]))
 (.region [Lw 12 9,
 Ibc 13 .add 12 1,
 Lw 9 13] [0,3,5,6,8,9]))
def Z3k_B:Cd:=
 Irg [Ibx 5 0 1,
 Ibx 6 1 2,
 Ibz 8 2] [0,3,5,6,8]
 (.seq (Irg [Imc 9 0] [0,3,5,6,8,9]
 (.block 0 (.loop (Z3k_L0))))
 (Irg [Ipx 34 5,
 Ls (.store false Sx6 (.t 8) (.t 34))] [8]
 (.ret)))
def Z3k:Fn:=
 { nparams:=4,nblk:=3,results:=[.cell 8 Sx6],body:=Z3k_B }
def Z47_L0:Cd:=
 .seq (Irg [Lw 24 10,
 Lw 25 7,
 Ibn 26 .lss 24 25] [0,4,5,6,7,8,9,10,26]
 (Icd 26
 (.skip)
 (.exit 0)))
 (.seq (.block 1 (.region [Lw 29 10,
 Lw 30 10,
 Ibc 31 .sub 30 1,
 Iis 32 64 .leaf 4 31,
 Ilx 33 32,
 Iis 34 64 .leaf 9 29,
 Ls (.store false .leaf (.t 34) (.t 33))] [0,4,5,6,7,8,9,10]))
 (.region [Lw 27 10,
 Ibc 28 .add 27 1,
 Lw 10 28] [0,4,5,6,7,8,9,10]))
def Z47_L1:Cd:=
 .seq (Irg [Lw 45 12,
 Lw 46 7,
 Ibn 47 .lss 45 46] [0,5,6,7,9,11,12,47]
 (Icd 47
 (.skip)
 (.exit 2)))
 (.seq (.block 3 (.region [Lw 50 12,
 Lw 51 12,
 Iis 52 64 .leaf 9 51,
 Ilx 53 52,
 Icv 54 .i64 53,
 Lw 55 11,
 Lw 56 12,
 Iis 57 64 .leaf 5 56,
 Ilx 58 57,
 Icv 59 .i64 58,
 Ibn 60 .mul 55 59,
 Ibn 61 .sub 54 60,
 Lw 62 0,
 Ibn 63 .rem 61 62,
 Lw 64 0,
 Ibn 65 .add 63 64,
 Lw 66 0,
 Ibn 67 .rem 65 66,
 Icv 68 .u8 67,
 Iis 69 64 .leaf 9 50,
 Ls (.store false .leaf (.t 69) (.t 68))] [0,5,6,7,9,11,12]))
 (.region [Lw 48 12,
 Ibc 49 .add 48 1,
 Lw 12 49] [0,5,6,7,9,11,12]))
def Z47_B:Cd:=
 Irg [Ibx 4 0 1,
 Ibx 5 1 2,
 Ibz 6 2] [0,4,5,6]
 (Irg [Ipx 13 5,
 Ll 14 (Ofx F3m [(.t 13)]),
 Lw 7 14] [0,4,5,6,7]
 (.seq (Irg [Lw 15 7,
 Ibc 16 .eql 15 0] [0,4,5,6,7,16]
 (Icd 16
 (Irg [Iz6 17,
 Ls (.store false Sx6 (.t 6) (.t 17))] [6]
 (.ret))
 (.skip)))
 (Irg [Lw 18 7,
 Ibc 19 .sub 18 1,
 Iis 20 64 .leaf 4 19,
 Ilx 21 20,
 Icv 22 .i64 21,
 Iz6 23,
 Ibz 9 3,
 Lw 8 22,
 Ls (.store false Sx6 (.t 9) (.t 23))] [0,4,5,6,7,8,9]
 (.seq (Irg [Imc 10 1] [0,4,5,6,7,8,9,10]
 (.block 0 (.loop (Z47_L0))))
 (Irg [Lw 35 8,
 Lw 36 0,
 Lw 37 7,
 Iis 38 64 .leaf 5 37,
 Ilx 39 38,
 Ll 40 (Ofx F3u [(.t 36),(.t 39)]),
 Icv 41 .i64 40,
 Ibn 42 .mul 35 41,
 Lw 43 0,
 Ibn 44 .rem 42 43,
 Lw 11 44] [0,5,6,7,9,11]
 (.seq (Irg [Imc 12 0] [0,5,6,7,9,11,12]
 (.block 2 (.loop (Z47_L1))))
 (Irg [Ipx 70 9,
 Ls (.store false Sx6 (.t 6) (.t 70))] [6]
 (.ret))))))))
def Z47:Fn:=
 { nparams:=3,nblk:=4,results:=[.cell 6 Sx6],body:=Z47_B }
def Z3z_L0:Cd:=
 .seq (Irg [Lw 14 10,
 Ibc 15 .geq 14 0] [0,5,6,7,8,9,10,15]
 (Icd 15
 (.skip)
 (.exit 0)))
 (.seq (.block 1 (Irg [Lw 18 0,
 Ipx 19 9,
 Ipx 20 7,
 Ll 21 (Ofx F47 [(.t 18),(.t 19),(.t 20)]),
 Ls (.store false Sx6 (.t 9) (.t 21))] [0,5,6,7,8,9,10]
 (.region [Lw 22 0,
 Lw 23 0,
 Ipx 24 9,
 Ipx 25 5,
 Lw 26 10,
 Iis 27 64 .leaf 6 26,
 Ilx 28 27,
 Icv 29 .i64 28,
 Ll 30 (Ofx F3k [(.t 23),(.t 24),(.t 25),(.t 29)]),
 Ipx 31 7,
 Ll 32 (Ofx F3x [(.t 22),(.t 30),(.t 31)]),
 Ls (.store false Sx6 (.t 9) (.t 32))] [0,5,6,7,8,9,10])))
 (.region [Lw 16 10,
 Ibc 17 .sub 16 1,
 Lw 10 17] [0,5,6,7,8,9,10]))
def Z3z_B:Cd:=
 Irg [Ibx 5 0 1,
 Ibx 6 1 2,
 Ibx 7 2 3,
 Ibz 8 3] [0,5,6,7,8]
 (Irg [Iz6 11,
 Ibz 9 4,
 Ls (.store false Sx6 (.t 9) (.t 11))] [0,5,6,7,8,9]
 (.seq (Irg [Ipx 12 6,
 Ll 13 (Ofx F3m [(.t 12)]),
 Lw 10 13] [0,5,6,7,8,9,10]
 (.block 0 (.loop (Z3z_L0))))
 (Irg [Ipx 33 9,
 Ls (.store false Sx6 (.t 8) (.t 33))] [8]
 (.ret))))
def Z3z:Fn:=
 { nparams:=4,nblk:=5,results:=[.cell 8 Sx6],body:=Z3z_B }
def Z43_L0:Cd:=
 .seq (Irg [Lw 19 2,
 Ibc 20 .gtr 19 0] [0,2,7,8,9,10,20]
 (Icd 20
 (.skip)
 (.exit 0)))
 (.seq (.block 1 (.seq (Irg [Lw 23 2,
 Ibc 24 .rem 23 2,
 Ibc 25 .eql 24 1] [0,2,7,8,9,10,25]
 (Icd 25
 (.region [Lw 26 0,
 Ipx 27 9,
 Ipx 28 10,
 Ipx 29 7,
 Ll 30 (Ofx F3z [(.t 26),(.t 27),(.t 28),(.t 29)]),
 Ls (.store false Sx6 (.t 9) (.t 30))] [0,2,7,8,9,10])
 (.skip)))
 (.region [Lw 31 0,
 Ipx 32 10,
 Ipx 33 10,
 Ipx 34 7,
 Ll 35 (Ofx F3z [(.t 31),(.t 32),(.t 33),(.t 34)]),
 Ls (.store false Sx6 (.t 10) (.t 35))] [0,2,7,8,9,10])))
 (.region [Lw 21 2,
 Ibc 22 .quo 21 2,
 Lw 2 22] [0,2,7,8,9,10]))
def Z43_B:Cd:=
 Irg [Ibx 5 0 1,
 Ibx 7 1 3,
 Ibz 8 2] [0,2,5,7,8]
 (Irg [Lw 11 0,
 Ll 12 (Ofx F41 []),
 Ipx 13 7,
 Ll 14 (Ofx F3x [(.t 11),(.t 12),(.t 13)]),
 Lw 15 0,
 Ipx 16 5,
 Ipx 17 7,
 Ll 18 (Ofx F3x [(.t 15),(.t 16),(.t 17)]),
 Ibz 9 3,
 Ibz 10 4,
 Ls (.store false Sx6 (.t 9) (.t 14)),
 Ls (.store false Sx6 (.t 10) (.t 18))] [0,2,7,8,9,10]
 (.seq (.block 0 (.loop (Z43_L0)))
 (Irg [Ipx 36 9,
 Ls (.store false Sx6 (.t 8) (.t 36))] [8]
 (.ret))))
def Z43:Fn:=
 { nparams:=4,nblk:=5,results:=[.cell 8 Sx6],body:=Z43_B }
def Z46_L0:Cd:=
 .seq (Irg [Lw 35 12,
 Lw 36 9,
 Ibn 37 .leq 35 36,
 Lw 38 37,
 Lx 39 11 38 true,
 Lg 40 (.idxA (some 64) .leaf (.t 4) (.t 39)) 38 true,
 Lg 41 (.load .leaf (.t 40)) 38 true,
 Lg 42 (.bin .neq (.t 41) (.c (.int .u8 0))) 38 true,
 Ian 43 38 42] [0,4,5,6,8,9,10,11,12,43]
 (Icd 43
 (.skip)
 (.exit 2)))
 (.seq (.block 3 (.region [Lw 46 11,
 Lw 47 12,
 Ibn 48 .add 46 47,
 Lw 49 11,
 Lw 50 12,
 Ibn 51 .add 49 50,
 Iis 52 64 .leaf 10 51,
 Ilx 53 52,
 Icv 54 .i64 53,
 Lw 55 11,
 Iis 56 64 .leaf 4 55,
 Ilx 57 56,
 Icv 58 .i64 57,
 Lw 59 12,
 Iis 60 64 .leaf 5 59,
 Ilx 61 60,
 Icv 62 .i64 61,
 Ibn 63 .mul 58 62,
 Ibn 64 .add 54 63,
 Lw 65 0,
 Ibn 66 .rem 64 65,
 Icv 67 .u8 66,
 Iis 68 64 .leaf 10 48,
 Ls (.store false .leaf (.t 68) (.t 67))] [0,4,5,6,8,9,10,11,12]))
 (.region [Lw 44 12,
 Ibc 45 .add 44 1,
 Lw 12 45] [0,4,5,6,8,9,10,11,12]))
def Z46_L1:Cd:=
 .seq (Irg [Lw 30 11,
 Lw 31 8,
 Ibn 32 .leq 30 31] [0,4,5,6,8,9,10,11,32]
 (Icd 32
 (.skip)
 (.exit 0)))
 (.seq (.block 1 (Irg [Imc 12 0] [0,4,5,6,8,9,10,11,12]
 (.block 2 (.loop (Z46_L0)))))
 (.region [Lw 33 11,
 Ibc 34 .add 33 1,
 Lw 11 34] [0,4,5,6,8,9,10,11]))
def Z46_B:Cd:=
 Irg [Ibx 4 0 1,
 Ibx 5 1 2,
 Ibz 6 2,
 Ll 7 (.mv (.c (.bool false)))] [0,4,5,6]
 (Irg [Ipx 13 4,
 Ll 14 (Ofx F3m [(.t 13)]),
 Ipx 15 5,
 Ll 16 (Ofx F3m [(.t 15)]),
 Iz6 17,
 Ibz 10 3,
 Lw 8 14,
 Lw 9 16,
 Ls (.store false Sx6 (.t 10) (.t 17))] [0,4,5,6,8,9,10]
 (.seq (Irg [Lw 18 8,
 Ibc 19 .lss 18 0,
 Lw 20 19,
 Lx 21 9 20 false,
 Lg 22 (.bin .lss (.t 21) (Acx 0)) 20 false,
 Ior 23 20 22] [0,4,5,6,8,9,10,23]
 (Icd 23
 (Irg [Ipx 24 10,
 Ls (.store false Sx6 (.t 6) (.t 24)),
 Ll 7 (.mv (.c (.bool true)))] [6,7]
 (.ret))
 (.skip)))
 (.seq (Irg [Lw 25 8,
 Lw 26 9,
 Ibn 27 .add 25 26,
 Ibc 28 .gtr 27 63] [0,4,5,6,8,9,10,28]
 (Icd 28
 (Irg [Ipx 29 10,
 Ls (.store false Sx6 (.t 6) (.t 29)),
 Ll 7 (.mv (.c (.bool false)))] [6,7]
 (.ret))
 (.skip)))
 (.seq (Irg [Imc 11 0] [0,4,5,6,8,9,10,11]
 (.block 0 (.loop (Z46_L1))))
 (Irg [Ipx 69 10,
 Ls (.store false Sx6 (.t 6) (.t 69)),
 Ll 7 (.mv (.c (.bool true)))] [6,7]
 (.ret))))))
def Z46:Fn:=
 { nparams:=3,nblk:=4,results:=[.cell 6 Sx6,.tmp 7],body:=Z46_B }
def Z3l_L0:Cd:=
 .seq (Irg [Ipx 26 5,
 Ll 27 (Ofx F3m [(.t 26)]),
 Ibc 28 .geq 27 0] [0,4,5,6,7,8,9,10,11,12,28]
 (Icd 28
 (.skip)
 (.exit 0)))
 (.block 1 (Irg [Lw 30 0,
 Ipx 31 4,
 Ipx 32 5,
 Ll 33 (Ofx F3n [(.t 30),(.t 31),(.t 32)]),
 Lw 29 33,
 Iex 34 29 0,
 Iex 35 29 1,
 Ibz 13 9,
 Ibz 14 10,
 Ls (.store false Sx6 (.t 13) (.t 34)),
 Ls (.store false Sx6 (.t 14) (.t 35))] [0,4,5,6,7,8,9,10,11,12,13,14]
 (Irg [Lw 37 0,
 Ipx 38 13,
 Ipx 39 10,
 Ll 40 (Ofx F46 [(.t 37),(.t 38),(.t 39)]),
 Lw 36 40,
 Iex 41 36 0,
 Iex 42 36 1,
 Ibz 15 11,
 Ls (.store false Sx6 (.t 15) (.t 41)),
 Lw 16 42] [0,4,5,6,7,8,9,10,11,12,13,14,15]
 (Irg [Lw 44 0,
 Ipx 45 13,
 Ipx 46 12,
 Ll 47 (Ofx F46 [(.t 44),(.t 45),(.t 46)]),
 Lw 43 47,
 Iex 48 43 0,
 Iex 49 43 1,
 Ibz 17 12,
 Ls (.store false Sx6 (.t 17) (.t 48)),
 Lw 18 49] [0,4,5,6,7,8,9,10,11,12,14,15,17]
 (Irg [Lw 50 0,
 Ipx 51 9,
 Ipx 52 15,
 Ll 53 (Ofx F3k [(.t 50),(.t 51),(.t 52),(Acx (-1))]),
 Lw 54 0,
 Ipx 55 11,
 Ipx 56 17,
 Ll 57 (Ofx F3k [(.t 54),(.t 55),(.t 56),(Acx (-1))]),
 Ibz 19 13,
 Ibz 20 14,
 Ls (.store false Sx6 (.t 19) (.t 53)),
 Ls (.store false Sx6 (.t 20) (.t 57))] [0,4,5,6,7,8,9,10,11,12,14,19,20]
 (Irg [Ipx 58 5,
 Ls (.store false Sx6 (.t 4) (.t 58))] [0,4,5,6,7,8,9,10,11,12,14,19,20]
 (Irg [Ipx 59 14,
 Ls (.store false Sx6 (.t 5) (.t 59))] [0,4,5,6,7,8,9,10,11,12,19,20]
 (Irg [Ipx 60 10,
 Ls (.store false Sx6 (.t 9) (.t 60))] [0,4,5,6,7,8,9,10,11,12,19,20]
 (Irg [Ipx 61 12,
 Ls (.store false Sx6 (.t 11) (.t 61))] [0,4,5,6,7,8,9,10,11,12,19,20]
 (Irg [Ipx 62 19,
 Ls (.store false Sx6 (.t 10) (.t 62))] [0,4,5,6,7,8,9,10,11,12,20]
 (.region [Ipx 63 20,
 Ls (.store false Sx6 (.t 12) (.t 63))] [0,4,5,6,7,8,9,10,11,12])))))))))))
def Z3l_B:Cd:=
 Irg [Ibx 4 0 1,
 Ibx 5 1 2,
 Ibz 6 2,
 Ibz 7 3,
 Ibz 8 4] [0,4,5,6,7,8]
 (Irg [Ll 22 (Ofx F41 []),
 Iz6 23,
 Iz6 24,
 Ll 25 (Ofx F41 []),
 Ibz 9 5,
 Ibz 10 6,
 Ibz 11 7,
 Ibz 12 8,
 Ls (.store false Sx6 (.t 9) (.t 22)),
 Ls (.store false Sx6 (.t 10) (.t 23)),
 Ls (.store false Sx6 (.t 11) (.t 24)),
 Ls (.store false Sx6 (.t 12) (.t 25))] [0,4,5,6,7,8,9,10,11,12]
 (.seq (.block 0 (.loop (Z3l_L0)))
 (Irg [Lw 64 0,
 Ipx 65 4,
 Ll 66 (Ofx F3m [(.t 65)]),
 Iis 67 64 .leaf 4 66,
 Ilx 68 67,
 Ll 69 (Ofx F3u [(.t 64),(.t 68)]),
 Icv 70 .i64 69,
 Lw 21 70] [0,4,6,7,8,9,11,21]
 (Irg [Lw 71 0,
 Iz6 72,
 Ipx 73 4,
 Lw 74 21,
 Ll 75 (Ofx F3k [(.t 71),(.t 72),(.t 73),(.t 74)]),
 Lw 76 0,
 Iz6 77,
 Ipx 78 9,
 Lw 79 21,
 Ll 80 (Ofx F3k [(.t 76),(.t 77),(.t 78),(.t 79)]),
 Lw 81 0,
 Iz6 82,
 Ipx 83 11,
 Lw 84 21,
 Ll 85 (Ofx F3k [(.t 81),(.t 82),(.t 83),(.t 84)]),
 Ls (.store false Sx6 (.t 6) (.t 75)),
 Ls (.store false Sx6 (.t 7) (.t 80)),
 Ls (.store false Sx6 (.t 8) (.t 85))] [6,7,8]
 (.ret)))))
def Z3l:Fn:=
 { nparams:=3,nblk:=15,results:=[.cell 6 Sx6,.cell 7 Sx6,.cell 8 Sx6],body:=Z3l_B }
def Z3s_B:Cd:=
 Irg [Ibx 4 0 1,
 Ibx 5 1 2,
 Ibz 6 2] [0,4,5,6]
 (.seq (Irg [Ipx 10 4,
 Ll 11 (Ofx F3m [(.t 10)]),
 Ibc 12 .lss 11 0,
 Lw 13 12,
 Lg 14 (.load Sx6 (.t 5)) 13 true,
 Lg 15 (Ofx F3m [(.t 14)]) 13 true,
 Lg 16 (.bin .lss (.t 15) (Acx 0)) 13 true,
 Ian 17 13 16] [0,4,5,6,17]
 (Icd 17
 (Irg [Iz6 18,
 Ls (.store false Sx6 (.t 6) (.t 18))] [6]
 (.ret))
 (.skip)))
 (Irg [Lw 20 0,
 Ipx 21 4,
 Ipx 22 5,
 Ll 23 (Ofx F3l [(.t 20),(.t 21),(.t 22)]),
 Lw 19 23,
 Iex 24 19 0,
 Iex 25 19 1,
 Iex 26 19 2,
 Ibz 7 3,
 Ibz 8 4,
 Ibz 9 5,
 Ls (.store false Sx6 (.t 7) (.t 24)),
 Ls (.store false Sx6 (.t 8) (.t 25)),
 Ls (.store false Sx6 (.t 9) (.t 26))] [6,7]
 (Irg [Ipx 27 7,
 Ls (.store false Sx6 (.t 6) (.t 27))] [6]
 (.ret))))
def Z3s:Fn:=
 { nparams:=3,nblk:=6,results:=[.cell 6 Sx6],body:=Z3s_B }
def Z45_B:Cd:=
 Irg [Ibz 0 0] [0]
 (Irg [Ll 1 (.build false (.arr 64 .leaf z64) [(0,(.c (.int .u8 0))),(1,(.c (.int .u8 1)))]),
 Ls (.store false Sx6 (.t 0) (.t 1))] [0]
 (.ret))
def Z45:Fn:=
 { nparams:=0,nblk:=1,results:=[.cell 0 Sx6],body:=Z45_B }
def Z3v_L0:Cd:=
 .seq (Irg [Lw 16 7,
 Ll 17 (.bin .mul (Acx 2) (.t 16)),
 Lw 18 5,
 Ibn 19 .leq 17 18] [0,3,5,6,7,19]
 (Icd 19
 (.skip)
 (.exit 0)))
 (.seq (.block 1 (Irg [Lw 22 0,
 Ipx 23 6,
 Lw 24 0,
 Ipx 25 3,
 Ll 26 (Ofx F43 [(.t 22),(.t 23),(.t 24),(.t 25)]),
 Ls (.store false Sx6 (.t 6) (.t 26))] [0,3,5,6,7]
 (Irg [Lw 27 0,
 Ipx 28 3,
 Lw 29 0,
 Ipx 30 6,
 Ll 31 (Ofx F45 []),
 Ll 32 (Ofx F3k [(.t 29),(.t 30),(.t 31),(Acx (-1))]),
 Ll 33 (Ofx F3s [(.t 27),(.t 28),(.t 32)]),
 Ll 34 (Ofx F3m [(.t 33)]),
 Ibc 35 .neq 34 0] [0,3,5,6,7,35]
 (Icd 35
 (Irg [Ll 4 (.mv (.c (.bool false)))] [4]
 (.ret))
 (.skip)))))
 (.region [Lw 20 7,
 Ibc 21 .add 20 1,
 Lw 7 21] [0,3,5,6,7]))
def Z3v_B:Cd:=
 Irg [Ibx 3 0 1,
 Ll 4 (.mv (.c (.bool false)))] [0,3]
 (Irg [Ipx 8 3,
 Ll 9 (Ofx F3m [(.t 8)]),
 Lw 10 0,
 Ll 11 (Ofx F45 []),
 Ipx 12 3,
 Ll 13 (Ofx F3x [(.t 10),(.t 11),(.t 12)]),
 Ibz 6 1,
 Lw 5 9,
 Ls (.store false Sx6 (.t 6) (.t 13))] [0,3,5,6]
 (.seq (Irg [Lw 14 5,
 Ibc 15 .lss 14 1] [0,3,5,6,15]
 (Icd 15
 (Irg [Ll 4 (.mv (.c (.bool false)))] [4]
 (.ret))
 (.skip)))
 (.seq (Irg [Imc 7 1] [0,3,5,6,7]
 (.block 0 (.loop (Z3v_L0))))
 (Irg [Ll 4 (.mv (.c (.bool true)))] [4]
 (.ret)))))
def Z3v:Fn:=
 { nparams:=2,nblk:=2,results:=[.tmp 4],body:=Z3v_B }
def Z3r_L0:Cd:=
 .seq (Irg [Lw 12 4,
 Lw 13 0,
 Ien 14 13,
 Ibn 15 .lss 12 14,
 Lw 16 15,
 Lx 17 4 16 true,
 Lg 18 (.bin .lss (.t 17) (Acx 4096)) 16 true,
 Ian 19 16 18] [0,3,4,19]
 (Icd 19
 (.skip)
 (.exit 0)))
 (.seq (.block 1 (.region [Lw 22 3,
 Lw 23 3,
 Ll 24 (.chk (.t 23)),
 Ll 25 (.fldA [.leaf,.leaf,.leaf] (.t 24) 2),
 Ilx 26 25,
 Ll 27 (.bin .mul (.t 26) (.c (.int .u64 1099511628211))),
 Lw 28 0,
 Lw 29 4,
 Iia 30 .leaf 28 29,
 Ilx 31 30,
 Icv 32 .u64 31,
 Ibn 33 .add 27 32,
 Ll 34 (.bin .add (.t 33) (.c (.int .u64 61))),
 Ll 35 (.chk (.t 22)),
 Ll 36 (.fldA [.leaf,.leaf,.leaf] (.t 35) 2),
 Ls (.store false .leaf (.t 36) (.t 34))] [0,3,4]))
 (.region [Lw 20 4,
 Ibc 21 .add 20 1,
 Lw 4 21] [0,3,4]))
def Z3r_B:Cd:=
 Irg [Ll 2 (.mv (.c .nilp))] [0]
 (Irg [Lw 5 0,
 Lw 6 0,
 Ien 7 6,
 Icv 8 .u64 7,
 Ll 9 (.bin .add (.c (.int .u64 12251)) (.t 8)),
 Ll 10 (.build true (.st [.leaf,.leaf,.leaf] [(.sl .leaf []),(.int .i64 0),(.int .u64 0)]) [(0,(.t 5)),(2,(.t 9))]),
 Ibx 11 0 10,
 Lw 3 11] [0,3]
 (.seq (Irg [Imc 4 0] [0,3,4]
 (.block 0 (.loop (Z3r_L0))))
 (Irg [Lw 37 3,
 Lw 2 37] [2]
 (.ret))))
def Z3r:Fn:=
 { nparams:=1,nblk:=1,results:=[.tmp 2],body:=Z3r_B }
def Z40_B:Cd:=
 Irg [Imc 4 0] [0,1]
 (.seq (Irg [Lw 6 1,
 Ibc 7 .lss 6 1] [0,1,7]
 (Icd 7
 (Irg [Imc 4 0] [4]
 (.ret))
 (.skip)))
 (Irg [Lw 8 0,
 Lw 9 0,
 Ll 10 (.chk (.t 9)),
 Ll 11 (.fldA [.leaf,.leaf,.leaf] (.t 10) 2),
 Ilx 12 11,
 Ll 13 (.bin .mul (.t 12) (.c (.int .u64 6364136223846793005))),
 Ll 14 (.bin .add (.t 13) (.c (.int .u64 1442695040888963407))),
 Ll 15 (.chk (.t 8)),
 Ll 16 (.fldA [.leaf,.leaf,.leaf] (.t 15) 2),
 Ls (.store false .leaf (.t 16) (.t 14))] [0,1]
 (Irg [Lw 17 0,
 Ll 18 (.chk (.t 17)),
 Ll 19 (.fldA [.leaf,.leaf,.leaf] (.t 18) 2),
 Ilx 20 19,
 Ll 21 (.bin .shr (.t 20) (.c (.int .u64 33))),
 Ll 22 (.bin .and (.t 21) (.c (.int .u64 16777215))),
 Icv 23 .i64 22,
 Lw 5 23] [0,1,5]
 (.seq (Irg [Lw 24 0,
 Ll 25 (.chk (.t 24)),
 Ll 26 (.fldA [.leaf,.leaf,.leaf] (.t 25) 1),
 Ilx 27 26,
 Lw 28 0,
 Ll 29 (.chk (.t 28)),
 Ll 30 (.fldA [.leaf,.leaf,.leaf] (.t 29) 0),
 Ilx 31 30,
 Ien 32 31,
 Ibn 33 .lss 27 32] [0,1,5,33]
 (Icd 33
 (Irg [Lw 34 5,
 Lw 35 0,
 Ll 36 (.chk (.t 35)),
 Ll 37 (.fldA [.leaf,.leaf,.leaf] (.t 36) 0),
 Ilx 38 37,
 Lw 39 0,
 Ll 40 (.chk (.t 39)),
 Ll 41 (.fldA [.leaf,.leaf,.leaf] (.t 40) 1),
 Ilx 42 41,
 Iia 43 .leaf 38 42,
 Ilx 44 43,
 Icv 45 .i64 44,
 Ibn 46 .add 34 45,
 Lw 5 46] [0,1,5]
 (.region [Lw 47 0,
 Lw 48 0,
 Ll 49 (.chk (.t 48)),
 Ll 50 (.fldA [.leaf,.leaf,.leaf] (.t 49) 1),
 Ilx 51 50,
 Ibc 52 .add 51 1,
 Ll 53 (.chk (.t 47)),
 Ll 54 (.fldA [.leaf,.leaf,.leaf] (.t 53) 1),
 Ls (.store false .leaf (.t 54) (.t 52))] [1,5]))
 (.skip)))
 (Irg [Lw 55 5,
 Lw 56 1,
 Ibn 57 .rem 55 56,
 Lw 4 57] [4]
 (.ret))))))
def Z40:Fn:=
 { nparams:=2,nblk:=0,results:=[.tmp 4],body:=Z40_B }
def Z3p_L0:Cd:=
 .seq (Irg [Lw 21 10,
 Lw 22 9,
 Ibn 23 .lss 21 22] [0,1,2,6,7,8,9,10,23]
 (Icd 23
 (.skip)
 (.exit 2)))
 (.seq (.block 3 (.region [Lw 26 10,
 Lw 27 0,
 Lw 28 1,
 Ll 29 (.call .heap [] (.f F40) [(.t 27),(.t 28)]),
 Icv 30 .u8 29,
 Iis 31 64 .leaf 7 26,
 Ls (.store false .leaf (.t 31) (.t 30))] [0,1,2,6,7,8,9,10]))
 (.region [Lw 24 10,
 Ibc 25 .add 24 1,
 Lw 10 25] [0,1,2,6,7,8,9,10]))
def Z3p_L1:Cd:=
 .seq (Irg [Lw 12 8,
 Ibc 13 .lss 12 4] [0,1,2,6,7,8,13]
 (Icd 13
 (.skip)
 (.exit 0)))
 (.seq (.block 1 (Irg [Lw 16 0,
 Lw 17 2,
 Ll 18 (.call .heap [] (.f F40) [(.t 16),(.t 17)]),
 Ll 19 (.bin .add (Acx 1) (.t 18)),
 Lw 9 19] [0,1,2,6,7,8,9]
 (Irg [Iz6 20,
 Ls (.store false Sx6 (.t 7) (.t 20))] [0,1,2,6,7,8,9]
 (.seq (Irg [Imc 10 0] [0,1,2,6,7,8,9,10]
 (.block 2 (.loop (Z3p_L0))))
 (Irg [Lw 32 9,
 Iis 33 64 .leaf 7 32,
 Ls (.store false .leaf (.t 33) (.c (.int .u8 1)))] [0,1,2,6,7,8]
 (Irg [Lw 34 0,
 Ll 35 (.call .heap [] (.f F40) [(.t 34),(Acx 3)]),
 Ibc 36 .eql 35 0,
 Lw 37 36,
 Lx 38 1 37 false,
 Lg 39 (.load Sx6 (.t 7)) 37 false,
 Lg 40 (Ofx F3v [(.t 38),(.t 39)]) 37 false,
 Ior 41 37 40] [0,1,2,6,7,8,41]
 (Icd 41
 (Irg [Ipx 42 7,
 Ls (.store false Sx6 (.t 6) (.t 42))] [6]
 (.ret))
 (.skip))))))))
 (.region [Lw 14 8,
 Ibc 15 .add 14 1,
 Lw 8 15] [0,1,2,6,7,8]))
def Z3p_B:Cd:=
 Irg [Ibz 6 0] [0,1,2,6]
 (Irg [Ll 11 (Ofx F45 []),
 Ibz 7 1,
 Ls (.store false Sx6 (.t 7) (.t 11))] [0,1,2,6,7]
 (.seq (Irg [Imc 8 0] [0,1,2,6,7,8]
 (.block 0 (.loop (Z3p_L1))))
 (Irg [Ipx 43 7,
 Ls (.store false Sx6 (.t 6) (.t 43))] [6]
 (.ret))))
def Z3p:Fn:=
 { nparams:=3,nblk:=2,results:=[.cell 6 Sx6],body:=Z3p_B }
def ir_spec_l01Draw_L0:Cd:=
 .seq (Irg [Lw 15 8,
 Ibc 16 .geq 15 0] [0,1,6,7,8,16]
 (Icd 16
 (.skip)
 (.exit 0)))
 (.seq (.block 1 (Irg [Lw 19 0,
 Ll 20 (.call .heap [] (.f F40) [(.t 19),(Acx 3)]),
 Ibc 21 .gtr 20 0] [0,1,6,7,8,21]
 (Icd 21
 (.region [Lw 22 8,
 Lw 23 0,
 Lw 24 1,
 Ll 25 (.call .heap [] (.f F40) [(.t 23),(.t 24)]),
 Icv 26 .u8 25,
 Iis 27 64 .leaf 7 22,
 Ls (.store false .leaf (.t 27) (.t 26))] [0,1,6,7,8])
 (.skip))))
 (.region [Lw 17 8,
 Ibc 18 .sub 17 1,
 Lw 8 18] [0,1,6,7,8]))
def ir_spec_l01Draw_B:Cd:=
 Irg [Ibz 6 0] [0,1,2,6]
 (Irg [Iz6 9,
 Ibz 7 1,
 Ls (.store false Sx6 (.t 7) (.t 9))] [0,1,2,6,7]
 (.seq (Irg [Lw 10 0,
 Lw 11 2,
 Ibc 12 .add 11 2,
 Ll 13 (.call .heap [] (.f F40) [(.t 10),(.t 12)]),
 Ibc 14 .sub 13 1,
 Lw 8 14] [0,1,6,7,8]
 (.block 0 (.loop (ir_spec_l01Draw_L0))))
 (Irg [Ipx 28 7,
 Ls (.store false Sx6 (.t 6) (.t 28))] [6]
 (.ret))))
def Z3o:Fn:=
 { nparams:=3,nblk:=2,results:=[.cell 6 Sx6],body:=ir_spec_l01Draw_B }
def Z42_B:Cd:=
 Irg [Imc 4 0] [0,1]
 (Irg [Lw 5 1,
 Lw 6 0,
 Lw 7 1,
 Ien 8 7,
 Ll 9 (.call .heap [] (.f F40) [(.t 6),(.t 8)]),
 Iia 10 .leaf 5 9,
 Ilx 11 10,
 Lw 4 11] [4]
 (.ret))
def Z42:Fn:=
 { nparams:=2,nblk:=0,results:=[.tmp 4],body:=Z42_B }
def Z3q_B:Cd:=
 Irg [Imc 2 0] [0]
 (Irg [Lw 3 0,
 Ll 4 (.buildSl false 0 .leaf (.int .i64 0) 6 [(0,(Acx 2)),(1,(Acx 2)),(2,(Acx 3)),(3,(Acx 3)),(4,(Acx 5)),(5,(Acx 7))]),
 Ll 5 (.call .heap [] (.f F42) [(.t 3),(.t 4)]),
 Lw 2 5] [2]
 (.ret))
def Z3q:Fn:=
 { nparams:=1,nblk:=1,results:=[.tmp 2],body:=Z3q_B }
end Pe

/-
 Functions of the program in the small form,printed by a program.
-/
namespace Pe
open Go
def Z4b_B:Cd:=
 Irg [Ibx 3 0 1,
 Ll 4 (.mv (.c (.bool false)))] [0,3]
 (Irg [Lw 5 0,
 Ipx 6 3,
 Ll 7 (Ofx F3w [(.t 5),(.t 6)]),
 Lw 8 7,
 Lg 9 (.load Sx6 (.t 3)) 8 true,
 Lg 10 (Ofx F3y [(.t 9)]) 8 true,
 Ian 11 8 10,
 Lw 12 11,
 Lg 13 (.load Sx6 (.t 3)) 12 true,
 Lg 14 (Ofx F3m [(.t 13)]) 12 true,
 Lg 15 (Ofx F3t [(.t 14),(Acx 1),(Acx 4)]) 12 true,
 Ian 16 12 15,
 Lw 17 16,
 Lx 18 0 17 true,
 Lg 19 (.load Sx6 (.t 3)) 17 true,
 Lg 20 (Ofx F3v [(.t 18),(.t 19)]) 17 true,
 Ian 21 17 20,
 Lw 4 21] [4]
 (.ret))
def Z4b:Fn:=
 { nparams:=2,nblk:=1,results:=[.tmp 4],body:=Z4b_B }
def Z4i_B:Cd:=
 Irg [Ibx 4 0 1,
 Ibx 5 1 2,
 Ll 6 (.mv (.c (.bool false)))] [0,4,5]
 (Irg [Lw 7 0,
 Ipx 8 5,
 Ll 9 (Ofx F3w [(.t 7),(.t 8)]),
 Lw 10 9,
 Lg 11 (.load Sx6 (.t 5)) 10 true,
 Lg 12 (Ofx F3m [(.t 11)]) 10 true,
 Lg 13 (.load Sx6 (.t 4)) 10 true,
 Lg 14 (Ofx F3m [(.t 13)]) 10 true,
 Lg 15 (.bin .lss (.t 12) (.t 14)) 10 true,
 Ian 16 10 15,
 Lw 6 16] [6]
 (.ret))
def Z4i:Fn:=
 { nparams:=3,nblk:=2,results:=[.tmp 6],body:=Z4i_B }
def Z4c_L0:Cd:=
 .seq (Irg [Lw 14 9,
 Ibc 15 .gtr 14 0] [0,5,7,8,9,15]
 (Icd 15
 (.skip)
 (.exit 0)))
 (.seq (.block 1 (.region [Lw 18 0,
 Ipx 19 5,
 Lw 20 0,
 Ipx 21 7,
 Ll 22 (Ofx F43 [(.t 18),(.t 19),(.t 20),(.t 21)]),
 Ls (.store false Sx6 (.t 5) (.t 22))] [0,5,7,8,9]))
 (.region [Lw 16 9,
 Ibc 17 .sub 16 1,
 Lw 9 17] [0,5,7,8,9]))
def Z4c_B:Cd:=
 Irg [Ibx 5 0 1,
 Ibx 7 1 3,
 Ibz 8 2] [0,2,5,7,8]
 (.seq (Irg [Lw 10 2,
 Ipx 11 7,
 Ll 12 (Ofx F3m [(.t 11)]),
 Ibn 13 .rem 10 12,
 Lw 9 13] [0,5,7,8,9]
 (.block 0 (.loop (Z4c_L0))))
 (Irg [Ipx 23 5,
 Ls (.store false Sx6 (.t 8) (.t 23))] [8]
 (.ret)))
def Z4c:Fn:=
 { nparams:=4,nblk:=3,results:=[.cell 8 Sx6],body:=Z4c_B }
def Z4l_L0:Cd:=
 .seq (Irg [Lw 12 10,
 Ibc 13 .lss 12 8] [0,5,6,7,8,9,10,13]
 (Icd 13
 (.skip)
 (.exit 0)))
 (.seq (.block 1 (Irg [Lw 16 10,
 Iis 17 8 Sx6 6 16,
 Ipx 18 17,
 Iz6 19,
 Ll 20 (.eqv true (.arr 64 .leaf .int) (.t 18) (.t 19))] [0,5,6,7,8,9,10,20]
 (Icd 20
 (.region [Lw 21 0,
 Ipx 22 9,
 Lw 23 0,
 Lw 24 10,
 Iis 25 8 Sx6 6 24,
 Ipx 26 25,
 Lw 27 0,
 Ipx 28 7,
 Lw 29 10,
 Ipx 30 5,
 Ll 31 (Ofx F4c [(.t 27),(.t 28),(.t 29),(.t 30)]),
 Ipx 32 5,
 Ll 33 (Ofx F3z [(.t 23),(.t 26),(.t 31),(.t 32)]),
 Ll 34 (Ofx F3k [(.t 21),(.t 22),(.t 33),(Acx 1)]),
 Ls (.store false Sx6 (.t 9) (.t 34))] [0,5,6,7,8,9,10])
 (.skip))))
 (.region [Lw 14 10,
 Ibc 15 .add 14 1,
 Lw 10 15] [0,5,6,7,8,9,10]))
def Z4l_B:Cd:=
 Irg [Ibx 5 0 1,
 Ibx 6 1 2,
 Ibx 7 2 3,
 Ibz 8 3] [0,5,6,7,8]
 (Irg [Iz6 11,
 Ibz 9 4,
 Ls (.store false Sx6 (.t 9) (.t 11))] [0,5,6,7,8,9]
 (.seq (Irg [Imc 10 0] [0,5,6,7,8,9,10]
 (.block 0 (.loop (Z4l_L0))))
 (Irg [Ipx 35 9,
 Ls (.store false Sx6 (.t 8) (.t 35))] [8]
 (.ret))))
def Z4l:Fn:=
 { nparams:=4,nblk:=5,results:=[.cell 8 Sx6],body:=Z4l_B }
def Z4j_L0:Cd:=
 .seq (Irg [Lw 12 7,
 Lw 13 2,
 Ien 14 13,
 Ibn 15 .lss 12 14] [0,2,4,7,15]
 (Icd 15
 (.skip)
 (.exit 0)))
 (.seq (.block 1 (Irg [Lw 18 0,
 Ipx 19 4,
 Lw 20 2,
 Lw 21 7,
 Iia 22 Sx6 20 21,
 Ipx 23 22,
 Ll 24 (Ofx F4i [(.t 18),(.t 19),(.t 23)]),
 Ll 25 (.un .not (.t 24))] [0,2,4,7,25]
 (Icd 25
 (Irg [Imc 6 1] [6]
 (.ret))
 (.skip))))
 (.region [Lw 16 7,
 Ibc 17 .add 16 1,
 Lw 7 17] [0,2,4,7]))
def Z4j_B:Cd:=
 Irg [Ibx 4 0 1,
 Imc 6 0] [0,2,4]
 (.seq (Irg [Lw 8 0,
 Ipx 9 4,
 Ll 10 (Ofx F4b [(.t 8),(.t 9)]),
 Ll 11 (.un .not (.t 10))] [0,2,4,11]
 (Icd 11
 (Irg [Imc 6 1] [6]
 (.ret))
 (.skip)))
 (.seq (Irg [Imc 7 0] [0,2,4,7]
 (.block 0 (.loop (Z4j_L0))))
 (Irg [Imc 6 0] [6]
 (.ret))))
def Z4j:Fn:=
 { nparams:=3,nblk:=1,results:=[.tmp 6],body:=Z4j_B }
def Z4h_L0:Cd:=
 .seq (Irg [Lw 13 7,
 Lw 14 1,
 Ien 15 14,
 Ibn 16 .lss 13 15] [0,1,5,7,16]
 (Icd 16
 (.skip)
 (.exit 0)))
 (.seq (.block 1 (Irg [Lw 19 1,
 Lw 20 7,
 Iia 21 Sx6 19 20,
 Ipx 22 21,
 Ll 23 (Ofx F3m [(.t 22)]),
 Lw 8 23] [0,1,5,7,8]
 (Irg [Lw 24 8,
 Iis 25 64 .leaf 5 24,
 Ilx 26 25,
 Ll 27 (.bin .neq (.t 26) (.c (.int .u8 0)))] [0,1,5,7,8,27]
 (Icd 27
 (.region [Lw 28 0,
 Ipx 29 5,
 Lw 30 1,
 Lw 31 7,
 Iia 32 Sx6 30 31,
 Ipx 33 32,
 Lw 34 8,
 Iis 35 64 .leaf 5 34,
 Ilx 36 35,
 Icv 37 .i64 36,
 Ll 38 (.un .neg (.t 37)),
 Ll 39 (Ofx F3k [(.t 28),(.t 29),(.t 33),(.t 38)]),
 Ls (.store false Sx6 (.t 5) (.t 39))] [0,1,5,7])
 (.skip)))))
 (.region [Lw 17 7,
 Ibc 18 .add 17 1,
 Lw 7 18] [0,1,5,7]))
def Z4h_L1:Cd:=
 .seq (Irg [Lw 56 12,
 Lw 57 1,
 Ien 58 57,
 Ibn 59 .lss 56 58] [0,1,5,9,10,11,12,59]
 (Icd 59
 (.skip)
 (.exit 2)))
 (.seq (.block 3 (.seq (Irg [Lw 62 11,
 Ll 63 (.un .not (.t 62)),
 Lw 64 63,
 Lx 65 1 64 true,
 Lx 66 12 64 true,
 Lg 67 (.idxA none Sx6 (.t 65) (.t 66)) 64 true,
 Lg 68 (.load Sx6 (.t 67)) 64 true,
 Lg 69 (Ofx F3m [(.t 68)]) 64 true,
 Lx 70 9 64 true,
 Lg 71 (.bin .lss (.t 69) (.t 70)) 64 true,
 Ian 72 64 71] [0,1,5,9,10,11,12,72]
 (Icd 72
 (Irg [Lw 73 10,
 Ipx 74 5,
 Ll 75 (.buildSl false 2 Sx6 (.arr 64 .leaf z64) 1 [(0,(.t 74))]),
 Ll 76 (.append Sx6 3 64 (.t 73) (.t 75)),
 Lw 10 76] [0,1,5,9,10,12]
 (.region [Ll 11 (.mv (.c (.bool true)))] [0,1,5,9,10,11,12]))
 (.skip)))
 (.region [Lw 77 10,
 Lw 78 0,
 Lw 79 1,
 Lw 80 12,
 Iia 81 Sx6 79 80,
 Ipx 82 81,
 Ipx 83 5,
 Lw 84 1,
 Lw 85 12,
 Lw 86 9,
 Iia 87 Sx6 84 85,
 Iis 88 64 .leaf 87 86,
 Ilx 89 88,
 Icv 90 .i64 89,
 Ll 91 (.un .neg (.t 90)),
 Ll 92 (Ofx F3k [(.t 78),(.t 82),(.t 83),(.t 91)]),
 Ll 93 (.buildSl false 4 Sx6 (.arr 64 .leaf z64) 1 [(0,(.t 92))]),
 Ll 94 (.append Sx6 5 64 (.t 77) (.t 93)),
 Lw 10 94] [0,1,5,9,10,11,12])))
 (.region [Lw 60 12,
 Ibc 61 .add 60 1,
 Lw 12 61] [0,1,5,9,10,11,12]))
def Z4h_B:Cd:=
 Irg [Ibx 5 0 2,
 Ll 6 (.mv (.c (.sl Sx6 [])))] [0,1,5]
 (.seq (Irg [Imc 7 0] [0,1,5,7]
 (.block 0 (.loop (Z4h_L0))))
 (Irg [Ipx 40 5,
 Ll 41 (Ofx F3m [(.t 40)]),
 Lw 9 41] [0,1,5,9]
 (.seq (Irg [Lw 42 9,
 Ibc 43 .lss 42 0] [0,1,5,9,43]
 (Icd 43
 (Irg [Lw 44 1,
 Lw 6 44] [6]
 (.ret))
 (.skip)))
 (Irg [Lw 45 0,
 Iz6 46,
 Ipx 47 5,
 Lw 48 0,
 Lw 49 9,
 Iis 50 64 .leaf 5 49,
 Ilx 51 50,
 Ll 52 (Ofx F3u [(.t 48),(.t 51)]),
 Icv 53 .i64 52,
 Ll 54 (Ofx F3k [(.t 45),(.t 46),(.t 47),(.t 53)]),
 Ls (.store false Sx6 (.t 5) (.t 54))] [0,1,5,9]
 (Irg [Ll 55 (.buildSl false 1 Sx6 (.arr 64 .leaf z64) 0 []),
 Lw 10 55,
 Ll 11 (.mv (.c (.bool false)))] [0,1,5,9,10,11]
 (.seq (Irg [Imc 12 0] [0,1,5,9,10,11,12]
 (.block 2 (.loop (Z4h_L1))))
 (.seq (Irg [Lw 95 11,
 Ll 96 (.un .not (.t 95))] [5,10,96]
 (Icd 96
 (.region [Lw 97 10,
 Ipx 98 5,
 Ll 99 (.buildSl false 6 Sx6 (.arr 64 .leaf z64) 1 [(0,(.t 98))]),
 Ll 100 (.append Sx6 7 64 (.t 97) (.t 99)),
 Lw 10 100] [10])
 (.skip)))
 (Irg [Lw 101 10,
 Lw 6 101] [6]
 (.ret)))))))))
def Z4h:Fn:=
 { nparams:=3,nblk:=8,results:=[.tmp 6],body:=Z4h_B }
def Z48_L0:Cd:=
 .seq (Irg [Lw 4 3,
 Ibc 5 .geq 4 0,
 Lw 6 5,
 Lx 7 3 6 true,
 Lg 8 (.idxA (some 8) Sx6 (.t 1) (.t 7)) 6 true,
 Lg 9 (.load Sx6 (.t 8)) 6 true,
 Lg 10 (.build false (.arr 64 .leaf z64) []) 6 true,
 Lg 11 (.eqv false (.arr 64 .leaf .int) (.t 9) (.t 10)) 6 true,
 Ian 12 6 11] [1,3,12]
 (Icd 12
 (.skip)
 (.exit 0)))
 (.block 1 (.region [Lw 13 3,
 Ibc 14 .sub 13 1,
 Lw 3 14] [1,3]))
def Z48_B:Cd:=
 Irg [Ibx 1 0 0,
 Imc 2 0] [1]
 (Irg [Imc 3 7] [1,3]
 (.seq (.block 0 (.loop (Z48_L0)))
 (Irg [Lw 15 3,
 Lw 2 15] [2]
 (.ret))))
def Z48:Fn:=
 { nparams:=1,nblk:=1,results:=[.tmp 2],body:=Z48_B }
def Z4k_L0:Cd:=
 .seq (Irg [Lw 38 14,
 Lw 39 11,
 Ibn 40 .leq 38 39] [0,5,6,7,8,10,11,12,13,14,40]
 (Icd 40
 (.skip)
 (.exit 2)))
 (.seq (.block 3 (Irg [Lw 43 0,
 Lw 44 13,
 Iis 45 8 Sx6 6 44,
 Ipx 46 45,
 Lw 47 0,
 Lw 48 14,
 Iis 49 8 Sx6 7 48,
 Ipx 50 49,
 Lw 51 13,
 Ipx 52 5,
 Ll 53 (Ofx F4c [(.t 47),(.t 50),(.t 51),(.t 52)]),
 Ipx 54 5,
 Ll 55 (Ofx F3z [(.t 43),(.t 46),(.t 53),(.t 54)]),
 Ibz 15 5,
 Ls (.store false Sx6 (.t 15) (.t 55))] [0,5,6,7,8,10,11,12,13,14,15]
 (.region [Lw 56 13,
 Lw 57 14,
 Ibn 58 .add 56 57,
 Lw 59 0,
 Lw 60 13,
 Lw 61 14,
 Ibn 62 .add 60 61,
 Iis 63 8 Sx6 12 62,
 Ipx 64 63,
 Ipx 65 15,
 Ll 66 (Ofx F3k [(.t 59),(.t 64),(.t 65),(Acx 1)]),
 Iis 67 8 Sx6 12 58,
 Ls (.store false Sx6 (.t 67) (.t 66))] [0,5,6,7,8,10,11,12,13,14])))
 (.region [Lw 41 14,
 Ibc 42 .add 41 1,
 Lw 14 42] [0,5,6,7,8,10,11,12,13,14]))
def Z4k_L1:Cd:=
 .seq (Irg [Lw 33 13,
 Lw 34 10,
 Ibn 35 .leq 33 34] [0,5,6,7,8,10,11,12,13,35]
 (Icd 35
 (.skip)
 (.exit 0)))
 (.seq (.block 1 (Irg [Imc 14 0] [0,5,6,7,8,10,11,12,13,14]
 (.block 2 (.loop (Z4k_L0)))))
 (.region [Lw 36 13,
 Ibc 37 .add 36 1,
 Lw 13 37] [0,5,6,7,8,10,11,12,13]))
def Z4k_B:Cd:=
 Irg [Ibx 5 0 1,
 Ibx 6 1 2,
 Ibx 7 2 3,
 Ll 8 (.box false 3 (.c (.arr 8 Sx6 z8))),
 Ll 9 (.mv (.c (.bool false)))] [0,5,6,7,8]
 (Irg [Isx 16 6,
 Ll 17 (Ofx F48 [(.t 16)]),
 Isx 18 7,
 Ll 19 (Ofx F48 [(.t 18)]),
 Ll 20 (.build false (.arr 8 Sx6 z8) []),
 Ll 12 (.box false 4 (.c (.arr 8 Sx6 z8))),
 Lw 10 17,
 Lw 11 19,
 Ls (.store false Sx8 (.t 12) (.t 20))] [0,5,6,7,8,10,11,12]
 (.seq (Irg [Lw 21 10,
 Ibc 22 .lss 21 0,
 Lw 23 22,
 Lx 24 11 23 false,
 Lg 25 (.bin .lss (.t 24) (Acx 0)) 23 false,
 Ior 26 23 25] [0,5,6,7,8,10,11,12,26]
 (Icd 26
 (Irg [Isx 27 12,
 Ls (.store false Sx8 (.t 8) (.t 27)),
 Ll 9 (.mv (.c (.bool true)))] [8,9]
 (.ret))
 (.skip)))
 (.seq (Irg [Lw 28 10,
 Lw 29 11,
 Ibn 30 .add 28 29,
 Ibc 31 .gtr 30 7] [0,5,6,7,8,10,11,12,31]
 (Icd 31
 (Irg [Isx 32 12,
 Ls (.store false Sx8 (.t 8) (.t 32)),
 Ll 9 (.mv (.c (.bool false)))] [8,9]
 (.ret))
 (.skip)))
 (.seq (Irg [Imc 13 0] [0,5,6,7,8,10,11,12,13]
 (.block 0 (.loop (Z4k_L1))))
 (Irg [Isx 68 12,
 Ls (.store false Sx8 (.t 8) (.t 68)),
 Ll 9 (.mv (.c (.bool true)))] [8,9]
 (.ret))))))
def Z4k:Fn:=
 { nparams:=4,nblk:=6,results:=[.cell 8 Sx8,.tmp 9],body:=Z4k_B }
def Z4g_B:Cd:=
 Irg [Ll 0 (.box false 0 (.c (.arr 8 Sx6 z8)))] [0]
 (Irg [Ll 1 (Ofx F41 []),
 Ll 2 (.build false (.arr 8 Sx6 z8) [(0,(.t 1))]),
 Ls (.store false Sx8 (.t 0) (.t 2))] [0]
 (.ret))
def Z4g:Fn:=
 { nparams:=0,nblk:=1,results:=[.cell 0 Sx8],body:=Z4g_B }
def Z4d_B:Cd:=
 Irg [Ibx 4 0 1,
 Ibx 5 1 2,
 Ibz 6 2] [0,4,5,6]
 (Irg [Lw 11 0,
 Ipx 12 4,
 Ipx 13 5,
 Ll 14 (Ofx F3l [(.t 11),(.t 12),(.t 13)]),
 Lw 10 14,
 Iex 15 10 0,
 Iex 16 10 1,
 Iex 17 10 2,
 Ibz 7 3,
 Ibz 8 4,
 Ibz 9 5,
 Ls (.store false Sx6 (.t 7) (.t 15)),
 Ls (.store false Sx6 (.t 8) (.t 16)),
 Ls (.store false Sx6 (.t 9) (.t 17))] [0,5,6,8]
 (Irg [Lw 18 0,
 Ipx 19 8,
 Ipx 20 5,
 Ll 21 (Ofx F3x [(.t 18),(.t 19),(.t 20)]),
 Ls (.store false Sx6 (.t 6) (.t 21))] [6]
 (.ret)))
def Z4d:Fn:=
 { nparams:=3,nblk:=6,results:=[.cell 6 Sx6],body:=Z4d_B }
def Z4e_L0:Cd:=
 .seq (Irg [Lw 14 8,
 Lw 15 2,
 Ien 16 15,
 Ibn 17 .lss 14 16] [0,2,4,6,7,8,17]
 (Icd 17
 (.skip)
 (.exit 0)))
 (.seq (.block 1 (Irg [Lw 20 0,
 Ipx 21 4,
 Isx 22 7,
 Lw 23 2,
 Lw 24 8,
 Iia 25 Sx6 23 24,
 Ipx 26 25,
 Ll 27 (Ofx F4l [(.t 20),(.t 21),(.t 22),(.t 26)]),
 Ibz 9 3,
 Ls (.store false Sx6 (.t 9) (.t 27))] [0,2,4,6,7,8,9]
 (.seq (Irg [Ipx 28 9,
 Ll 29 (Ofx F3m [(.t 28)]),
 Ibc 30 .lss 29 0] [0,2,4,6,7,8,9,30]
 (Icd 30
 (.exit 1)
 (.skip)))
 (Irg [Lw 31 0,
 Iz6 32,
 Lw 33 0,
 Ipx 34 9,
 Lw 35 0,
 Ibc 36 .sub 35 1,
 Ipx 37 4,
 Ll 38 (Ofx F43 [(.t 33),(.t 34),(.t 36),(.t 37)]),
 Ll 39 (Ofx F3k [(.t 31),(.t 32),(.t 38),(Acx (-1))]),
 Ll 40 (Ofx F41 []),
 Ll 41 (.build false (.arr 8 Sx6 z8) [(0,(.t 39)),(1,(.t 40))]),
 Ll 10 (.box false 4 (.c (.arr 8 Sx6 z8))),
 Ls (.store false Sx8 (.t 10) (.t 41))] [0,2,4,6,7,8,10]
 (Irg [Lw 43 0,
 Ipx 44 4,
 Isx 45 10,
 Isx 46 7,
 Ll 47 (Ofx F4k [(.t 43),(.t 44),(.t 45),(.t 46)]),
 Lw 42 47,
 Iex 48 42 0,
 Iex 49 42 1,
 Ll 11 (.box false 5 (.c (.arr 8 Sx6 z8))),
 Ls (.store false Sx8 (.t 11) (.t 48)),
 Lw 12 49] [0,2,4,6,7,8,11]
 (.region [Isx 50 11,
 Ls (.store false Sx8 (.t 7) (.t 50))] [0,2,4,6,7,8]))))))
 (.region [Lw 18 8,
 Ibc 19 .add 18 1,
 Lw 8 19] [0,2,4,6,7,8]))
def Z4e_B:Cd:=
 Irg [Ibx 4 0 1,
 Ll 6 (.box false 1 (.c (.arr 8 Sx6 z8)))] [0,2,4,6]
 (Irg [Ll 13 (Ofx F4g []),
 Ll 7 (.box false 2 (.c (.arr 8 Sx6 z8))),
 Ls (.store false Sx8 (.t 7) (.t 13))] [0,2,4,6,7]
 (.seq (Irg [Imc 8 0] [0,2,4,6,7,8]
 (.block 0 (.loop (Z4e_L0))))
 (Irg [Isx 51 7,
 Ls (.store false Sx8 (.t 6) (.t 51))] [6]
 (.ret))))
def Z4e:Fn:=
 { nparams:=3,nblk:=6,results:=[.cell 6 Sx8],body:=Z4e_B }
def Z49_L0:Cd:=
 .seq (Irg [Lw 9 5,
 Ibc 10 .lss 9 6] [0,3,4,5,10]
 (Icd 10
 (.skip)
 (.exit 0)))
 (.seq (.block 1 (Irg [Lw 13 0,
 Lw 14 4,
 Ll 15 (.call .heap [] (.f F3p) [(.t 13),(.t 14),(Acx 4)]),
 Ibz 6 1,
 Ls (.store false Sx6 (.t 6) (.t 15))] [0,3,4,5,6]
 (Irg [Lw 16 4,
 Ipx 17 6,
 Ll 18 (Ofx F3v [(.t 16),(.t 17)])] [0,3,4,5,6,18]
 (Icd 18
 (.seq (Irg [Lw 19 0,
 Ll 20 (.call .heap [] (.f F40) [(.t 19),(Acx 40)]),
 Ibc 21 .eql 20 0] [0,3,4,6,21]
 (Icd 21
 (.region [Lw 22 0,
 Ll 23 (.call .heap [] (.f F40) [(.t 22),(Acx 5)]),
 Lw 24 0,
 Ll 25 (.call .heap [] (.f F40) [(.t 24),(Acx 8)]),
 Icv 26 .u8 25,
 Iis 27 64 .leaf 6 23,
 Ls (.store false .leaf (.t 27) (.t 26))] [3,4,6])
 (.skip)))
 (Irg [Lw 28 4,
 Ipx 29 6,
 Lw 2 28,
 Ls (.store false Sx6 (.t 3) (.t 29))] [2,3]
 (.ret)))
 (.skip)))))
 (.region [Lw 11 5,
 Ibc 12 .add 11 1,
 Lw 5 12] [0,3,4,5]))
def Z49_B:Cd:=
 Irg [Imc 2 0,
 Ibz 3 0] [0,3]
 (Irg [Lw 7 0,
 Ll 8 (.call .heap [] (.f F3q) [(.t 7)]),
 Lw 4 8] [0,3,4]
 (.seq (Irg [Imc 5 0] [0,3,4,5]
 (.block 0 (.loop (Z49_L0))))
 (Irg [Lw 30 4,
 Ll 31 (Ofx F45 []),
 Lw 2 30,
 Ls (.store false Sx6 (.t 3) (.t 31))] [2,3]
 (.ret))))
def Z49:Fn:=
 { nparams:=1,nblk:=2,results:=[.tmp 2,.cell 3 Sx6],body:=Z49_B }
def Z4a_B:Cd:=
 Irg [Ibx 5 0 2,
 Ibz 6 1] [0,1,5,6]
 (Irg [Lw 8 0,
 Lw 9 1,
 Ipx 10 5,
 Ll 11 (Ofx F3m [(.t 10)]),
 Ibc 12 .sub 11 1,
 Ll 13 (.maxI (.t 12) (Acx 0)),
 Ll 14 (.call .heap [] (.f F3o) [(.t 8),(.t 9),(.t 13)]),
 Ibz 7 2,
 Ls (.store false Sx6 (.t 7) (.t 14))] [0,6,7]
 (.seq (Irg [Lw 15 0,
 Ll 16 (.call .heap [] (.f F40) [(.t 15),(Acx 60)]),
 Ibc 17 .eql 16 0] [0,6,7,17]
 (Icd 17
 (.region [Lw 18 0,
 Ll 19 (.call .heap [] (.f F40) [(.t 18),(Acx 8)]),
 Lw 20 0,
 Ll 21 (.call .heap [] (.f F40) [(.t 20),(Acx 7)]),
 Icv 22 .u8 21,
 Iis 23 64 .leaf 7 19,
 Ls (.store false .leaf (.t 23) (.t 22))] [6,7])
 (.skip)))
 (Irg [Ipx 24 7,
 Ls (.store false Sx6 (.t 6) (.t 24))] [6]
 (.ret))))
def Z4a:Fn:=
 { nparams:=3,nblk:=3,results:=[.cell 6 Sx6],body:=Z4a_B }
def Z4f_L0:Cd:=
 .seq (Irg [Lw 12 8,
 Ibc 13 .gtr 12 0] [0,1,5,7,8,13]
 (Icd 13
 (.skip)
 (.exit 0)))
 (.seq (.block 1 (.region [Lw 16 7,
 Lw 17 0,
 Lw 18 1,
 Ipx 19 5,
 Ll 20 (.call .heap [] (.f F4a) [(.t 17),(.t 18),(.t 19)]),
 Ll 21 (.buildSl false 2 Sx6 (.arr 64 .leaf z64) 1 [(0,(.t 20))]),
 Ll 22 (.append Sx6 3 64 (.t 16) (.t 21)),
 Lw 7 22] [0,1,5,7,8]))
 (.region [Lw 14 8,
 Ibc 15 .sub 14 1,
 Lw 8 15] [0,1,5,7,8]))
def Z4f_B:Cd:=
 Irg [Ibx 5 0 2,
 Ll 6 (.mv (.c (.sl Sx6 [])))] [0,1,5]
 (Irg [Ll 9 (.buildSl false 1 Sx6 (.arr 64 .leaf z64) 0 []),
 Lw 7 9] [0,1,5,7]
 (.seq (Irg [Lw 10 0,
 Ll 11 (.call .heap [] (.f F40) [(.t 10),(Acx 5)]),
 Lw 8 11] [0,1,5,7,8]
 (.block 0 (.loop (Z4f_L0))))
 (Irg [Lw 23 7,
 Lw 6 23] [6]
 (.ret))))
def Z4f:Fn:=
 { nparams:=3,nblk:=4,results:=[.tmp 6],body:=Z4f_B }
end Pe

/-
 Functions of the program in the small form,printed by a program.
-/
namespace Pe
open Go
def Z4p_B:Cd:=
 Irg [Ibx 5 0 1,
 Imc 8 0] [0,2,3,5]
 (Irg [Lw 10 0,
 Ipx 11 5,
 Lw 12 2,
 Ll 13 (Ofx F4j [(.t 10),(.t 11),(.t 12)]),
 Lw 9 13] [2,3,9]
 (.seq (Irg [Lw 14 9,
 Ibc 15 .eql 14 0,
 Lw 16 15,
 Lx 17 2 16 true,
 Lg 18 (.len false (.t 17)) 16 true,
 Lx 19 3 16 true,
 Lg 20 (.bin .gtr (.t 18) (.t 19)) 16 true,
 Ian 21 16 20] [9,21]
 (Icd 21
 (Irg [Imc 8 2] [8]
 (.ret))
 (.skip)))
 (Irg [Lw 22 9,
 Lw 8 22] [8]
 (.ret))))
def Z4p:Fn:=
 { nparams:=4,nblk:=1,results:=[.tmp 8],body:=Z4p_B }
def Z4t_L0:Cd:=
 .seq (Irg [Lw 8 6,
 Lw 9 1,
 Ien 10 9,
 Ibn 11 .lss 8 10] [0,1,5,6,11]
 (Icd 11
 (.skip)
 (.exit 0)))
 (.seq (.block 1 (.region [Lw 14 0,
 Lw 15 5,
 Lw 16 1,
 Lw 17 6,
 Iia 18 Sx6 16 17,
 Ipx 19 18,
 Ll 20 (.call .data [] (.f F4h) [(.t 14),(.t 15),(.t 19)]),
 Lw 5 20] [0,1,5,6]))
 (.region [Lw 12 6,
 Ibc 13 .add 12 1,
 Lw 6 13] [0,1,5,6]))
def Z4t_B:Cd:=
 Irg [Ll 4 (.mv (.c (.sl Sx6 [])))] [0,1]
 (Irg [Ll 7 (.buildSl false 0 Sx6 (.arr 64 .leaf z64) 0 []),
 Lw 5 7] [0,1,5]
 (.seq (Irg [Imc 6 0] [0,1,5,6]
 (.block 0 (.loop (Z4t_L0))))
 (Irg [Lw 21 5,
 Lw 4 21] [4]
 (.ret))))
def Z4t:Fn:=
 { nparams:=2,nblk:=1,results:=[.tmp 4],body:=Z4t_B }
def Z3i_B:Cd:=
 Irg [Ibx 4 0 1,
 Imc 6 0,
 Imc 7 0] [0,2,4]
 (.seq (Irg [Lw 9 0,
 Ipx 10 4,
 Lw 11 2,
 Ll 12 (Ofx F4p [(.t 9),(.t 10),(.t 11),(Acx 4)]),
 Lw 8 12] [0,2,8]
 (Irg [Lw 13 8,
 Ibc 14 .neq 13 0] [0,2,8,14]
 (Icd 14
 (Irg [Lw 15 8,
 Imc 6 0,
 Lw 7 15] [6,7]
 (.ret))
 (.skip))))
 (Irg [Lw 16 0,
 Lw 17 2,
 Ll 18 (Opx F4t [(.t 16),(.t 17)]),
 Ien 19 18,
 Lw 6 19,
 Imc 7 0] [6,7]
 (.ret)))
def Z3i:Fn:=
 { nparams:=3,nblk:=1,results:=[.tmp 6,.tmp 7],body:=Z3i_B }
def Z3j_B:Cd:=
 Irg [Ibx 4 0 1,
 Ll 6 (.mv (.c (.sl Sx6 []))),
 Imc 7 0] [0,2,4]
 (.seq (Irg [Lw 9 0,
 Ipx 10 4,
 Lw 11 2,
 Ll 12 (Ofx F4j [(.t 9),(.t 10),(.t 11)]),
 Lw 8 12] [0,2,8]
 (Irg [Lw 13 8,
 Ibc 14 .neq 13 0] [0,2,8,14]
 (Icd 14
 (Irg [Lw 15 8,
 Ll 6 (.mv (.c (.sl Sx6 []))),
 Lw 7 15] [6,7]
 (.ret))
 (.skip))))
 (Irg [Lw 16 0,
 Lw 17 2,
 Ll 18 (Opx F4t [(.t 16),(.t 17)]),
 Lw 6 18,
 Imc 7 0] [6,7]
 (.ret)))
def Z3j:Fn:=
 { nparams:=3,nblk:=1,results:=[.tmp 6,.tmp 7],body:=Z3j_B }
def Z4n_L0:Cd:=
 .seq (Irg [Lw 10 8,
 Lw 11 1,
 Ien 12 11,
 Ibn 13 .lss 10 12] [0,1,2,7,8,13]
 (Icd 13
 (.skip)
 (.exit 0)))
 (.seq (.block 1 (.region [Lw 16 7,
 Lw 17 0,
 Lw 18 1,
 Lw 19 8,
 Iia 20 Sx6 18 19,
 Ipx 21 20,
 Lw 22 2,
 Lw 23 8,
 Iia 24 Sx6 22 23,
 Ipx 25 24,
 Ll 26 (Ofx F3k [(.t 17),(.t 21),(.t 25),(Acx (-1))]),
 Ll 27 (.buildSl false 1 Sx6 (.arr 64 .leaf z64) 1 [(0,(.t 26))]),
 Ll 28 (.append Sx6 2 64 (.t 16) (.t 27)),
 Lw 7 28] [0,1,2,7,8]))
 (.region [Lw 14 8,
 Ibc 15 .add 14 1,
 Lw 8 15] [0,1,2,7,8]))
def Z4n_B:Cd:=
 Irg [Imc 6 0] [0,1,2]
 (Irg [Ll 9 (.buildSl false 0 Sx6 (.arr 64 .leaf z64) 0 []),
 Lw 7 9] [0,1,2,7]
 (.seq (Irg [Imc 8 0] [0,1,2,7,8]
 (.block 0 (.loop (Z4n_L0))))
 (Irg [Lw 29 0,
 Lw 30 7,
 Ll 31 (.call .data [] (.f F4t) [(.t 29),(.t 30)]),
 Ien 32 31,
 Lw 6 32] [6]
 (.ret))))
def Z4n:Fn:=
 { nparams:=3,nblk:=3,results:=[.tmp 6],body:=Z4n_B }
def Z3h_L0:Cd:=
 .seq (Irg [Lw 13 10,
 Ibc 14 .lss 13 2] [0,2,3,5,10,14]
 (Icd 14
 (.skip)
 (.exit 0)))
 (.seq (.block 1 (Irg [Lw 17 2,
 Lw 11 17] [0,2,3,5,10,11]
 (.seq (Irg [Lw 18 10,
 Ibc 19 .eql 18 1] [0,2,3,5,10,11,19]
 (Icd 19
 (.region [Lw 20 3,
 Lw 11 20] [0,2,3,5,10,11])
 (.skip)))
 (Irg [Lw 21 0,
 Ipx 22 5,
 Lw 23 11,
 Ll 24 (Ofx F4j [(.t 21),(.t 22),(.t 23)]),
 Lw 12 24] [0,2,3,5,10,12]
 (Irg [Lw 25 12,
 Ibc 26 .neq 25 0] [0,2,3,5,10,12,26]
 (Icd 26
 (Irg [Lw 27 12,
 Imc 8 0,
 Lw 9 27] [8,9]
 (.ret))
 (.skip)))))))
 (.region [Lw 15 10,
 Ibc 16 .add 15 1,
 Lw 10 16] [0,2,3,5,10]))
def Z3h_B:Cd:=
 Irg [Ibx 5 0 1,
 Imc 8 0,
 Imc 9 0] [0,2,3,5]
 (.seq (Irg [Imc 10 0] [0,2,3,5,10]
 (.block 0 (.loop (Z3h_L0))))
 (.seq (Irg [Lw 28 2,
 Ien 29 28,
 Ibc 30 .gtr 29 4,
 Lw 31 30,
 Lx 32 3 31 false,
 Lg 33 (.len false (.t 32)) 31 false,
 Lx 34 2 31 false,
 Lg 35 (.len false (.t 34)) 31 false,
 Lg 36 (.bin .neq (.t 33) (.t 35)) 31 false,
 Ior 37 31 36] [0,2,3,37]
 (Icd 37
 (Irg [Imc 8 0,
 Imc 9 2] [8,9]
 (.ret))
 (.skip)))
 (Irg [Lw 38 0,
 Lw 39 2,
 Lw 40 3,
 Ll 41 (Ofx F4n [(.t 38),(.t 39),(.t 40)]),
 Lw 8 41,
 Imc 9 0] [8,9]
 (.ret))))
def Z3h:Fn:=
 { nparams:=4,nblk:=1,results:=[.tmp 8,.tmp 9],body:=Z3h_B }
def Z4q_L0:Cd:=
 .seq (Irg [Lw 19 10,
 Lw 20 2,
 Ien 21 20,
 Ibn 22 .lss 19 21] [0,2,4,7,8,9,10,22]
 (Icd 22
 (.skip)
 (.exit 2)))
 (.seq (.block 3 (.region [Lw 25 9,
 Lw 26 0,
 Lw 27 2,
 Lw 28 10,
 Iia 29 Sx6 27 28,
 Ipx 30 29,
 Lw 31 8,
 Ipx 32 4,
 Ll 33 (Ofx F4c [(.t 26),(.t 30),(.t 31),(.t 32)]),
 Ll 34 (.buildSl false 3 Sx6 (.arr 64 .leaf z64) 1 [(0,(.t 33))]),
 Ll 35 (.append Sx6 4 64 (.t 25) (.t 34)),
 Lw 9 35] [0,2,4,7,8,9,10]))
 (.region [Lw 23 10,
 Ibc 24 .add 23 1,
 Lw 10 24] [0,2,4,7,8,9,10]))
def Z4q_L1:Cd:=
 .seq (Irg [Lw 12 8,
 Lw 13 2,
 Ien 14 13,
 Ibn 15 .lss 12 14] [0,2,4,7,8,15]
 (Icd 15
 (.skip)
 (.exit 0)))
 (.seq (.block 1 (Irg [Ll 18 (.buildSl false 2 Sx6 (.arr 64 .leaf z64) 0 []),
 Lw 9 18] [0,2,4,7,8,9]
 (.seq (Irg [Imc 10 0] [0,2,4,7,8,9,10]
 (.block 2 (.loop (Z4q_L0))))
 (.region [Lw 36 7,
 Lw 37 9,
 Ll 38 (.buildSl true 5 .leaf (.sl Sx6 []) 1 [(0,(.t 37))]),
 Ll 39 (.append .leaf 6 24 (.t 36) (.t 38)),
 Lw 7 39] [0,2,4,7,8]))))
 (.region [Lw 16 8,
 Ibc 17 .add 16 1,
 Lw 8 17] [0,2,4,7,8]))
def Z4q_B:Cd:=
 Irg [Ibx 4 0 1,
 Ll 6 (.mv (.c (.sl .leaf [])))] [0,2,4]
 (Irg [Ll 11 (.buildSl false 1 .leaf (.sl Sx6 []) 0 []),
 Lw 7 11] [0,2,4,7]
 (.seq (Irg [Imc 8 0] [0,2,4,7,8]
 (.block 0 (.loop (Z4q_L1))))
 (Irg [Lw 40 7,
 Lw 6 40] [6]
 (.ret))))
def Z4q:Fn:=
 { nparams:=3,nblk:=7,results:=[.tmp 6],body:=Z4q_B }
def Z3g_B:Cd:=
 Irg [Ibx 4 0 1,
 Ll 6 (.mv (.c (.sl .leaf []))),
 Imc 7 0] [0,2,4]
 (.seq (Irg [Lw 9 0,
 Ipx 10 4,
 Lw 11 2,
 Ll 12 (Ofx F4p [(.t 9),(.t 10),(.t 11),(Acx 4)]),
 Lw 8 12] [0,2,4,8]
 (Irg [Lw 13 8,
 Ibc 14 .neq 13 0] [0,2,4,8,14]
 (Icd 14
 (Irg [Lw 15 8,
 Ll 6 (.mv (.c (.sl .leaf []))),
 Lw 7 15] [6,7]
 (.ret))
 (.skip))))
 (Irg [Lw 16 0,
 Ipx 17 4,
 Lw 18 2,
 Ll 19 (Opx F4q [(.t 16),(.t 17),(.t 18)]),
 Lw 6 19,
 Imc 7 0] [6,7]
 (.ret)))
def Z3g:Fn:=
 { nparams:=3,nblk:=1,results:=[.tmp 6,.tmp 7],body:=Z3g_B }
def Z39_L0:Cd:=
 .seq (Irg [Lw 24 11,
 Isx 25 9,
 Ll 26 (Ofx F48 [(.t 25)]),
 Ibn 27 .leq 24 26] [9,10,11,27]
 (Icd 27
 (.skip)
 (.exit 0)))
 (.seq (.block 1 (.region [Lw 30 10,
 Lw 31 11,
 Iis 32 8 Sx6 9 31,
 Ipx 33 32,
 Ll 34 (.buildSl false 3 Sx6 (.arr 64 .leaf z64) 1 [(0,(.t 33))]),
 Ll 35 (.append Sx6 4 64 (.t 30) (.t 34)),
 Lw 10 35] [9,10,11]))
 (.region [Lw 28 11,
 Ibc 29 .add 28 1,
 Lw 11 29] [9,10,11]))
def Z39_B:Cd:=
 Irg [Ibx 4 0 1,
 Ll 6 (.mv (.c (.sl Sx6 []))),
 Imc 7 0] [0,2,4]
 (.seq (Irg [Lw 12 0,
 Ipx 13 4,
 Lw 14 2,
 Ll 15 (Ofx F4j [(.t 12),(.t 13),(.t 14)]),
 Lw 8 15] [0,2,4,8]
 (Irg [Lw 16 8,
 Ibc 17 .neq 16 0] [0,2,4,8,17]
 (Icd 17
 (Irg [Lw 18 8,
 Ll 6 (.mv (.c (.sl Sx6 []))),
 Lw 7 18] [6,7]
 (.ret))
 (.skip))))
 (Irg [Lw 19 0,
 Ipx 20 4,
 Lw 21 2,
 Ll 22 (Ofx F4e [(.t 19),(.t 20),(.t 21)]),
 Ll 23 (.buildSl false 1 Sx6 (.arr 64 .leaf z64) 0 []),
 Ll 9 (.box false 2 (.c (.arr 8 Sx6 z8))),
 Ls (.store false Sx8 (.t 9) (.t 22)),
 Lw 10 23] [9,10]
 (.seq (Irg [Imc 11 0] [9,10,11]
 (.block 0 (.loop (Z39_L0))))
 (Irg [Lw 36 10,
 Lw 6 36,
 Imc 7 0] [6,7]
 (.ret)))))
def Z39:Fn:=
 { nparams:=3,nblk:=5,results:=[.tmp 6,.tmp 7],body:=Z39_B }
def Z4o_L0:Cd:=
 .seq (Irg [Lw 12 6,
 Ibc 13 .lss 12 4,
 Lw 14 13,
 Lg 15 (.load Sx6 (.t 5)) 14 true,
 Lg 16 (Ofx F3m [(.t 15)]) 14 true,
 Lg 17 (.bin .lss (.t 16) (Acx 3)) 14 true,
 Ian 18 14 17] [0,3,4,5,6,18]
 (Icd 18
 (.skip)
 (.exit 0)))
 (.seq (.block 1 (.region [Lw 22 0,
 Ll 23 (.call .heap [] (.f F49) [(.t 22)]),
 Lw 21 23,
 Iex 24 21 0,
 Iex 25 21 1,
 Lw 4 24,
 Ls (.store false Sx6 (.t 5) (.t 25))] [0,3,4,5,6]))
 (.region [Lw 19 6,
 Ibc 20 .add 19 1,
 Lw 6 20] [0,3,4,5,6]))
def Z4o_B:Cd:=
 Irg [Imc 2 0,
 Ibz 3 0] [0,3]
 (Irg [Lw 8 0,
 Ll 9 (.call .heap [] (.f F49) [(.t 8)]),
 Lw 7 9,
 Iex 10 7 0,
 Iex 11 7 1,
 Ibz 5 1,
 Lw 4 10,
 Ls (.store false Sx6 (.t 5) (.t 11))] [0,3,4,5]
 (.seq (Irg [Imc 6 0] [0,3,4,5,6]
 (.block 0 (.loop (Z4o_L0))))
 (Irg [Lw 26 4,
 Ipx 27 5,
 Lw 2 26,
 Ls (.store false Sx6 (.t 3) (.t 27))] [2,3]
 (.ret))))
def Z4o:Fn:=
 { nparams:=1,nblk:=2,results:=[.tmp 2,.cell 3 Sx6],body:=Z4o_B }
def Z4s_L0:Cd:=
 .seq (Irg [Lw 32 10,
 Ibc 33 .lss 32 4] [0,1,5,7,8,9,10,33]
 (Icd 33
 (.skip)
 (.exit 2)))
 (.seq (.block 3 (Irg [Lw 36 0,
 Lw 37 1,
 Lw 38 8,
 Ibc 39 .sub 38 1,
 Ll 40 (.call .heap [] (.f F3o) [(.t 36),(.t 37),(.t 39)]),
 Ibz 11 3,
 Ls (.store false Sx6 (.t 11) (.t 40))] [0,1,5,7,8,9,10,11]
 (Irg [Lw 41 1,
 Lw 42 1,
 Lw 43 7,
 Ll 44 (.call .heap [4] (.f F4t) [(.t 42),(.t 43)]),
 ⟨some 45,.load Sx6 (.t 11),none,[42,43]⟩,
 Ll 46 (.call .data [] (.f F4h) [(.t 41),(.t 44),(.t 45)]),
 Ien 47 46,
 Lw 48 1,
 Lw 49 7,
 Ll 50 (.call .heap [5] (.f F4t) [(.t 48),(.t 49)]),
 Ien 51 50,
 Ibn 52 .gtr 47 51] [0,1,5,7,8,9,10,11,52]
 (Icd 52
 (Irg [Lw 53 7,
 Ipx 54 11,
 Ll 55 (.buildSl false 6 Sx6 (.arr 64 .leaf z64) 1 [(0,(.t 54))]),
 Ll 56 (.append Sx6 7 64 (.t 53) (.t 55)),
 Lw 7 56] [0,1,5,7,8,9]
 (.exit 2))
 (.skip)))))
 (.region [Lw 34 10,
 Ibc 35 .add 34 1,
 Lw 10 35] [0,1,5,7,8,9,10]))
def Z4s_L1:Cd:=
 .seq (Irg [Lw 28 9,
 Ibc 29 .gtr 28 0] [0,1,5,7,8,9,29]
 (Icd 29
 (.skip)
 (.exit 0)))
 (.seq (.block 1 (Irg [Imc 10 0] [0,1,5,7,8,9,10]
 (.block 2 (.loop (Z4s_L0)))))
 (.region [Lw 30 9,
 Ibc 31 .sub 30 1,
 Lw 9 31] [0,1,5,7,8,9]))
def Z4s_B:Cd:=
 Irg [Ibx 5 0 2,
 Ll 6 (.mv (.c (.sl Sx6 [])))] [0,1,5]
 (Irg [Ll 12 (.buildSl false 1 Sx6 (.arr 64 .leaf z64) 0 []),
 Ipx 13 5,
 Ll 14 (Ofx F3m [(.t 13)]),
 Ll 15 (.maxI (.t 14) (Acx 1)),
 Lw 7 12,
 Lw 8 15] [0,1,5,7,8]
 (.seq (Irg [Lw 16 0,
 Ll 17 (.call .heap [] (.f F40) [(.t 16),(Acx 6)]),
 Ibc 18 .eql 17 0] [0,1,5,7,8,18]
 (Icd 18
 (Irg [Lw 19 0,
 Lw 20 1,
 Ipx 21 5,
 Ll 22 (.call .heap [2] (.f F4f) [(.t 19),(.t 20),(.t 21)]),
 Lw 6 22] [6]
 (.ret))
 (.skip)))
 (.seq (Irg [Lw 23 0,
 Lw 24 8,
 Ll 25 (.minI (.t 24) (Acx 4)),
 Ll 26 (.call .heap [] (.f F40) [(.t 23),(.t 25)]),
 Ll 27 (.bin .add (Acx 1) (.t 26)),
 Lw 9 27] [0,1,5,7,8,9]
 (.block 0 (.loop (Z4s_L1))))
 (.seq (Irg [Lw 57 0,
 Ll 58 (.call .heap [] (.f F40) [(.t 57),(Acx 30)]),
 Ibc 59 .eql 58 0] [0,1,5,7,59]
 (Icd 59
 (.region [Lw 60 7,
 Lw 61 0,
 Lw 62 1,
 Ipx 63 5,
 Ll 64 (.call .heap [] (.f F4a) [(.t 61),(.t 62),(.t 63)]),
 Ll 65 (.buildSl false 8 Sx6 (.arr 64 .leaf z64) 1 [(0,(.t 64))]),
 Ll 66 (.append Sx6 9 64 (.t 60) (.t 65)),
 Lw 7 66] [7])
 (.skip)))
 (Irg [Lw 67 7,
 Lw 6 67] [6]
 (.ret))))))
def Z4s:Fn:=
 { nparams:=3,nblk:=10,results:=[.tmp 6],body:=Z4s_B }
def Z3b_B:Cd:=
 Irg [Imc 2 0,
 Ibz 3 0,
 Ll 4 (.mv (.c (.sl Sx6 [])))] [0,3]
 (Irg [Lw 8 0,
 Ll 9 (.call .heap [1] (.f F3r) [(.t 8)]),
 Lw 5 9] [3,5]
 (Irg [Lw 11 5,
 Ll 12 (.call .heap [] (.f F4o) [(.t 11)]),
 Lw 10 12,
 Iex 13 10 0,
 Iex 14 10 1,
 Ibz 7 2,
 Lw 6 13,
 Ls (.store false Sx6 (.t 7) (.t 14))] [3,5,6,7]
 (Irg [Lw 15 6,
 Ipx 16 7,
 Lw 17 5,
 Lw 18 6,
 Ipx 19 7,
 ⟨some 20,.call .heap [3] (.f F4s) [(.t 17),(.t 18),(.t 19)],none,[7]⟩,
 Lw 2 15,
 Ls (.store false Sx6 (.t 3) (.t 16)),
 Lw 4 20] [2,3,4]
 (.ret))))
def Z3b:Fn:=
 { nparams:=1,nblk:=4,results:=[.tmp 2,.cell 3 Sx6,.tmp 4],body:=Z3b_B }
def Z4u_L0:Cd:=
 .seq (Irg [Lw 11 3,
 Ibc 12 .gtr 11 0] [0,1,3,6,9,12]
 (Icd 12
 (.skip)
 (.exit 0)))
 (.seq (.block 1 (.region [Lw 15 9,
 Lw 16 0,
 Lw 17 1,
 Ipx 18 6,
 Ll 19 (.call .heap [] (.f F4a) [(.t 16),(.t 17),(.t 18)]),
 Ll 20 (.buildSl false 2 Sx6 (.arr 64 .leaf z64) 1 [(0,(.t 19))]),
 Ll 21 (.append Sx6 3 64 (.t 15) (.t 20)),
 Lw 9 21] [0,1,3,6,9]))
 (.region [Lw 13 3,
 Ibc 14 .sub 13 1,
 Lw 3 14] [0,1,3,6,9]))
def Z4u_B:Cd:=
 Irg [Ibx 6 0 2,
 Ll 8 (.mv (.c (.sl Sx6 [])))] [0,1,3,6]
 (Irg [Ll 10 (.buildSl false 1 Sx6 (.arr 64 .leaf z64) 0 []),
 Lw 9 10] [0,1,3,6,9]
 (.seq (.block 0 (.loop (Z4u_L0)))
 (Irg [Lw 22 9,
 Lw 8 22] [8]
 (.ret))))
def Z4u:Fn:=
 { nparams:=4,nblk:=4,results:=[.tmp 8],body:=Z4u_B }
def Z3c_B:Cd:=
 Irg [Imc 2 0,
 Ibz 3 0,
 Ll 4 (.mv (.c (.sl Sx6 []))),
 Ll 5 (.mv (.c (.sl Sx6 [])))] [0,3]
 (Irg [Lw 12 0,
 Ll 13 (.call .heap [1] (.f F3r) [(.t 12)]),
 Lw 6 13] [3,6]
 (Irg [Lw 15 6,
 Ll 16 (.call .heap [] (.f F4o) [(.t 15)]),
 Lw 14 16,
 Iex 17 14 0,
 Iex 18 14 1,
 Ibz 8 2,
 Lw 7 17,
 Ls (.store false Sx6 (.t 8) (.t 18))] [3,6,7,8]
 (Irg [Lw 19 6,
 Ll 20 (.call .heap [] (.f F40) [(.t 19),(Acx 4)]),
 Ll 21 (.bin .add (Acx 1) (.t 20)),
 Lw 9 21] [3,6,7,8,9]
 (Irg [Lw 22 6,
 Lw 23 7,
 Ipx 24 8,
 Lw 25 9,
 Ll 26 (.call .heap [3] (.f F4u) [(.t 22),(.t 23),(.t 24),(.t 25)]),
 Lw 27 6,
 Lw 28 7,
 ⟨some 29,.load Sx6 (.t 8),none,[22,23,24,25]⟩,
 Lw 30 9,
 Ll 31 (.call .heap [4] (.f F4u) [(.t 27),(.t 28),(.t 29),(.t 30)]),
 Lw 10 26,
 Lw 11 31] [3,6,7,8,10,11]
 (.seq (Irg [Lw 32 6,
 Ll 33 (.call .heap [] (.f F40) [(.t 32),(Acx 12)])] [3,7,8,10,11,33]
 (.block 0 (Irg [Ibc 35 .eql 33 0,
 Lw 34 35] [3,7,8,10,11,33,34]
 (Icd 34
 (.region [Lw 36 10,
 Lw 11 36] [3,7,8,10,11])
 (Irg [Ibc 38 .eql 33 1,
 Lw 37 38] [3,7,8,10,11,37]
 (Icd 37
 (.region [Lw 39 11,
 Ll 40 (.cut none Sx6 (.t 39) (some (Acx 1)) none none),
 Lw 11 40] [3,7,8,10,11])
 (.skip)))))))
 (Irg [Lw 41 7,
 Ipx 42 8,
 Lw 43 10,
 Lw 44 11,
 Lw 2 41,
 Ls (.store false Sx6 (.t 3) (.t 42)),
 Lw 4 43,
 Lw 5 44] [2,3,4,5]
 (.ret)))))))
def Z3c:Fn:=
 { nparams:=1,nblk:=5,results:=[.tmp 2,.cell 3 Sx6,.tmp 4,.tmp 5],body:=Z3c_B }
def Z3e_B:Cd:=
 Irg [Imc 2 0,
 Ibz 3 0,
 Ll 4 (.mv (.c (.sl Sx6 [])))] [0,3]
 (Irg [Lw 8 0,
 Ll 9 (.call .heap [1] (.f F3r) [(.t 8)]),
 Lw 5 9] [3,5]
 (Irg [Lw 11 5,
 Ll 12 (.call .heap [] (.f F4o) [(.t 11)]),
 Lw 10 12,
 Iex 13 10 0,
 Iex 14 10 1,
 Ibz 7 2,
 Lw 6 13,
 Ls (.store false Sx6 (.t 7) (.t 14))] [3,5,6,7]
 (Irg [Lw 15 6,
 Ipx 16 7,
 Lw 17 5,
 Lw 18 6,
 Ipx 19 7,
 Lw 20 5,
 ⟨some 21,.call .heap [] (.f F40) [(.t 20),(Acx 7)],none,[7]⟩,
 ⟨some 22,.call .heap [3] (.f F4u) [(.t 17),(.t 18),(.t 19),(.t 21)],none,[7]⟩,
 Lw 2 15,
 Ls (.store false Sx6 (.t 3) (.t 16)),
 Lw 4 22] [2,3,4]
 (.ret))))
def Z3e:Fn:=
 { nparams:=1,nblk:=4,results:=[.tmp 2,.cell 3 Sx6,.tmp 4],body:=Z3e_B }
def Z3a_B:Cd:=
 Irg [Imc 2 0,
 Ibz 3 0,
 Ll 4 (.mv (.c (.sl Sx6 [])))] [0,3]
 (Irg [Lw 8 0,
 Ll 9 (.call .heap [1] (.f F3r) [(.t 8)]),
 Lw 5 9] [3,5]
 (Irg [Lw 11 5,
 Ll 12 (.call .heap [] (.f F4o) [(.t 11)]),
 Lw 10 12,
 Iex 13 10 0,
 Iex 14 10 1,
 Ibz 7 2,
 Lw 6 13,
 Ls (.store false Sx6 (.t 7) (.t 14))] [3,5,6,7]
 (Irg [Lw 15 6,
 Ipx 16 7,
 Lw 17 5,
 Lw 18 6,
 Ipx 19 7,
 Lw 20 5,
 ⟨some 21,.call .heap [] (.f F40) [(.t 20),(Acx 5)],none,[7]⟩,
 ⟨some 22,.call .heap [3] (.f F4u) [(.t 17),(.t 18),(.t 19),(.t 21)],none,[7]⟩,
 Lw 2 15,
 Ls (.store false Sx6 (.t 3) (.t 16)),
 Lw 4 22] [2,3,4]
 (.ret))))
def Z3a:Fn:=
 { nparams:=1,nblk:=4,results:=[.tmp 2,.cell 3 Sx6,.tmp 4],body:=Z3a_B }
def Z3d_B:Cd:=
 Irg [Imc 2 0,
 Ibz 3 0,
 Ll 4 (.mv (.c (.sl Sx6 [])))] [0,3]
 (Irg [Lw 8 0,
 Ll 9 (.call .heap [1] (.f F3r) [(.t 8)]),
 Lw 5 9] [3,5]
 (Irg [Lw 11 5,
 Ll 12 (.call .heap [] (.f F4o) [(.t 11)]),
 Lw 10 12,
 Iex 13 10 0,
 Iex 14 10 1,
 Ibz 7 2,
 Lw 6 13,
 Ls (.store false Sx6 (.t 7) (.t 14))] [3,5,6,7]
 (Irg [Lw 15 6,
 Ipx 16 7,
 Lw 17 5,
 Lw 18 6,
 Ipx 19 7,
 Lw 20 5,
 ⟨some 21,.call .heap [] (.f F40) [(.t 20),(Acx 6)],none,[7]⟩,
 ⟨some 22,.call .heap [3] (.f F4u) [(.t 17),(.t 18),(.t 19),(.t 21)],none,[7]⟩,
 Lw 2 15,
 Ls (.store false Sx6 (.t 3) (.t 16)),
 Lw 4 22] [2,3,4]
 (.ret))))
def Z3d:Fn:=
 { nparams:=1,nblk:=4,results:=[.tmp 2,.cell 3 Sx6,.tmp 4],body:=Z3d_B }
end Pe

namespace Gq
section
variable {K:Type} [Fd K]
theorem Pol.mod_eq_iff {a b m:Pol K} (hm:m≠0):a%m=b%m↔Quo.mk m a=Quo.mk m b:=by
 rw [Quo.eq];constructor
 ·intro h
  refine ⟨a/m-b/m,?_⟩;have h1:=div_mod a m;have h2:=div_mod b m;rw [h] at h1;generalize a/m=q at *;generalize b/m=q' at *;rw [h1];have e:q*m+b%m=(q'*m+b%m)+m*(q-q'):=bo [q,q',m,b%m] rfl;rw [e,←h2]
 ·rintro ⟨c,rfl⟩
  have h2:=div_mod b m;refine (div_mod_eq (q:=b/m+c) ?_ (len_mod b hm)).2;have e:b+m*c=(b/m*m+b%m)+m*c:=by rw [←h2]
  rw [e];exact bo [b/m,m,b%m,c] rfl
theorem Pol.mk_mod (a m:Pol K):Quo.mk m (a%m)=Quo.mk m a:=by
 rw [Quo.eq];refine ⟨-(a/m),?_⟩;have h:=div_mod a m;have e:a%m=(a/m*m+a%m)+m * -(a/m):=bo [a/m,m,a%m] rfl;rw [e,←h]
theorem Pol.mod_small {a m:Pol K} (h:a.len<m.len):a%m=a:=(div_mod_eq (q:=0) (by rw [zero_mul,zero_add]) h).2
theorem Pol.zero_mod {m:Pol K} (hm:m≠0):(0:Pol K)%m=0:=mod_small (by rw [len_zero]; exact len_pos hm)
theorem Pol.div_small {a m:Pol K} (h:a.len<m.len):a/m=0:=(div_mod_eq (q:=0) (by rw [zero_mul,zero_add]) h).1
theorem Pol.mul_mod_left (a b:Pol K) {m:Pol K} (hm:m≠0):(a%m)*b%m=a*b%m:=by
 rw [mod_eq_iff hm,Quo.mk_mul,Quo.mk_mul,mk_mod]
theorem Pol.mul_mod_right (a b:Pol K) {m:Pol K} (hm:m≠0):a*(b%m)%m=a*b%m:=by
 rw [mod_eq_iff hm,Quo.mk_mul,Quo.mk_mul,mk_mod]
theorem Pol.add_mod_mod (a b:Pol K) {m:Pol K} (hm:m≠0):(a%m+b%m)%m=(a+b)%m:=by
 rw [mod_eq_iff hm,Quo.mk_add,Quo.mk_add,mk_mod,mk_mod]
theorem Pol.mod_add_small {a b m:Pol K} (hm:m≠0):(a+b)%m=a%m+b%m:=by
 rw [←add_mod_mod a b hm];apply mod_small;have h1:=len_mod a hm;have h2:=len_mod b hm;have:=len_le (lt_add (lt_iff.2 (show (a%m).len≤m.len-1 by omega)) (lt_iff.2 (show (b%m).len≤m.len-1 by omega)))
 omega
theorem Pol.mod_Cmul (k:K) (a:Pol K) {m:Pol K} (hm:m≠0):(C k*a)%m=C k*(a%m):=by
 rw [←mul_mod_right _ _ hm];apply mod_small;have h1:=len_mod a hm;have:=len_le (lt_Cmul k (lt_iff.2 (show (a%m).len≤m.len-1 by omega)))
 omega
theorem Pol.mod_self_mul (a:Pol K) {m:Pol K} (hm:m≠0):(a*m)%m=0:=
 (div_mod_eq (q:=a) (by rw [add_zero]) (by rw [len_zero]; exact len_pos hm)).2
theorem Pol.len_mod_le (a:Pol K) {m:Pol K} (hm:m≠0):(a%m).len≤a.len:=by
 rcases f7 a.len m.len with h | h
 ·rw [mod_small h]; exact bp _
 ·have:=len_mod a hm; omega
theorem Pol.len_div {a m:Pol K} (hm:m≠0) (h:m.len≤a.len):(a/m).len+m.len=a.len+1:=by
 have h1:=div_mod a m;have h2:=len_mod a hm;have h3:=len_pos hm
 by_cases hq:a/m=0
 ·rw [hq,zero_mul,zero_add] at h1
  rw [←h1] at h2; omega
 ·have h4:=len_mul hq hm
  have h5:=len_pos hq
  have e:a.len=(a/m*m).len:=by
   apply Nat.le_antisymm
   ·rw [h1]
    exact len_le (lt_add (by rw [←h1]; exact lt_len _) (lt_iff.2 (by rw [←h1]; omega)))
   ·have:a/m*m=a-a%m:=by
     have e:a-a%m=(a/m*m+a%m)-a%m:=by rw [←h1]
     rw [e]; exact bo [a/m*m,a%m] rfl
    rw [this];exact len_le (lt_sub a.lt_len (lt_iff.2 (by omega)))
  omega
theorem Pol.len_div_le (a:Pol K) {m:Pol K} (hm:m≠0):(a/m).len≤a.len:=by
 rcases f7 a.len m.len with h | h
 ·rw [div_small h,len_zero]; omega
 ·have:=len_div hm h
  have:=len_pos hm;omega
theorem Gs {R:Type} [CR R] (a:R) (m:Nat):∀n,pw a (m+n)=pw a m*pw a n
 | 0=>(mul_one _).symm
 | n+1=>by rw [←jf,pw,Gs a m n,pw,mul_assoc]
theorem zj {R:Type} [CR R] (a b:R):∀n,pw (a*b) n=pw a n*pw b n
 | 0=>(mul_one _).symm
 | n+1=>by rw [pw,pw,pw,zj a b n]; exact bo [a,b,pw a n,pw b n] rfl
theorem yn {R:Type} [CR R] (a:R) (m:Nat):∀n,pw (pw a m) n=pw a (m*n)
 | 0=>rfl
 | n+1=>by rw [pw,yn a m n,Nat.mul_succ,Gs]
theorem Hq {R:Type} [CR R]:∀n,pw (1:R) n=1
 | 0=>rfl
 | n+1=>by rw [pw,Hq n,mul_one]
theorem Ee {R:Type} [CR R] (a:R):pw a 1=a:=one_mul a
theorem Pol.pow_mod (a:Pol K) {m:Pol K} (hm:m≠0) (n:Nat):pw (a%m) n%m=pw a n%m:=by
 rw [mod_eq_iff hm,Quo.mk_pow,Quo.mk_pow,mk_mod]
theorem Pol.bin_step {out base m:Pol K} (hm:m≠0) (k:Nat) (_hk:0<k) :
 (if k%2=1 then out*base%m else out)*pw (base*base%m) (k/2)%m=out*pw base k%m:=by
 rw [mod_eq_iff hm,Quo.mk_mul,Quo.mk_mul,Quo.mk_pow,mk_mod,Quo.mk_mul,zj,Quo.mk_pow,←Gs]
 split
 ·rename_i h
  rw [mk_mod,Quo.mk_mul];have e:k=1+(k/2+k/2):=by omega
  have e2:pw (Quo.mk m base) k=Quo.mk m base*pw (Quo.mk m base) (k/2+k/2):=by
   have:=Gs (Quo.mk m base) 1 (k/2+k/2)
   rwa [←e,Ee] at this
  rw [e2,mul_assoc]
 ·rename_i h
  have e:k/2+k/2=k:=by omega
  rw [e]
open Classical in
noncomputable def Pol.bz:Nat→Pol K→Pol K→Pol K→Pol K→Pol K→Pol K→Pol K×Pol K×Pol K
 | 0,a,_,u,_,v,_=>(a,u,v)
 | n+1,a,b,u,x,v,y=>if b=0 then (a,u,v) else bz n b (a%b) x (u-a/b*x) y (v-a/b*y)
structure Pol.BzI (A B a b u x v y:Pol K):Prop where
 one:u*A+v*B=a
 two:x*A+y*B=b
 lx:x.len=0∨x.len+a.len≤B.len+1
 ly:y.len=0∨y.len+a.len≤A.len+1
 lu:u.len=0∨u.len+b.len≤B.len+1
 lv:v.len=0∨v.len+b.len≤A.len+1
 any:a≠0∨b≠0
theorem Pol.BzI.init {A B:Pol K} (h:A≠0∨B≠0):BzI A B A B 1 0 0 1:=
 ⟨bo [A,B] rfl,bo [A,B] rfl,.inl len_zero,.inr (by rw [len_one]; omega),.inr (by rw [len_one]; omega),.inl len_zero,h⟩
theorem Pol.len_sub_le {a b:Pol K} {n:Nat} (ha:a.len≤n) (hb:b.len≤n):(a-b).len≤n:=len_le (lt_sub (lt_iff.2 ha) (lt_iff.2 hb))
theorem Pol.len_add_le {a b:Pol K} {n:Nat} (ha:a.len≤n) (hb:b.len≤n):(a+b).len≤n:=len_le (lt_add (lt_iff.2 ha) (lt_iff.2 hb))
theorem Pol.BzI.qlen {A B a b u x v y:Pol K} (h:BzI A B a b u x v y) (hb:b≠0) :
 ((a/b*x).len=0∨(a/b*x).len+b.len≤B.len+1)∧((a/b*y).len=0∨(a/b*y).len+b.len≤A.len+1):=by
 have key:∀(x:Pol K) (n:Nat),(x.len=0∨x.len+a.len≤n+1)→((a/b*x).len=0∨(a/b*x).len+b.len≤n+1):=by
  intro x n hx
  by_cases hx0:x=0
  ·left; rw [hx0,mul_zero,len_zero]
  ·rcases f7 a.len b.len with hl | hl
   ·left; rw [div_small hl,zero_mul,len_zero]
   ·have h1:=len_div hb hl
    have hq:a/b≠0:=fun h0=>by
     rw [h0,len_zero] at h1;omega
    have h2:=len_mul hq hx0;have h3:=len_pos hx0;right; omega
 exact ⟨key x B.len h.lx,key y A.len h.ly⟩
theorem Pol.BzI.step {A B a b u x v y:Pol K} (h:BzI A B a b u x v y) (hb:b≠0):BzI A B b (a%b) x (u-a/b*x) y (v-a/b*y):=by
 have hm:=div_mod a b;have hl:=len_mod a hb;have hle:=len_mod_le a hb;obtain ⟨q1,q2⟩:=h.qlen hb
 have sub:∀(u q:Pol K) (n:Nat),(u.len=0∨u.len+b.len≤n+1)→(q.len=0∨q.len+b.len≤n+1)→((u-q).len=0∨(u-q).len+b.len≤n+1):=by
  intro u q n h1 h2
  by_cases hn:n+1≤b.len
  ·left
   have e1:u.len=0:=by omega
   have e2:q.len=0:=by omega
   have:=len_sub_le (a:=u) (b:=q) (n:=0) (by omega) (by omega)
   omega
  ·right
   have:=len_sub_le (a:=u) (b:=q) (n:=n+1-b.len) (by omega) (by omega)
   omega
 refine ⟨h.two,?_,sub _ _ _ h.lu q1,sub _ _ _ h.lv q2,?_,?_,.inl hb⟩
 ·have e:(u-a/b*x)*A+(v-a/b*y)*B=(u*A+v*B)-a/b*(x*A+y*B):=bo [u,a/b,x,A,v,y,B] rfl
  rw [e,h.one,h.two];have e2:a-a/b*b=(a/b*b+a%b)-a/b*b:=by rw [←hm]
  rw [e2];exact bo [a/b,b,a%b] rfl
 ·exact h.lx.imp id fun h=>by omega
 ·exact h.ly.imp id fun h=>by omega
theorem Pol.bz_spec {A B:Pol K}:∀(n:Nat) (a b u x v y:Pol K),b.len≤n→BzI A B a b u x v y →
 ∃x' y',BzI A B (bz n a b u x v y).1 0 (bz n a b u x v y).2.1 x' (bz n a b u x v y).2.2 y'∧(∃s,a=s*(bz n a b u x v y).1)∧(∃s,b=s*(bz n a b u x v y).1)
 | 0,a,b,u,x,v,y,hn,h=>by
  obtain rfl:=len_zero_iff.1 (show b.len=0 by omega)
  exact ⟨x,y,h,⟨1,(one_mul a).symm⟩,⟨0,(zero_mul a).symm⟩⟩
 | n+1,a,b,u,x,v,y,hn,h=>by
  unfold bz
  split
  ·rename_i hb
   subst hb;exact ⟨x,y,h,⟨1,(one_mul a).symm⟩,⟨0,(zero_mul a).symm⟩⟩
  ·rename_i hb
   have hl:=len_mod a hb;obtain ⟨x',y',h1,⟨s,h2⟩,⟨t,h3⟩⟩:=bz_spec n b (a%b) x (u-a/b*x) y (v-a/b*y) (by omega) (h.step hb)
   refine ⟨x',y',h1,⟨a/b*s+t,?_⟩,⟨s,h2⟩⟩;generalize (bz n b (a%b) x (u-a/b*x) y (v-a/b*y)).1=d at *;have e:(a/b*s+t)*d=a/b*(s*d)+t*d:=bo [a/b,s,t,d] rfl;rw [e,←h2,←h3];exact div_mod a b
noncomputable def Pol.eu (a b:Pol K):Pol K×Pol K×Pol K:=bz b.len a b 1 0 0 1
noncomputable def Pol.bezout (a b:Pol K):Pol K×Pol K×Pol K:=
 let r:=eu a b
 (C (Fd.inv r.1.ld)*r.1,C (Fd.inv r.1.ld)*r.2.1,C (Fd.inv r.1.ld)*r.2.2)
noncomputable def Pol.gcd (a b:Pol K):Pol K:=(bezout a b).1
end
end Gq

namespace Pe
open Go Gq
variable {T:Nat→Option Fn} {A:ap}
theorem Nc {p:Int} (a:Fp p) (h:a.len≤64):trim (pad (row a))=row a:=Ae fun i=>by rw [zu (by rw [cu]; exact h),jc]
theorem D0 {l:List Int} {i:Nat} (h:i<l.length):l.take i++[l[i]]=l.take (i+1):=by
 rw [List.take_add_one,af h]; rfl
theorem a24 {O:ap} {l:List Int} (hb:je l) (hl:l.length=64):∀(m i:Nat) (cp:Option Nat),i+m=64 →
 dn O 0 (.loop Z1o_L0) ⟨[(3,.sl 1 [] 0 i cp),(6,(.d (.arr 64 .leaf (aq .u8 l)))),(7,(.d (.int .i64 i)))],[.hole,.sl false .leaf (aq .i64 (l.take i)),.hole,.hole]⟩ =
  some (.exit 0,⟨[(3,.sl 1 [] 0 64 (if m=0 then cp else none)),(6,(.d (.arr 64 .leaf (aq .u8 l)))),(7,(.d (.int .i64 64))),(8,(.d (.bool false)))],[.hole,.sl false .leaf (aq .i64 (l.take 64)),.hole,.hole]⟩)
 | 0,i,cp,hi=>by
  have:i=64:=by omega
  subst this;exact cg (by simp -implicitDefEqProofs [Z1o_L0,au])
 | m+1,i,cp,hi=>by
  have h1:(i:Int)<64:=by omega
  have hlt:i<l.length:=by omega
  have hx:l[i]? = some l[i]:=af hlt;have hb':=hb _ (bb hlt);have w1:IntKind.i64.wrap l[i]=l[i]:=w64 (by omega)
  have w4:IntKind.i64.wrap ((i:Int)+1)=((i+1:Nat):Int):=(w64 (x:=(i:Int)+1) (by omega)).trans (by omega)
  have h8:(i+1)*8≤1099511627776:=by omega
  have hlen:i≤l.length:=by omega
  have ht:(l.take i).take i=l.take i:=by rw [List.take_take,Nat.min_self]
  have e1:aq .i64 (l.take i)++[D.int .i64 l[i]]=aq .i64 (l.take (i+1)):=by rw [←D0 hlt,←Ie]; rfl
  have ih:=a24 (O:=O) hb hl m (i+1) none (by omega)
  have e2:(if m=0 then (none:Option Nat) else none)=none:=by split <;> rfl
  rw [e2] at ih;rw [if_neg (Nat.succ_ne_zero m)];refine bq ?_ ih;simp -implicitDefEqProofs [Z1o_L0,au,h1,hlt,w1,w4,h8,hlen,ht,e1,List.replicate]
def G2 (O:ap):Prop:=∀l:List Int,je l→l.length=64→ask O F1o [(D.arr 64 .leaf (aq .u8 l))]=some (D.sl .leaf (aq .i64 (trim l)))
theorem ac6 (hT:T F1o=some Z1o) (ht:wc (den T A)):G2 (den T A):=by
 intro l hb hl;have e:=a24 (O:=den T A) hb hl 64 0 (some 0) (br _);have e0:((0:Nat):Int)=0:=rfl;rw [e0,fd,iu,b7 (by omega)] at e
 have e1:=ht l (by omega)
 have ht:l.take 64=l:=b7 (by omega)
 refine ch hT rfl ?_;simp -implicitDefEqProofs [Z1o,Z1o_B,e,e1,hl,ht]
def za (O:ap):Prop:=∀(p:Int) [IsP p] (a:Fp p),a.len≤64→ask O F1o [(D.arr 64 .leaf (aq .u8 (pad (row a))))]=some (D.sl .leaf (aq .i64 (row a)))
theorem Qb {p:Int} [IsP p] (a:Fp p):je (pad (row a)):=fun x hx=>by
 obtain ⟨i,_,rfl⟩:=ct.1 hx;have:=(km a).le IsP.pos i;have:=IsP.le (p:=p);omega
theorem act {O:ap} (h:G2 O):za O:=fun p i a hl=>by
 rw [h _ (Qb a) (dc _),Nc a hl]
theorem a92 {O:ap} {l z:List Int} (hb:je l) (hl:l.length≤64):∀(m i:Nat) (cur:List Int),i+m=l.length→cur.length=64 →
 dn O 0 (.loop Z1t_L0) ⟨[(2,.ptr 0 []),(3,.ptr 1 []),(6,(.d (.sl .leaf (aq .i64 l)))),(7,(.d (.int .i64 l.length))),(8,(.d (.int .i64 i)))],[.box false (D.arr 64 .leaf (aq .u8 z)),.box false (D.arr 64 .leaf (aq .u8 cur))]⟩ =
  some (.exit 0,⟨[(2,.ptr 0 []),(3,.ptr 1 []),(6,(.d (.sl .leaf (aq .i64 l)))),(7,(.d (.int .i64 l.length))),(8,(.d (.int .i64 l.length))),(9,(.d (.bool false)))],[.box false (D.arr 64 .leaf (aq .u8 z)),.box false (D.arr 64 .leaf (aq .u8 (upd (cf l) m i cur)))]⟩)
 | 0,i,cur,hi,hc=>by
  have:i=l.length:=by omega
  subst this;exact cg (by simp -implicitDefEqProofs [Z1t_L0,au,upd])
 | m+1,i,cur,hi,hc=>by
  have hlt:i<l.length:=by omega
  have hx:l[i]? = some (cf l i):=by rw [af hlt,gu hlt]
  have hb':=hb _ (bb hlt);rw [←gu hlt] at hb';have w1:IntKind.u8.wrap l[i]=cf l i:=by rw [←gu hlt]; exact w8 hb'
  have w4:IntKind.i64.wrap ((i:Int)+1)=((i+1:Nat):Int):=(w64 (x:=(i:Int)+1) (by omega)).trans (by omega)
  have hi64:i<64:=by omega
  have hcur:cur[i]? = some (cf cur i):=by rw [af (by omega),gu]
  have ih:=a92 (O:=O) (z:=z) hb hl m (i+1) (cur.set i (cf l i)) (by omega) (by simpa using hc)
  refine bq ?_ ih;simp -implicitDefEqProofs [Z1t_L0,au,hlt,w1,w4,hi64,hcur]
def Sj (O:ap):Prop:=∀l:List Int,je l→l.length≤64→ask O F1t [(D.sl .leaf (aq .i64 l))]=some (D.arr 64 .leaf (aq .u8 (pad l)))
theorem acn {l:List Int} (_hl:l.length≤64):upd (cf l) l.length 0 (pad [])=pad l:=by
 symm
 apply Xg
 ·rw [zh,dc]
 ·intro i hi
  unfold cf;rw [ca,ca,Ju]
  by_cases h:i<l.length
  ·rw [if_pos (by rw [dc]; omega)]
   simp [h]
  ·rw [if_neg (by omega),cx (by omega),um _ _ hi]; rfl
theorem af8 (hT:T F1t=some Z1t):Sj (den T A):=by
 intro l hb hl;have e:=a92 (O:=den T A) (z:=pad []) hb hl l.length 0 (pad []) (br _) (dc []);have e0:((0:Nat):Int)=0:=rfl;rw [e0,acn hl] at e;refine ch hT rfl ?_;simp -implicitDefEqProofs [Z1t,Z1t_B,e]
theorem Q7 {p:Int} [IsP p] (a:Fp p):je (row a):=fun x hx=>by
 have:=km a x hx;have:=IsP.le (p:=p);omega
def Hk (O:ap):Prop:=∀(p:Int) [IsP p] (a:Fp p),a.len≤64→ask O F1t [(D.sl .leaf (aq .i64 (row a)))]=some (D.arr 64 .leaf (aq .u8 (pad (row a))))
theorem ag4 {O:ap} (h:Sj O):Hk O:=fun p i a hl=>h _ (Q7 a) (by simpa using hl)
def Xo (O:ap):Prop:=∀l:List Int,l.length<1000000→ask O F1r [(D.sl .leaf (aq .i64 l))]=some (D.bool (decide (l.length≤64)))
theorem afb (hT:T F1r=some Z1r) (hd:pu (den T A)):Xo (den T A):=by
 intro l hl;have e:=hd l hl;have e2:decide ((l.length:Int)-1≤63)=decide (l.length≤64):=decide_eq_decide.2 (by omega)
 refine ch hT rfl ?_;simp -implicitDefEqProofs [Z1r,Z1r_B,e,e2]
def a7o (l:List Int):D:=if l.length≤64 then .tup [(D.arr 64 .leaf (aq .u8 (pad l))),(D.int .i64 0)] else .tup [(D.arr 64 .leaf (aq .u8 (pad []))),(D.int .i64 3)]
def a00 (O:ap):Prop:=∀l:List Int,je l→l.length<1000000→ask O F1z [(D.sl .leaf (aq .i64 l))]=some (a7o l)
theorem ael (hT:T F1z=some Z1z) (hf:Xo (den T A)) (hp:Sj (den T A)):a00 (den T A):=by
 intro l hb hl;have e:=hf l hl;unfold a7o;refine ch hT rfl ?_
 by_cases h:l.length≤64
 ·have e2:=hp l hb h
  simp -implicitDefEqProofs [Z1z,Z1z_B,e,e2,h,au]
 ·simp -implicitDefEqProofs [Z1z,Z1z_B,e,h,au]
def Bd (O:ap):Prop:=∀(p:Int) [IsP p] (a b:Fp p),b≠0→a.len<5000→b.len<5000 →
 ask O F1i [(D.int .i64 p),(D.sl .leaf (aq .i64 (row a))),(D.sl .leaf (aq .i64 (row b)))]=some (D.sl .leaf (aq .i64 (row (a%b))))
theorem aen (hT:T F1i=some Z1i) (hd:wm (den T A)):Bd (den T A):=by
 intro p i a b hb h1 h2;have e:=hd p a b hb h1 h2;refine ch hT rfl ?_;simp -implicitDefEqProofs [Z1i,Z1i_B,e]
end Pe
namespace Pe
open Go Gq
variable {T:Nat→Option Fn} {A:ap}
section
variable {p:Int} [IsP p]
theorem vm:row (1:Fp p)=[1]:=by
 unfold row;rw [Pol.len_one];show [rep ((1:Fp p).c 0)]=[1];have:(1:Fp p).c 0=1:=rfl;rw [this,C9]
end
section
variable {p:Int}
theorem Gd (u z:Fp p):u+Pol.C (zp p (-1))*z=u-z:=by
 rw [Hd,Bg,Pol.C_neg,Pol.C_one];exact bo [u,z] rfl
end
section
variable {p:Int} [IsP p]
end
def pz (O:ap):Prop:=∀(p:Int) [IsP p] (a b:Fp p),a.len<1000000→b.len<1000000 →
 ask O F13 [(D.int .i64 p),(D.sl .leaf (aq .i64 (row a))),(D.sl .leaf (aq .i64 (row b))),(D.int .i64 (-1))]=some (D.sl .leaf (aq .i64 (row (a-b))))
theorem Xf {O:ap} (h:o5 O):pz O:=fun p i a b h1 h2=>by
 rw [h p (-1) a b (by omega) (by omega) h1 h2,Gd]
def si (O:ap):Prop:=∀(p:Int) [IsP p] (a b:Fp p),a.len<1000000→b.len<1000000 →
 ask O F13 [(D.int .i64 p),(D.sl .leaf (aq .i64 (row a))),(D.sl .leaf (aq .i64 (row b))),(D.int .i64 1)]=some (D.sl .leaf (aq .i64 (row (a+b))))
theorem Wf {O:ap} (h:o5 O):si O:=fun p i a b h1 h2=>by
 rw [h p 1 a b (by omega) (by omega) h1 h2,Bg,Pol.C_one,Gq.one_mul]
section
variable {p:Int} [IsP p]
theorem L5 {A B a b u x v y:Fp p} (h:Pol.BzI A B a b u x v y) (hA:A.len≤2000) (hB:B.len≤2000) (ha:a.len≤2000) (hb:b.len≤2000) (hb0:b≠0) :
 u.len<3000∧v.len<3000∧x.len<3000∧y.len<3000∧(a/b).len<3000∧(a%b).len≤2000∧(a/b*x).len<3000∧(a/b*y).len<3000:=by
 have h1:=h.lu;have h2:=h.lv;have h3:=h.lx;have h4:=h.ly;have h5:=Pol.len_div_le a hb0;have h6:=Pol.len_mod_le a hb0;obtain ⟨h7,h8⟩:=h.qlen hb0;omega
theorem a6s {O:ap} (hd:wm O) (ht:yw O) (hc:pz O) {A B:Fp p} (hA:A.len≤2000) (hB:B.len≤2000):∀(n:Nat) (a b u x v y:Fp p),b.len≤n→a.len≤2000→b.len≤2000→Pol.BzI A B a b u x v y→∃x' y',
 dn O 0 (.loop Z12_L0) ⟨[(0,(.d (.int .i64 p))),(1,(.d (.sl .leaf (aq .i64 (row a))))),(2,(.d (.sl .leaf (aq .i64 (row b))))),(9,(.d (.sl .leaf (aq .i64 (row u))))),(10,(.d (.sl .leaf (aq .i64 (row v))))),(11,(.d (.sl .leaf (aq .i64 (row x))))),(12,(.d (.sl .leaf (aq .i64 (row y)))))],[.hole,.hole]⟩ =
  some (.exit 0,⟨[(0,(.d (.int .i64 p))),(1,(.d (.sl .leaf (aq .i64 (row (Pol.bz n a b u x v y).1))))),(2,(.d (.sl .leaf (aq .i64 ([]))))),(9,(.d (.sl .leaf (aq .i64 (row (Pol.bz n a b u x v y).2.1))))),(10,(.d (.sl .leaf (aq .i64 (row (Pol.bz n a b u x v y).2.2))))),(11,(.d (.sl .leaf (aq .i64 x')))),(12,(.d (.sl .leaf (aq .i64 y')))),(20,(.d (.bool false)))],[.hole,.hole]⟩):=by
 intro n
 induction n with
 | zero=>
  intro a b u x v y hn ha hb hi;obtain rfl:=Pol.len_zero_iff.1 (show b.len=0 by omega)
  exact ⟨row x,row y,cg (by simp -implicitDefEqProofs [Z12_L0,au,row_zero,Pol.bz,iu])⟩
 | succ n ih=>
  intro a b u x v y hn ha hb hi;unfold Pol.bz
  by_cases h0:b=0
  ·subst h0
   rw [if_pos rfl];exact ⟨row x,row y,cg (by simp -implicitDefEqProofs [Z12_L0,au,row_zero,iu])⟩
  ·rw [if_neg h0]
   obtain ⟨s1,s2,s3,s4,s5,s6,s7,s8⟩:=L5 hi hA hB ha hb h0;have hl:=Pol.len_mod a h0;have hp:=Pol.len_pos h0;obtain ⟨x',y',e⟩:=ih b (a%b) x (u-a/b*x) y (v-a/b*y) (by omega) hb s6 (hi.step h0)
   refine ⟨x',y',bq ?_ e⟩;have e1:=hd p a b h0 (by omega) (by omega)
   have e2:=ht p (a/b) x (by omega) (by omega)
   have e3:=hc p u (a/b*x) (by omega) (by omega)
   have e4:=ht p (a/b) y (by omega) (by omega)
   have e5:=hc p v (a/b*y) (by omega) (by omega)
   simp -implicitDefEqProofs [Z12_L0,au,hp,e1,e2,e3,e4,e5]
end
def Ef (O:ap):Prop:=∀(p:Int) [IsP p] (a b:Fp p),(a≠0∨b≠0)→a.len≤2000→b.len≤2000 →
 ask O F12 [(D.int .i64 p),(D.sl .leaf (aq .i64 (row a))),(D.sl .leaf (aq .i64 (row b)))]=some (.tup [(D.sl .leaf (aq .i64 (row (Pol.bezout a b).1))),(D.sl .leaf (aq .i64 (row (Pol.bezout a b).2.1))),(D.sl .leaf (aq .i64 (row (Pol.bezout a b).2.2)))])
theorem wg {p:Int} [IsP p] (x:Zp p) (hx:x≠0):zp p (inv p (rep x))=Fd.inv x:=by
 have h0:=nu x;have h1:rep x≠0:=fun h=>hx (im.1 h)
 have h2:x*zp p (inv p (rep x))=1:=by
  have:zp p (rep x*inv p (rep x))=1:=by rw [←A1,a9f p _ (by omega) h0.2]; rfl
  rwa [Dx,m8] at this
 have h3:=Fd.mul_inv x hx;have:Fd.inv x*(x*zp p (inv p (rep x)))=Fd.inv x*1:=by rw [h2]
 rw [←Gq.mul_assoc,Gq.mul_comm (Fd.inv x),h3,Gq.one_mul,Gq.mul_one] at this;exact this
theorem a9d (hT:T F12=some Z12) (hd:wm (den T A)) (ht:yw (den T A)) (hc:pz (den T A)) (hld:y7 (den T A)) (hinv:rf (den T A)) (hs:uq (den T A)):Ef (den T A):=by
 intro p i a b hab ha hb;have hp:=IsP.ge (p:=p);have hp7:=IsP.le (p:=p)
 -- the end
 have last:∀{x y:Fp p} {a' u v:Fp p},Pol.BzI a b a' 0 u x v y→ask (den T A) F1s [(D.sl .leaf (aq .i64 (row a')))]=some (D.int .i64 (rep a'.ld))∧ask (den T A) F19 [(D.int .i64 p),(D.int .i64 (rep a'.ld))]=some (D.int .i64 (inv p (rep a'.ld))) ∧
  ask (den T A) F1j [(D.int .i64 p),(D.sl .leaf (aq .i64 (row a'))),(D.int .i64 (inv p (rep a'.ld)))]=some (D.sl .leaf (aq .i64 (row (Pol.C (Fd.inv a'.ld)*a'))))∧ask (den T A) F1j [(D.int .i64 p),(D.sl .leaf (aq .i64 (row u))),(D.int .i64 (inv p (rep a'.ld)))]=some (D.sl .leaf (aq .i64 (row (Pol.C (Fd.inv a'.ld)*u))))∧ask (den T A) F1j [(D.int .i64 p),(D.sl .leaf (aq .i64 (row v))),(D.int .i64 (inv p (rep a'.ld)))]=some (D.sl .leaf (aq .i64 (row (Pol.C (Fd.inv a'.ld)*v)))):=by
  intro x y a' u v hi;have ha0:a'≠0:=hi.any.resolve_right (fun h=>h rfl)
  have hr:=nu a'.ld;have hin:=A2 p (rep a'.ld);have h1:=hi.lu;have h2:=hi.lv;rw [Pol.len_zero] at h1 h2
  have hal:a'.len<5000:=by
   have:=Pol.len_add_le (a:=u*a) (b:=v*b) (n:=4500) (by
    by_cases hu:u=0
    ·rw [hu,Gq.zero_mul,Pol.len_zero]; omega
    ·by_cases ha0:a=0
     ·rw [ha0,Gq.mul_zero,Pol.len_zero]; omega
     ·have:=Pol.len_mul hu ha0; omega) (by
    by_cases hu:v=0
    ·rw [hu,Gq.zero_mul,Pol.len_zero]; omega
    ·by_cases ha0:b=0
     ·rw [ha0,Gq.mul_zero,Pol.len_zero]; omega
     ·have:=Pol.len_mul hu ha0; omega)
   rw [hi.one] at this;omega
  have e1:=hld (row a') (by rw [cu]; omega)
  rw [Gl] at e1;have e2:=hinv p (rep a'.ld) (by omega) (by omega) hr.1 hr.2
  have e3:=hs p (inv p (rep a'.ld)) a' (by omega) (by omega) (by omega)
  have e4:=hs p (inv p (rep a'.ld)) u (by omega) (by omega) (by omega)
  have e5:=hs p (inv p (rep a'.ld)) v (by omega) (by omega) (by omega)
  rw [wg _ (Pol.ld_ne ha0)] at e3 e4 e5;exact ⟨e1,e2,e3,e4,e5⟩
 have I0:=Pol.BzI.init (A:=a) (B:=b) hab;refine ch hT rfl ?_;unfold Pol.bezout Pol.eu
 by_cases h0:b=0
 ·subst h0
  have l0:=cg (O:=den T A) (np:=0) (c:=Z12_L0) (s:=⟨[(0,(.d (.int .i64 p))),(1,(.d (.sl .leaf (aq .i64 (row a))))),(2,(.d (.sl .leaf (aq .i64 ([]))))),(9,.sl 0 [] 0 1 (some 1)),(10,(.d (.sl .leaf (aq .i64 ([]))))),(11,(.d (.sl .leaf (aq .i64 ([]))))),(12,.sl 1 [] 0 1 (some 1))],[.sl false .leaf (aq .i64 [1]),.sl false .leaf (aq .i64 [1])]⟩) (s1:=⟨[(0,(.d (.int .i64 p))),(1,(.d (.sl .leaf (aq .i64 (row a))))),(2,(.d (.sl .leaf (aq .i64 ([]))))),(9,.sl 0 [] 0 1 (some 1)),(10,(.d (.sl .leaf (aq .i64 ([]))))),(11,(.d (.sl .leaf (aq .i64 ([]))))),(12,.sl 1 [] 0 1 (some 1)),(20,(.d (.bool false)))],[.sl false .leaf (aq .i64 [1]),.sl false .leaf (aq .i64 [1])]⟩) (id:=0) (by simp -implicitDefEqProofs [Z12_L0,au,iu])
  obtain ⟨e1,e2,e3,e4,e5⟩:=last I0;rw [vm] at e4;rw [row_zero] at e5;rw [iu] at l0 e5;rw [Pol.len_zero];have o1:D.int IntKind.i64 1::[]=aq .i64 [1]:=rfl;simp -implicitDefEqProofs [Z12,Z12_B,row_zero,iu,Pol.bz,e1,e2,e3,e4,e5,l0,o1,List.replicate]
 ·have hp0:=Pol.len_pos h0
  have I1:=I0.step h0;obtain ⟨_,_,_,_,q5,q6,q7,q8⟩:=L5 I0 ha hb ha hb h0;have l0:=hd p a b h0 (by omega) (by omega)
  have l1:=ht p (a/b) 0 (by omega) (by rw [Pol.len_zero]; omega)
  have l2:=ht p (a/b) 1 (by omega) (by rw [Pol.len_one]; omega)
  have l3:=hc p 1 (a/b*0) (by rw [Pol.len_one]; omega) (by omega)
  have l4:=hc p 0 (a/b*1) (by rw [Pol.len_zero]; omega) (by omega)
  rw [vm] at l2 l3;rw [row_zero,iu] at l1 l4
  have st1:dn (den T A) 0 Z12_L0 ⟨[(0,(.d (.int .i64 p))),(1,(.d (.sl .leaf (aq .i64 (row a))))),(2,(.d (.sl .leaf (aq .i64 (row b))))),(9,.sl 0 [] 0 1 (some 1)),(10,.d (.sl .leaf [])),(11,.d (.sl .leaf [])),(12,.sl 1 [] 0 1 (some 1))],[.sl false .leaf (aq .i64 [1]),.sl false .leaf (aq .i64 [1])]⟩ =
   some (.normal,⟨[(0,(.d (.int .i64 p))),(1,(.d (.sl .leaf (aq .i64 (row b))))),(2,(.d (.sl .leaf (aq .i64 (row (a%b)))))),(9,.d (.sl .leaf [])),(10,.sl 1 [] 0 1 (some 1)),(11,(.d (.sl .leaf (aq .i64 (row (1-a/b*0)))))),(12,(.d (.sl .leaf (aq .i64 (row (0-a/b*1))))))],[.hole,.sl true .leaf (aq .i64 [1])]⟩):=by
   simp -implicitDefEqProofs [Z12_L0,au,hp0,l0,l1,l2,l3,l4]
  by_cases h1:a%b=0
  ·have st2:dn (den T A) 0 Z12_L0 ⟨[(0,(.d (.int .i64 p))),(1,(.d (.sl .leaf (aq .i64 (row b))))),(2,(.d (.sl .leaf (aq .i64 (row (a%b)))))),(9,.d (.sl .leaf [])),(10,.sl 1 [] 0 1 (some 1)),(11,(.d (.sl .leaf (aq .i64 (row (1-a/b*0)))))),(12,(.d (.sl .leaf (aq .i64 (row (0-a/b*1))))))],[.hole,.sl true .leaf (aq .i64 [1])]⟩ =
    some (.exit 0,⟨[(0,(.d (.int .i64 p))),(1,(.d (.sl .leaf (aq .i64 (row b))))),(2,(.d (.sl .leaf (aq .i64 (row (a%b)))))),(9,.d (.sl .leaf [])),(10,.sl 1 [] 0 1 (some 1)),(11,(.d (.sl .leaf (aq .i64 (row (1-a/b*0)))))),(12,(.d (.sl .leaf (aq .i64 (row (0-a/b*1)))))),(20,(.d (.bool false)))],[.hole,.sl true .leaf (aq .i64 [1])]⟩):=by
    simp -implicitDefEqProofs [Z12_L0,au,h1,row_zero]
   have lp:=bq st1 (cg st2)
   have hb1:Pol.bz b.len a b 1 0 0 1=(b,0,1):=by
    rw [show b.len=(b.len-1)+1 by omega,Pol.bz,if_neg h0]
    cases hn:b.len-1 with
    | zero=>rfl
    | succ n=>rw [Pol.bz,if_pos h1]
   rw [hb1];have I1':Pol.BzI a b b 0 0 (1-a/b*0) 1 (0-a/b*1):=h1▸I1;obtain ⟨e1,e2,e3,e4,e5⟩:=last I1';rw [vm] at e5;rw [row_zero,iu] at e4;have o1:D.int IntKind.i64 1::[]=aq .i64 [1]:=rfl;simp -implicitDefEqProofs [Z12,Z12_B,e1,e2,e3,e4,e5,lp,o1,List.replicate]
  ·have hp1:=Pol.len_pos h1
   have hl1:=Pol.len_mod a h0;obtain ⟨s1,s2,s3,s4,s5,s6,s7,s8⟩:=L5 I1 ha hb hb (by omega) h1
   have m0:=hd p b (a%b) h1 (by omega) (by omega)
   have m1:=ht p (b/(a%b)) (1-a/b*0) (by omega) (by omega)
   have m2:=ht p (b/(a%b)) (0-a/b*1) (by omega) (by omega)
   have m3:=hc p 0 (b/(a%b)*(1-a/b*0)) (by omega) (by omega)
   have m4:=hc p 1 (b/(a%b)*(0-a/b*1)) (by omega) (by omega)
   rw [vm] at m4;rw [row_zero,iu] at m3
   have st2:dn (den T A) 0 Z12_L0 ⟨[(0,(.d (.int .i64 p))),(1,(.d (.sl .leaf (aq .i64 (row b))))),(2,(.d (.sl .leaf (aq .i64 (row (a%b)))))),(9,.d (.sl .leaf [])),(10,.sl 1 [] 0 1 (some 1)),(11,(.d (.sl .leaf (aq .i64 (row (1-a/b*0)))))),(12,(.d (.sl .leaf (aq .i64 (row (0-a/b*1))))))],[.hole,.sl true .leaf (aq .i64 [1])]⟩ =
    some (.normal,⟨[(0,(.d (.int .i64 p))),(1,(.d (.sl .leaf (aq .i64 (row (a%b)))))),(2,(.d (.sl .leaf (aq .i64 (row (b%(a%b))))))),(9,(.d (.sl .leaf (aq .i64 (row (1-a/b*0)))))),(10,(.d (.sl .leaf (aq .i64 (row (0-a/b*1)))))),(11,(.d (.sl .leaf (aq .i64 (row (0-b/(a%b)*(1-a/b*0))))))),(12,(.d (.sl .leaf (aq .i64 (row (1-b/(a%b)*(0-a/b*1)))))))],[.hole,.hole]⟩):=by
    simp -implicitDefEqProofs [Z12_L0,au,hp1,m0,m1,m2,m3,m4]
   have I2:=I1.step h1;have hl2:=Pol.len_mod b h1;obtain ⟨x',y',e⟩:=a6s hd ht hc ha hb (b.len-2) _ _ _ _ _ _ (by omega) (by omega) (by omega) I2
   have lp:=bq st1 (bq st2 e)
   have hb1:Pol.bz b.len a b 1 0 0 1=Pol.bz (b.len-2) (a%b) (b%(a%b)) (1-a/b*0) (0-b/(a%b)*(1-a/b*0)) (0-a/b*1) (1-b/(a%b)*(0-a/b*1)):=by
    rw [show b.len=(b.len-2+1)+1 by omega,Pol.bz,if_neg h0,Pol.bz,if_neg h1]
    rfl
   rw [hb1];obtain ⟨x2,y2,I3,_,_⟩:=Pol.bz_spec (b.len-2) _ _ _ _ _ _ (by omega) I2
   obtain ⟨e1,e2,e3,e4,e5⟩:=last I3;have o1:D.int IntKind.i64 1::[]=aq .i64 [1]:=rfl;simp -implicitDefEqProofs [Z12,Z12_B,iu,e1,e2,e3,e4,e5,lp,o1,List.replicate]
def a1u (O:ap):Prop:=∀(p:Int) [IsP p] (a b:Fp p),(a≠0∨b≠0)→a.len≤2000→b.len≤2000 →
 ask O F18 [(D.int .i64 p),(D.sl .leaf (aq .i64 (row a))),(D.sl .leaf (aq .i64 (row b)))]=some (D.sl .leaf (aq .i64 (row (Pol.gcd a b))))
theorem ail (hT:T F18=some Z18) (hb:Ef (den T A)):a1u (den T A):=by
 intro p i a b hab h1 h2;have e:=hb p a b hab h1 h2;refine ch hT rfl ?_;simp -implicitDefEqProofs [Z18,Z18_B,e,Pol.gcd]
theorem apx (x:Int) (_h:0≤x):((BitVec.ofInt 64 x &&& 1#64).toNat:Int)=x%2:=by
 rw [BitVec.toNat_and];have e:(1#64).toNat=2^1-1:=rfl;rw [e,Nat.and_two_pow_sub_one_eq_mod,BitVec.toNat_ofInt];omega
theorem aas (x:Int) (h:0≤x):a3l .i64 x 1=x%2:=by
 show IntKind.i64.wrap ((BitVec.ofInt 64 x &&& 1#64).toNat:Int)=_;rw [apx x h,w64 (by omega)]
theorem ab6 (x:Int):A0 .shr .i64 x 1=some (.int .i64 (x/2)):=by
 show (if (1:Int)<0 then none else some (D.int .i64 (x.fdiv (2^min (1:Int).toNat 64))))=_
 rw [if_neg (by omega)]
 congr 2
 show x.fdiv 2=x/2;rw [Int.fdiv_eq_ediv_of_nonneg _ (by omega)]
theorem aax {O:ap} (hr:Bd O) (ht:yw O) {p:Int} [IsP p] {m:Fp p} (hm:m≠0) (hml:m.len<2000):∀(n:Nat) (k:Int) (out base:Fp p),0≤k→k.toNat<2^n→k<4611686018427387904→out.len<m.len→base.len<m.len→∃base':List Int,
 dn O 0 (.loop Z1d_L0) ⟨[(0,(.d (.int .i64 p))),(2,(.d (.int .i64 k))),(3,(.d (.sl .leaf (aq .i64 (row m))))),(9,(.d (.sl .leaf (aq .i64 (row out))))),(10,(.d (.sl .leaf (aq .i64 (row base)))))],[.hole]⟩ =
  some (.exit 0,⟨[(0,(.d (.int .i64 p))),(2,(.d (.int .i64 0))),(3,(.d (.sl .leaf (aq .i64 (row m))))),(9,(.d (.sl .leaf (aq .i64 (row (out*pw base k.toNat%m)))))),(10,(.d (.sl .leaf (aq .i64 base')))),(20,(.d (.bool false)))],[.hole]⟩):=by
 intro n
 induction n with
 | zero=>
  intro k out base hk hn _ ho hb;obtain rfl:k=0:=by simp at hn; omega
  refine ⟨row base,?_⟩
  have e:out*pw base (0:Int).toNat%m=out:=by
   show out*1%m=out;rw [Gq.mul_one,Pol.mod_small ho]
  rw [e];exact cg (by simp -implicitDefEqProofs [Z1d_L0,au])
 | succ n ih=>
  intro k out base hk hn hkm ho hb
  by_cases h0:k=0
  ·subst h0
   refine ⟨row base,?_⟩
   have e:out*pw base (0:Int).toNat%m=out:=by
    show out*1%m=out;rw [Gq.mul_one,Pol.mod_small ho]
   rw [e];exact cg (by simp -implicitDefEqProofs [Z1d_L0,au])
  ·have hkp:0<k:=by omega
   have hlen:∀x y:Fp p,x.len<m.len→y.len<m.len→(x*y).len<5000:=fun x y hx hy=>by
    have:=Pol.len_le (Pol.lt_mul x.lt_len y.lt_len);omega
   have t1:=ht p out base (by omega) (by omega)
   have t2:=ht p base base (by omega) (by omega)
   have r1:=hr p (out*base) m hm (hlen _ _ ho hb) (by omega)
   have r2:=hr p (base*base) m hm (hlen _ _ hb hb) (by omega)
   have s:=Pol.bin_step (out:=out) (base:=base) hm k.toNat (by omega)
   have hdiv:(k/2).toNat=k.toNat/2:=by omega
   obtain ⟨b',e⟩:=ih (k/2) (if k.toNat%2=1 then out*base%m else out) (base*base%m) (by omega) (by rw [rg] at hn; omega) (by omega) (by split; exact Pol.len_mod _ hm; exact ho) (Pol.len_mod _ hm)
   rw [hdiv,s] at e;refine ⟨b',bq ?_ e⟩;have ea:=aas k (by omega)
   have es:=ab6 k
   by_cases hodd:k%2=1
   ·rw [if_pos (show k.toNat%2=1 by omega)]
    simp -implicitDefEqProofs [Z1d_L0,au,hkp,t1,t2,r1,r2,ea,es,hodd]
   ·rw [if_neg (show ¬ k.toNat%2=1 by omega)]
    simp -implicitDefEqProofs [Z1d_L0,au,hkp,t2,r2,ea,es,hodd]
def zz (O:ap):Prop:=∀(p:Int) [IsP p] (a:Fp p) (k:Int) (m:Fp p),m≠0→a.len<5000→m.len<2000→0≤k→k<4611686018427387904 →
 ask O F1d [(D.int .i64 p),(D.sl .leaf (aq .i64 (row a))),(D.int .i64 k),(D.sl .leaf (aq .i64 (row m)))]=some (D.sl .leaf (aq .i64 (row (pw a k.toNat%m))))
theorem aal (hT:T F1d=some Z1d) (hr:Bd (den T A)) (ht:yw (den T A)):zz (den T A):=by
 intro p i a k m hm ha hml hk hkm;have r1:=hr p 1 m hm (by rw [Pol.len_one]; omega) (by omega)
 rw [vm] at r1;have r2:=hr p a m hm (by omega) (by omega)
 obtain ⟨b',e⟩:=aax hr ht hm hml 62 k (1%m) (a%m) hk (by omega) hkm (Pol.len_mod _ hm) (Pol.len_mod _ hm)
 have e2:1%m*pw (a%m) k.toNat%m=pw a k.toNat%m:=by
  rw [Pol.mul_mod_left _ _ hm,Gq.one_mul,Pol.pow_mod _ hm]
 rw [e2] at e;have o1:D.int IntKind.i64 1::[]=aq .i64 [1]:=rfl;refine ch hT rfl ?_;simp -implicitDefEqProofs [Z1d,Z1d_B,r1,r2,e,o1,List.replicate]
def Ib (p most:Int):Nat→Int→Int
 | 0,out=>out
 | n+1,out=>if out > most then out else Ib p most n (out*p)
theorem a98 {O:ap} {p:Int} [IsP p] {most nn:Int} (hmost:most≤1152921504606846976):∀(n:Nat) (i:Int) (out:Int),i+n=nn→-1000000<i→nn<1000000→0≤out→out≤8070450532247928832→∃(i':Int) (b:List (Nat×V)),
 dn O 0 (.loop Z1b_L0) ⟨[(0,(.d (.int .i64 p))),(2,(.d (.int .i64 most))),(7,(.d (.int .i64 out))),(8,(.d (.int .i64 nn))),(9,(.d (.int .i64 i)))],[]⟩ =
  some (.exit 0,⟨[(0,(.d (.int .i64 p))),(2,(.d (.int .i64 most))),(7,(.d (.int .i64 (Ib p most n out)))),(8,(.d (.int .i64 nn))),(9,(.d (.int .i64 i')))]++b,[]⟩)
 | 0,i,out,hi,h1,h2,ho,ho2=>by
  have:i=nn:=by omega
  subst this;exact ⟨i,[(10,(.d (.bool false)))],cg (by simp -implicitDefEqProofs [Z1b_L0,au,Ib])⟩
 | n+1,i,out,hi,h1,h2,ho,ho2=>by
  have hlt:i<nn:=by omega
  have hp:=IsP.le (p:=p);have hp2:=IsP.pos (p:=p)
  by_cases hm:most<out
  ·exact ⟨i,[(13,(.d (.bool true)))],cg (by simp -implicitDefEqProofs [Z1b_L0,au,Ib,hlt,hm])⟩
  ·have hmul:0≤out*p∧out*p≤8070450532247928832:=by
    refine ⟨gy ho (by omega),?_⟩
    have:out*p≤out*7:=du hp ho;omega
   obtain ⟨i',b,e⟩:=a98 (O:=O) (p:=p) (nn:=nn) hmost n (i+1) (out*p) (by omega) (by omega) h2 hmul.1 hmul.2
   have w1:IntKind.i64.wrap (out*p)=out*p:=w64 (by omega)
   have w2:IntKind.i64.wrap (i+1)=i+1:=w64 (by omega)
   refine ⟨i',b,bq (s1:=⟨[(0,(.d (.int .i64 p))),(2,(.d (.int .i64 most))),(7,(.d (.int .i64 (out*p)))),(8,(.d (.int .i64 nn))),(9,(.d (.int .i64 (i+1))))],[]⟩) (by simp -implicitDefEqProofs [Z1b_L0,au,hlt,hm,w1,w2]) ?_⟩
   rw [e,Ib,if_neg (by omega)]
def Ym (O:ap):Prop:=∀(p:Int) [IsP p] (n:Nat) (most:Int),n<1000000→most≤1152921504606846976→ask O F1b [(D.int .i64 p),(D.int .i64 n),(D.int .i64 most)]=some (D.int .i64 (Ib p most n 1))
theorem ae8 (hT:T F1b=some Z1b):Ym (den T A):=by
 intro p i n most hn hm;obtain ⟨i',b,e⟩:=a98 (O:=den T A) (p:=p) (nn:=(n:Int)) hm n 0 1 (by omega) (by omega) (by omega) (by omega) (by omega)
 refine ch hT rfl ?_;simp -implicitDefEqProofs [Z1b,Z1b_B,e]
def dgs (p:Int):Nat→Int→List Int
 | 0,_=>[]
 | f+1,n=>if n≤0 then [] else n%p::dgs p f (n/p)
def pr (p n:Int):Fp p:=fc p (dgs p 64 n)
theorem a1s {p:Int} [IsP p]:∀f n,Can p (dgs p f n)
 | 0,n=>fun x hx=>by simp [dgs] at hx
 | f+1,n=>fun x hx=>by
  unfold dgs at hx
  split at hx
  ·simp at hx
  ·have hp:=IsP.pos (p:=p)
   rcases dt.1 hx with rfl | hx
   ·exact ⟨fm _ (by omega),eh _ hp⟩
   ·exact a1s f _ x hx
theorem O4 {p n:Int} [IsP p] (h:0<n) (h2:n/p=0):n%p≠0:=by
 have h3:=Int.mul_ediv_add_emod n p;rw [h2] at h3;simp at h3;omega
theorem Un {p:Int} [IsP p]:∀(f:Nat) (n:Int),n<2^f→dgs p f n=[]∨cf (dgs p f n) ((dgs p f n).length-1)≠0
 | 0,n,h=>.inl rfl
 | f+1,n,h=>by
  by_cases h0:n≤0
  ·left; simp [dgs,h0]
  ·right
   have hp:=IsP.ge (p:=p)
   have hd:n/p<2^f:=by
    apply m6 (by omega)
    have:(2:Int)^(f+1)=2^f*2:=jz _ _;have h2:(2:Int)^f*2≤2^f*p:=du hp (tp (by omega))
    omega
   have e:dgs p (f+1) n=n%p::dgs p f (n/p):=by simp [dgs,h0]
   rw [e];have hdn:0≤n/p:=sd (by omega) (by omega)
   rcases Un (p:=p) f (n/p) hd with h1 | h1
   ·rw [h1]
    show n%p≠0
    by_cases hz:n/p=0
    ·exact O4 (p:=p) (show 0<n by omega) hz
    ·exfalso
     cases f with
     | zero=>simp at hd; omega
     | succ f=>
      rw [dgs,if_neg (by omega)] at h1
      cases h1
   ·cases hq:dgs p f (n/p) with
    | nil=>rw [hq] at h1; simp [cf] at h1
    | cons a l=>
     rw [hq] at h1
     simpa [cf] using h1
theorem Vn {p:Int} [IsP p] {l:List Int} (h:Can p l) (hl:l=[]∨cf l (l.length-1)≠0):row (fc p l)=l:=by
 rw [←sw h];unfold trim
 have:jn l l.length=l.length:=by
  cases hn:l.length with
  | zero=>rfl
  | succ n=>
   rcases hl with h0 | h0
   ·rw [h0] at hn; simp at hn
   ·rw [hn,Nat.add_sub_cancel] at h0
    rw [jn,if_neg h0]
 rw [this,gq]
theorem Uq {p:Int} [IsP p] {n:Int} (h:n<18446744073709551616):row (pr p n)=dgs p 64 n:=Vn (a1s 64 n) (Un 64 n (by simpa using h))
theorem Lo {O:ap} {p:Int} [IsP p]:∀(f:Nat) (n:Int) (cur:List Int) (cp:Option Nat),0≤n→n<2^f→n<9223372036854775807→cur.length+f<1000→∃cp',
 dn O 0 (.loop Z1c_L0) ⟨[(0,(.d (.int .i64 p))),(1,(.d (.int .i64 n))),(5,.sl 0 [] 0 cur.length cp)],[.sl false .leaf (aq .i64 cur),.hole,.hole]⟩ =
  some (.exit 0,⟨[(0,(.d (.int .i64 p))),(1,(.d (.int .i64 0))),(5,.sl 0 [] 0 (cur++dgs p f n).length cp'),(7,(.d (.bool false)))],[.sl false .leaf (aq .i64 (cur++dgs p f n)),.hole,.hole]⟩)
 | 0,n,cur,cp,h0,hn,hm,hl=>by
  obtain rfl:n=0:=by simp at hn; omega
  refine ⟨cp,?_⟩;rw [dgs,me];exact cg (by simp -implicitDefEqProofs [Z1c_L0,au])
 | f+1,n,cur,cp,h0,hn,hm,hl=>by
  have hp:=IsP.ge (p:=p);have hp7:=IsP.le (p:=p)
  by_cases hz:n=0
  ·subst hz
   refine ⟨cp,?_⟩;rw [dgs,if_pos (xu 0),me];exact cg (by simp -implicitDefEqProofs [Z1c_L0,au])
  ·have hd:n/p<2^f:=by
    apply m6 (by omega)
    have:(2:Int)^(f+1)=2^f*2:=jz _ _;have h2:(2:Int)^f*2≤2^f*p:=du hp (tp (by omega))
    omega
   have hdn:0≤n/p:=sd (by omega) (by omega)
   have hdl:n/p≤n:=Int.ediv_le_self _ h0;obtain ⟨cp',e⟩:=Lo (O:=O) (p:=p) f (n/p) (cur++[n%p]) none hdn hd (by omega) (by simp; omega)
   have hpos:0<n:=by omega
   have w1:IntKind.i64.wrap (n.tdiv p)=n/p:=by rw [Int.tdiv_eq_ediv_of_nonneg h0,w64 (by omega)]
   have w2:n.tmod p=n%p:=dj h0;have hp0:p≠0:=by omega
   have h8:(cur.length+1)*8≤1099511627776:=by omega
   have o1:aq .i64 cur++[D.int .i64 (n%p)]=aq .i64 (cur++[n%p]):=by rw [←Ie]; rfl
   refine ⟨cp',?_⟩;rw [dgs,if_neg (by omega),show cur++n%p::dgs p f (n/p)=(cur++[n%p])++dgs p f (n/p) by simp]
   refine bq ?_ e;simp -implicitDefEqProofs [Z1c_L0,au,hpos,w1,w2,hp0,h8,o1,List.replicate]
def zq (O:ap):Prop:=∀(p:Int) [IsP p] (n:Int),0≤n→n<4611686018427387904→ask O F1c [(D.int .i64 p),(D.int .i64 n)]=some (D.sl .leaf (aq .i64 (row (pr p n))))
theorem Wn (hT:T F1c=some Z1c):zq (den T A):=by
 intro p i n h0 hn;obtain ⟨cp,e⟩:=Lo (O:=den T A) (p:=p) 64 n [] (some 0) h0 (by omega) (by omega) (by simp)
 rw [Uq (by omega)]
 rw [iu,d9] at e;have e0:(([]:List Int).length:Nat)=0:=rfl;rw [e0] at e;refine ch hT rfl ?_;simp -implicitDefEqProofs [Z1c,Z1c_B,e]
end Pe

namespace Gq
section
variable {K:Type} [Fd K]
def Dv (a b:Pol K):Prop:=∃c,b=a*c
theorem Dv.refl (a:Pol K):Dv a a:=⟨1,(mul_one a).symm⟩
theorem Dv.trans {a b c:Pol K} (h:Dv a b) (h':Dv b c):Dv a c:=by
 obtain ⟨x,rfl⟩:=h;obtain ⟨y,rfl⟩:=h';exact ⟨x*y,mul_assoc _ _ _⟩
theorem Dv.zero (a:Pol K):Dv a 0:=⟨0,(mul_zero a).symm⟩
theorem Dv.mul_right {a b:Pol K} (h:Dv a b) (c:Pol K):Dv a (b*c):=h.trans ⟨c,rfl⟩
theorem Dv.mul_left {a b:Pol K} (h:Dv a b) (c:Pol K):Dv a (c*b):=h.trans ⟨c,mul_comm _ _⟩
theorem Dv.add {a b c:Pol K} (h:Dv a b) (h':Dv a c):Dv a (b+c):=by
 obtain ⟨x,rfl⟩:=h;obtain ⟨y,rfl⟩:=h';exact ⟨x+y,(mul_add _ _ _).symm⟩
theorem Dv.neg {a b:Pol K} (h:Dv a b):Dv a (-b):=by
 obtain ⟨x,rfl⟩:=h;exact ⟨-x,(acf _ _).symm⟩
theorem Dv.sub {a b c:Pol K} (h:Dv a b) (h':Dv a c):Dv a (b-c):=by
 rw [sub_eq]; exact h.add h'.neg
theorem Dv.len {a b:Pol K} (h:Dv a b) (hb:b≠0):a.len≤b.len:=by
 obtain ⟨x,rfl⟩:=h;have ha:a≠0:=fun h=>hb (by rw [h,zero_mul])
 have hx:x≠0:=fun h=>hb (by rw [h,mul_zero])
 have:=Pol.len_mul ha hx;have:=Pol.len_pos hx;omega
theorem zf {a m:Pol K} (hm:m≠0):Dv m a↔a%m=0:=by
 constructor
 ·rintro ⟨c,rfl⟩
  rw [mul_comm];exact Pol.mod_self_mul c hm
 ·intro h
  have:=Pol.div_mod a m;rw [h,add_zero,mul_comm] at this;exact ⟨_,this⟩
theorem pa {a m:Pol K}:Dv m a↔Quo.mk m a=0:=by
 rw [←Quo.mk_zero,Quo.eq];constructor
 ·rintro ⟨c,h⟩; exact ⟨c,by rw [zero_add,h]⟩
 ·rintro ⟨c,h⟩; exact ⟨c,by rw [h,zero_add]⟩
theorem qh {a:Pol K} (h:a.len=1):∃k:K,k≠0∧a=Pol.C k:=by
 have e:=Pol.eq_C (Pol.lt_iff.2 (show a.len≤1 by omega))
 refine ⟨a.c 0,fun h0=>?_,e⟩
 rw [h0,Pol.C_zero] at e;rw [e,Pol.len_zero] at h;omega
theorem a7g {k:K} (h:k≠0):Pol.C k*Pol.C (Fd.inv k)=1:=by rw [←Pol.C_mul,Fd.mul_inv k h,Pol.C_one]
theorem Dv.Cmul {a b:Pol K} {k:K} (hk:k≠0):Dv (Pol.C k*a) b↔Dv a b:=by
 constructor
 ·rintro ⟨c,h⟩
  exact ⟨Pol.C k*c,by rw [h]; exact bo [Pol.C k,a,c] rfl⟩
 ·rintro ⟨c,h⟩
  refine ⟨Pol.C (Fd.inv k)*c,?_⟩;have:Pol.C k*a*(Pol.C (Fd.inv k)*c)=(Pol.C k*Pol.C (Fd.inv k))*(a*c):=bo [Pol.C k,a,Pol.C (Fd.inv k),c] rfl;rw [this,a7g hk,one_mul,h]
def Monic (a:Pol K):Prop:=a.ld=1∧a≠0
theorem Monic.mul {a b:Pol K} (ha:Monic a) (hb:Monic b):Monic (a*b):=⟨by rw [Pol.ld_mul ha.2 hb.2,ha.1,hb.1,mul_one],Pol.mul_ne ha.2 hb.2⟩
theorem Monic.one:Monic (1:Pol K):=⟨Pol.ld_one,Pol.one_ne⟩
theorem Pol.ld_C {k:K} (h:k≠0):(C k).ld=k:=by unfold ld; rw [len_C h]; rfl
theorem Monic.eq_one {a:Pol K} (h:Monic a) (hl:a.len=1):a=1:=by
 obtain ⟨k,hk,rfl⟩:=qh hl;have:=h.1;rw [Pol.ld_C hk] at this;rw [this,Pol.C_one]
theorem Monic.antisymm {a b:Pol K} (ha:Monic a) (hb:Monic b) (h:Dv a b) (h':Dv b a):a=b:=by
 obtain ⟨x,rfl⟩:=h;have h1:=h'.len ha.2;have hx:x≠0:=fun h=>hb.2 (by rw [h,mul_zero])
 have h2:=Pol.len_mul ha.2 hx;have h3:=Pol.len_pos hx;obtain ⟨k,hk,rfl⟩:=qh (show x.len=1 by omega)
 have h4:=hb.1;rw [Pol.ld_mul ha.2 hx,ha.1,one_mul,Pol.ld_C hk] at h4;rw [h4,Pol.C_one,mul_one]
noncomputable def mon (a:Pol K):Pol K:=Pol.C (Fd.inv a.ld)*a
theorem pf {a:Pol K} (h:a≠0):Monic (mon a):=by
 have h1:=Fd.inv_ne (Pol.ld_ne h);refine ⟨?_,Pol.mul_ne (Pol.C_ne h1) h⟩;unfold mon;rw [Pol.ld_mul (Pol.C_ne h1) h,Pol.ld_C h1,mul_comm,Fd.mul_inv _ (Pol.ld_ne h)]
theorem Di {a b:Pol K} (h:a≠0):Dv (mon a) b↔Dv a b:=Dv.Cmul (Fd.inv_ne (Pol.ld_ne h))
theorem uj {a:Pol K} (h:a≠0):(mon a).len=a.len:=Pol.len_Cmul (Fd.inv_ne (Pol.ld_ne h)) a
theorem Wx {a:Pol K} (h:a≠0):a=Pol.C a.ld*mon a:=by
 unfold mon;rw [←mul_assoc,a7g (Pol.ld_ne h),one_mul]
theorem Pol.eu_spec {a b:Pol K} (h:a≠0∨b≠0):(eu a b).1≠0∧Dv (eu a b).1 a∧Dv (eu a b).1 b∧(eu a b).2.1*a+(eu a b).2.2*b=(eu a b).1:=by
 obtain ⟨x,y,h1,⟨s,h2⟩,⟨t,h3⟩⟩:=bz_spec b.len a b 1 0 0 1 (bp _) (BzI.init h);exact ⟨h1.any.resolve_right fun h=>h rfl,⟨s,by rw [mul_comm]; exact h2⟩,⟨t,by rw [mul_comm]; exact h3⟩,h1.one⟩
theorem Pol.gcd_monic {a b:Pol K} (h:a≠0∨b≠0):Monic (gcd a b):=pf (eu_spec h).1
theorem Pol.gcd_dv_left {a b:Pol K} (h:a≠0∨b≠0):Dv (gcd a b) a:=(Di (eu_spec h).1).2 (eu_spec h).2.1
theorem Pol.gcd_dv_right {a b:Pol K} (h:a≠0∨b≠0):Dv (gcd a b) b:=(Di (eu_spec h).1).2 (eu_spec h).2.2.1
theorem Pol.bezout_eq {a b:Pol K} (h:a≠0∨b≠0):(bezout a b).2.1*a+(bezout a b).2.2*b=gcd a b:=by
 have e:=(eu_spec h).2.2.2;show C (Fd.inv (eu a b).1.ld)*(eu a b).2.1*a+C (Fd.inv (eu a b).1.ld)*(eu a b).2.2*b=C (Fd.inv (eu a b).1.ld)*(eu a b).1;generalize C (Fd.inv (eu a b).1.ld)=k;generalize (eu a b).2.1=u at *;generalize (eu a b).2.2=v at *;rw [←e];exact bo [k,u,a,v,b] rfl
theorem Pol.dv_gcd {a b c:Pol K} (h:a≠0∨b≠0) (ha:Dv c a) (hb:Dv c b):Dv c (gcd a b):=by
 rw [←bezout_eq h];exact (ha.mul_left _).add (hb.mul_left _)
structure Irr (q:Pol K):Prop where
 len:2≤q.len
 no:∀u v,q=u*v→u.len=1∨v.len=1
theorem Irr.ne {q:Pol K} (h:Irr q):q≠0:=fun h0=>by have:=h.len; rw [h0,Pol.len_zero] at this; omega
theorem Irr.dv {q u:Pol K} (h:Irr q) (hd:Dv u q):u.len=1∨u.len=q.len:=by
 obtain ⟨v,hv⟩:=hd;have hu:u≠0:=fun h0=>h.ne (by rw [hv,h0,zero_mul])
 have hv0:v≠0:=fun h0=>h.ne (by rw [hv,h0,mul_zero])
 have l:=Pol.len_mul hu hv0;rw [←hv] at l;rcases h.no u v hv with h1 | h1
 ·exact .inl h1
 ·right; omega
theorem Irr.coprime {q a:Pol K} (h:Irr q) (hn:¬ Dv q a):∃u v,u*q+v*a=1:=by
 have h0:q≠0∨a≠0:=.inl h.ne;have e:=Pol.bezout_eq h0;have d1:=Pol.gcd_dv_left h0;have d2:=Pol.gcd_dv_right h0;have m:=Pol.gcd_monic h0;rcases h.dv d1 with h1 | h1
 ·rw [m.eq_one h1] at e
  exact ⟨_,_,e⟩
 ·exfalso
  obtain ⟨c,hc⟩:=d1;have hc0:c≠0:=fun h0=>h.ne (by rw [hc,h0,mul_zero])
  have l:=Pol.len_mul m.2 hc0;rw [←hc] at l;obtain ⟨k,hk,rfl⟩:=qh (show c.len=1 by omega)
  apply hn;rw [hc,mul_comm];exact (Dv.Cmul hk).2 d2
theorem Irr.prime {q a b:Pol K} (h:Irr q) (hd:Dv q (a*b)):Dv q a∨Dv q b:=by
 by_cases ha:Dv q a
 ·exact .inl ha
 ·obtain ⟨u,v,e⟩:=h.coprime ha
  right
  have:b=u*b*q+v*(a*b):=by
   have e2:u*b*q+v*(a*b)=(u*q+v*a)*b:=bo [u,b,q,v,a] rfl;rw [e2,e,one_mul]
  rw [this];exact ((Dv.refl q).mul_left _).add (hd.mul_left _)
theorem Irr.of_dv {q:Pol K} (hl:2≤q.len) (h:∀u,Dv u q→u.len=1∨u.len=q.len):Irr q:=⟨hl,fun u v e=>by
 have hq:q≠0:=fun h0=>by rw [h0,Pol.len_zero] at hl; omega
 have hu:u≠0:=fun h0=>hq (by rw [e,h0,zero_mul])
 have hv0:v≠0:=fun h0=>hq (by rw [e,h0,mul_zero])
 have l:=Pol.len_mul hu hv0;rw [←e] at l;rcases h u ⟨v,e⟩ with h1 | h1
 ·exact .inl h1
 ·right; omega⟩
theorem Irr.mon {q:Pol K} (h:Irr q):Irr (mon q):=Irr.of_dv (by rw [uj h.ne]; exact h.len) fun u hu=>by
 rw [uj h.ne];apply h.dv;refine hu.trans ?_;rw [Di h.ne];exact .refl q
theorem Gv:∀(n:Nat) (a:Pol K),a.len≤n→2≤a.len→∃q,Irr q∧Monic q∧Dv q a
 | 0,a,h,h2=>by omega
 | n+1,a,h,h2=>by
  have ha:a≠0:=fun h0=>by rw [h0,Pol.len_zero] at h2; omega
  by_cases hi:Irr a
  ·exact ⟨Gq.mon a,hi.mon,pf ha,(Di ha).2 (.refl a)⟩
  ·have:∃u,Dv u a∧u.len≠1∧u.len≠a.len:=fa fun hx=>hi (Irr.of_dv h2 fun u hu=>fa fun hy=>hx ⟨u,hu,by omega,by omega⟩)
   obtain ⟨u,hu,h3,h4⟩:=this;have h5:=hu.len ha
   have hu0:u≠0:=fun h0=>by
    obtain ⟨c,hc⟩:=hu;exact ha (by rw [hc,h0,zero_mul])
   have h6:=Pol.len_pos hu0;obtain ⟨q,h7,h8,h9⟩:=Gv n u (by omega) (by omega)
   exact ⟨q,h7,h8,h9.trans hu⟩
theorem Irr.eq_of_dv {q r:Pol K} (hq:Irr q) (hr:Irr r) (mq:Monic q) (mr:Monic r) (h:Dv q r):q=r:=by
 refine mq.antisymm mr h ?_;rcases hr.dv h with h1 | h1
 ·have:=hq.len; omega
 ·obtain ⟨c,rfl⟩:=h
  have hc:c≠0:=fun h0=>mr.2 (by rw [h0,mul_zero])
  have l:=Pol.len_mul mq.2 hc;obtain ⟨k,hk,rfl⟩:=qh (show c.len=1 by omega)
  rw [mul_comm];exact (Dv.Cmul hk).2 (.refl q)
theorem Quo.ex {R:Type} [CR R] {m:R} (x:Quo m):∃a,x=Quo.mk m a:=Quo.ind (P:=fun x=>∃a,x=Quo.mk m a) (fun a=>⟨a,rfl⟩) x
theorem Irr.quo_zero {q:Pol K} (h:Irr q) {x y:Quo q} (e:x*y=0):x=0∨y=0:=by
 obtain ⟨a,rfl⟩:=Quo.ex x;obtain ⟨b,rfl⟩:=Quo.ex y;rw [←Quo.mk_mul,←pa] at e;rw [←pa,←pa];exact h.prime e
theorem Irr.quo_inv {q:Pol K} (h:Irr q) {x:Quo q} (hx:x≠0):∃y,x*y=1:=by
 obtain ⟨a,rfl⟩:=Quo.ex x;obtain ⟨u,v,e⟩:=h.coprime fun hd=>hx (pa.1 hd)
 refine ⟨Quo.mk q v,?_⟩;rw [←Quo.mk_mul,←Quo.mk_one,Quo.eq];refine ⟨-u,?_⟩;rw [←e];exact bo [a,v,u,q] rfl
open Classical in
noncomputable abbrev ada {q:Pol K} (h:Irr q):Fd (Quo q) where
 one_ne:=fun e=>by
  have:=pa.2 e;have h1:=this.len Pol.one_ne;have:=h.len;rw [Pol.len_one] at h1;omega
 inv:=fun x=>if hx:x=0 then 0 else Classical.choose (h.quo_inv hx)
 mul_inv:=fun x hx=>by rw [dif_neg hx]; exact ew (h.quo_inv hx)
end
def rj {R:Type} [CR R]:List R→R
 | []=>1
 | x::l=>x*rj l
theorem My {R:Type} [CR R] {l m:List R} (h:l.Perm m):rj l=rj m:=by
 induction h with
 | nil=>rfl
 | cons x _ ih=>rw [rj,rj,ih]
 | swap x y l=>rw [rj,rj,rj,rj,mul_left_comm]
 | trans _ _ h1 h2=>exact h1.trans h2
theorem Qe {R:Type} [CR R] (x:R):∀l:List R,rj (l.map (x * ·))=pw x l.length*rj l
 | []=>(one_mul _).symm
 | y::l=>by
  rw [fu,rj,Qe x l,rj,b9,pw];exact bo [x,y,pw x l.length,rj l] rfl
theorem Io {α:Type} [DecidableEq α]:∀{l m:List α},l.Nodup→(∀x∈l,x∈m)→m.length=l.length→l.Perm m
 | [],m,_,_,hl=>by
  obtain rfl:=v4 (by simpa using hl)
  exact .nil
 | x::l,m,hn,hs,hl=>by
  have hx:x∈m:=hs x (by simp)
  obtain ⟨h1,h2⟩:=mf.1 hn;have p:=List.perm_cons_erase hx;refine (List.Perm.cons x (Io h2 (fun y hy=>?_) ?_)).trans p.symm
  ·have hne:y≠x:=fun e=>h1 (e▸hy)
   exact (List.mem_erase_of_ne hne).2 (hs y (by simp [hy]))
  ·rw [List.length_erase_of_mem hx]; simp at hl; omega
theorem a71 {R:Type} [CR R] [DecidableEq R] {l:List R} (hn:l.Nodup) (hc:∀x y:R,x*y=0→x=0∨y=0) (h1:(1:R)≠0) (hl:∀x,x∈l↔x≠0) {x:R} (hx:x≠0):pw x l.length=1:=by
 have hcan:∀y z:R,x*y=x*z→y=z:=fun y z e=>by
  have:x*(y-z)=0:=by
   have e2:x*(y-z)=x*y-x*z:=bo [x,y,z] rfl;rw [e2,e,sub_self]
  exact t6 ((hc _ _ this).resolve_left hx)
 have hp:(l.map (x * ·)).Perm l:=by
  refine Io ?_ (fun y hy=>?_) (by simp)
  ·unfold List.Nodup at hn ⊢
   rw [po];exact hn.imp fun hab e=>hab (hcan _ _ e)
  ·obtain ⟨z,hz,rfl⟩:=ct.1 hy
   exact (hl _).2 fun e=>((hc _ _ e).elim hx) ((hl z).1 hz)
 have hprod:rj l≠0:=by
  have:∀m:List R,(∀z∈m,z≠0)→rj m≠0:=by
   intro m
   induction m with
   | nil=>exact fun _=>h1
   | cons z m ih=>exact fun hm e=>((hc _ _ e).elim (hm z (by simp))) (ih fun y hy=>hm y (by simp [hy]))
  exact this l fun z hz=>(hl z).1 hz
 have e:=My hp;rw [Qe] at e
 have e2:rj l*(pw x l.length-1)=0:=by
  have e3:rj l*(pw x l.length-1)=pw x l.length*rj l-rj l:=bo [rj l,pw x l.length] rfl;rw [e3,e,sub_self]
 exact t6 ((hc _ _ e2).resolve_left hprod)
section
variable {K:Type} [CR K]
def jv (f:Nat→K):Nat→K
 | 0=>0
 | n+1=>jv f n+f n
noncomputable def Pol.val (a:Pol K) (x:K):K:=jv (fun i=>a.c i*pw x i) a.len
theorem Mo (f g:Nat→K):∀n,jv (fun i=>f i+g i) n=jv f n+jv g n
 | 0=>(add_zero _).symm
 | n+1=>by rw [jv,Mo f g n,jv,jv]; exact bo [jv f n,jv g n,f n,g n] rfl
theorem Md (k:K) (f:Nat→K):∀n,jv (fun i=>k*f i) n=k*jv f n
 | 0=>(mul_zero _).symm
 | n+1=>by rw [jv,Md k f n,jv,mul_add]
theorem a2f (x:K):∀n,∃g:Nat→K,(∀i,n≤i→g i=0)∧(∀k,n=k+1→g k=1)∧∀y,pw y n-pw x n=(y-x)*jv (fun i=>g i*pw y i) n:=by
 intro n
 induction n with
 | zero=>exact ⟨fun _=>0,fun _ _=>rfl,fun k h=>by omega,fun y=>by show (1:K)-1=(y-x)*0; rw [mul_zero,sub_self]⟩
 | succ n ih=>
  obtain ⟨g,h1,h2,h3⟩:=ih;refine ⟨fun i=>if i=n then 1 else x*g i,fun i hi=>?_,fun k hk=>?_,fun y=>?_⟩
  ·dsimp only; rw [if_neg (by omega),h1 i (by omega),mul_zero]
  ·dsimp only; rw [if_pos (by omega)]
  ·rw [jv]; dsimp only; rw [if_pos rfl,one_mul]
   have e:jv (fun i=>(if i=n then 1 else x*g i)*pw y i) n=x*jv (fun i=>g i*pw y i) n:=by
    rw [←Md]
    have:∀m,m≤n→jv (fun i=>(if i=n then 1 else x*g i)*pw y i) m=jv (fun i=>x*(g i*pw y i)) m:=by
     intro m
     induction m with
     | zero=>intro _; rfl
     | succ m ihm=>intro hm; rw [jv,jv,ihm (by omega),if_neg (by omega),mul_assoc]
    exact this n (bp n)
   rw [e,pw,pw];have e2:(y-x)*(x*jv (fun i=>g i*pw y i) n+pw y n)=x*((y-x)*jv (fun i=>g i*pw y i) n)+(y-x)*pw y n:=bo [y,x,jv (fun i=>g i*pw y i) n,pw y n] rfl
   rw [e2,←h3 y];exact bo [pw y n,y,pw x n,x] rfl
theorem Wi (f:Nat→K) (x:K):∀n,∃g:Nat→K,(∀i,n≤i+1→g i=0)∧(∀k,n=k+2→g k=f (k+1))∧∀y,jv (fun i=>f i*pw y i) n-jv (fun i=>f i*pw x i) n=(y-x)*jv (fun i=>g i*pw y i) n:=by
 intro n
 induction n with
 | zero=>exact ⟨fun _=>0,fun _ _=>rfl,fun k h=>by omega,fun y=>by show (0:K)-0=(y-x)*0; rw [mul_zero,sub_self]⟩
 | succ n ih=>
  obtain ⟨g,h1,h2,h3⟩:=ih;obtain ⟨g',h1',h2',h3'⟩:=a2f x n;refine ⟨fun i=>g i+f n*g' i,fun i hi=>?_,fun k hk=>?_,fun y=>?_⟩
  ·dsimp only; rw [h1 i (by omega),h1' i (by omega),mul_zero,add_zero]
  ·obtain rfl:k+1=n:=by omega
   dsimp only; rw [h1 k (by omega),h2' k rfl,mul_one,zero_add]
  ·rw [jv,jv,jv]
   have e0:g n+f n*g' n=0:=by rw [h1 n (by omega),h1' n (by omega),mul_zero,add_zero]
   dsimp only
   rw [e0,zero_mul,add_zero]
   have e:jv (fun i=>(g i+f n*g' i)*pw y i) n=jv (fun i=>g i*pw y i) n+f n*jv (fun i=>g' i*pw y i) n:=by
    rw [←Md,←Mo]
    congr 1
    funext i
    exact bo [g i,f n,g' i,pw y i] rfl
   rw [e];have e2:(y-x)*(jv (fun i=>g i*pw y i) n+f n*jv (fun i=>g' i*pw y i) n)=(y-x)*jv (fun i=>g i*pw y i) n+f n*((y-x)*jv (fun i=>g' i*pw y i) n):=bo [y,x,jv (fun i=>g i*pw y i) n,f n,jv (fun i=>g' i*pw y i) n] rfl
   rw [e2,←h3 y,←h3' y];exact bo [jv (fun i=>f i*pw y i) n,f n,pw y n,jv (fun i=>f i*pw x i) n,pw x n] rfl
theorem Vy (hc:∀x y:K,x*y=0→x=0∨y=0):∀(n:Nat) (f:Nat→K) (l:List K),f n≠0→l.Nodup→(∀y∈l,jv (fun i=>f i*pw y i) (n+1)=0)→l.length≤n
 | n,f,[],_,_,_=>mu n
 | 0,f,x::l,hf,_,hr=>by
  have:=hr x (by simp)
  have e:jv (fun i=>f i*pw x i) (0+1)=f 0:=by show 0+f 0*1=f 0; rw [zero_add,mul_one]
  rw [e] at this;exact absurd this hf
 | n+1,f,x::l,hf,hn,hr=>by
  obtain ⟨g,h1,h2,h5⟩:=Wi f x (n+2);have hx:=hr x (by simp)
  obtain ⟨h3,h4⟩:=mf.1 hn;have hg0:g n≠0:=by rw [h2 n rfl]; exact hf
  have hg:∀y,jv (fun i=>f i*pw y i) (n+2)=(y-x)*jv (fun i=>g i*pw y i) (n+1):=fun y=>by
   have:=h5 y;rw [hx] at this
   have e:jv (fun i=>g i*pw y i) (n+2)=jv (fun i=>g i*pw y i) (n+1):=by
    show jv (fun i=>g i*pw y i) (n+1)+g (n+1)*pw y (n+1)=_
    rw [h1 (n+1) (by omega),zero_mul,add_zero]
   rw [e] at this;rw [←this];exact bo [jv (fun i=>f i*pw y i) (n+2)] rfl
  have:=Vy hc n g l hg0 h4 fun y hy=>by
   have e:=hr y (by simp [hy])
   rw [hg y] at e;refine (hc _ _ e).resolve_left fun h0=>h3 ?_
   rw [←t6 h0]; exact hy
  simp; omega
end
end Gq

namespace Pe
open Go Gq
section
variable {p:Int} [IsP p]
end
section
variable {p:Int}
theorem qp (h:1≤p) {a b:Nat} (hab:a≤b):p^a≤p^b:=by
 obtain ⟨k,rfl⟩:=ja hab;rw [Int.pow_add];have h1:1≤p^k:=Int.pow_pos (n:=p) (m:=k) (by omega)
 have h2:0≤p^a:=tp (by omega)
 have:=du h1 h2;omega
end
section
variable {p:Int} [IsP p]
def vl (p:Int):List Int→Int
 | []=>0
 | d::l=>d+p*vl p l
theorem a1p:∀{l:List Int},Can p l→0≤vl p l∧vl p l<p^l.length
 | [],_=>by simp [vl]
 | d::l,h=>by
  have hp:=IsP.pos (p:=p);obtain ⟨h1,h2⟩:=a1p (l:=l) fun x hx=>h x (by simp [hx])
  have h3:=h d (by simp)
  have h4:0≤p*vl p l:=gy (by omega) h1
  have h5:p*vl p l≤p*(p^l.length-1):=du (by omega) (by omega)
  rw [Int.mul_sub,tf] at h5;rw [b9,jz,ku (p^l.length),vl];omega
theorem a9z:∀{l:List Int},Can p l→∀i,cf l i=vl p l/p^i%p
 | [],_,i=>by simp [vl,cf]
 | d::l,h,0=>by
  have h3:=h d (by simp)
  show d=(d+p*vl p l)/p^0%p;rw [Int.pow_zero,Int.ediv_one,qk,my h3.1 h3.2]
 | d::l,h,i+1=>by
  have hp:=IsP.pos (p:=p);have h3:=h d (by simp)
  have e:cf (d::l) (i+1)=cf l i:=by simp [cf]
  rw [e,a9z (l:=l) fun x hx=>h x (by simp [hx]),vl,jz,ku (p^i),←Int.ediv_ediv_of_nonneg (by omega),Int.add_mul_ediv_left _ _ (by omega),tv h3.1 h3.2,Int.zero_add]
theorem a9s:∀(f:Nat) (n:Int),0≤n→n<2^f→∀i,cf (dgs p f n) i=n/p^i%p
 | 0,n,h0,hn,i=>by
  obtain rfl:n=0:=by simp at hn; omega
  simp [dgs,cf]
 | f+1,n,h0,hn,i=>by
  have hp:=IsP.ge (p:=p);unfold dgs
  split
  ·obtain rfl:n=0:=by omega
   simp [cf]
  ·have hd:n/p<2^f:=by
    apply m6 (by omega)
    have:(2:Int)^(f+1)=2^f*2:=jz _ _;have h2:(2:Int)^f*2≤2^f*p:=du hp (tp (by omega))
    omega
   cases i with
   | zero=>show n%p=n/p^0%p; rw [Int.pow_zero,Int.ediv_one]
   | succ i=>
    have e:cf (n%p::dgs p f (n/p)) (i+1)=cf (dgs p f (n/p)) i:=by simp [cf]
    rw [e,a9s f _ (sd h0 (by omega)) hd,jz,ku (p^i),←Int.ediv_ediv_of_nonneg (by omega)]
abbrev Ez (n:Int):Prop:=0≤n∧n<18446744073709551616
theorem T4 {n:Int} (h:Ez n) (i:Nat):(pr p n).c i=zp p (n/p^i):=by
 unfold pr;rw [jw,a9s 64 n h.1 (by simpa using h.2),A1]
noncomputable def gt (a:Fp p):Int:=vl p (row a)
theorem Ge (a:Fp p):0≤gt a∧gt a<p^a.len:=by
 have:=a1p (km a)
 rwa [cu] at this
theorem N0 {a:Fp p} (h:gt a<18446744073709551616):pr p (gt a)=a:=Pol.ext fun i=>by
 rw [T4 ⟨(Ge a).1,h⟩];have:=a9z (km a) i;rw [jc] at this;rw [←A1,show gt a/p^i%p=rep (a.c i) from this.symm,m8]
theorem a8x:∀(f:Nat) (n:Int),0≤n→n<2^f→vl p (dgs p f n)=n
 | 0,n,h0,hn=>by
  obtain rfl:n=0:=by simp at hn; omega
  rfl
 | f+1,n,h0,hn=>by
  have hp:=IsP.ge (p:=p);unfold dgs
  split
  ·show (0:Int)=n; omega
  ·have hd:n/p<2^f:=by
    apply m6 (by omega)
    have:(2:Int)^(f+1)=2^f*2:=jz _ _;have h2:(2:Int)^f*2≤2^f*p:=du hp (tp (by omega))
    omega
   rw [vl,a8x f _ (sd h0 (by omega)) hd]
   exact Int.emod_add_mul_ediv n p
theorem A5 {n:Int} (h:Ez n):gt (pr p n)=n:=by
 unfold gt;rw [Uq h.2,a8x 64 n h.1 (by simpa using h.2)]
theorem V2 {n m:Int} (hn:Ez n) (hm:Ez m) (h:pr p n=pr p m):n=m:=by rw [←A5 (p:=p) hn,h,A5 hm]
theorem J5 {n:Int} (h:Ez n) {d:Nat} (hd:n<p^d):(pr p n).lt d:=fun i hi=>by
 have hp:=IsP.pos (p:=p);rw [T4 h,tv h.1 (Int.lt_of_lt_of_le hd (qp (by omega) hi)),Cs]
theorem a22 (d:Nat):((p.toNat^d:Nat):Int)=p^d:=by
 have hp:=IsP.pos (p:=p);rw [Int.natCast_pow,Int.toNat_of_nonneg (by omega)]
theorem Og:pr p 0=0:=Pol.ext fun i=>by rw [T4 ⟨by omega,by omega⟩,Int.zero_ediv,Cs]; rfl
def Dg (q:Fp p) (d:Nat):List (Quo q):=(List.range (p.toNat^d-1)).map fun (n:Nat)=>Quo.mk q (pr p (n+1))
theorem yh (d:Nat):0<p.toNat^d:=Nat.pow_pos (by have:=IsP.pos (p:=p); omega)
theorem Ew {q:Fp p} {d:Nat} (hq:q.len=d+1) (hd:p^d<1000000000000):(Dg q d).Nodup:=by
 unfold Dg List.Nodup;rw [po];refine List.Pairwise.imp_of_mem ?_ (List.pairwise_lt_range (n:=p.toNat^d-1));intro a b ha hb hab e;rw [qj] at ha hb;have hc:=a22 (p:=p) d;have hpos:=yh (p:=p) d;have h1:Ez ((a:Int)+1):=⟨by omega,by omega⟩
 have h2:Ez ((b:Int)+1):=⟨by omega,by omega⟩
 have hq0:q≠0:=fun h0=>by rw [h0,Pol.len_zero] at hq; omega
 have l1:=Pol.len_le (J5 (p:=p) h1 (d:=d) (by omega))
 have l2:=Pol.len_le (J5 (p:=p) h2 (d:=d) (by omega))
 rw [←Pol.mod_eq_iff hq0,Pol.mod_small (by omega),Pol.mod_small (by omega)] at e
 have:=V2 h1 h2 e;omega
theorem Lk {q:Fp p} {d:Nat} (hq:q.len=d+1) (hd:p^d<1000000000000) (x:Quo q):x∈Dg q d↔x≠0:=by
 have hc:=a22 (p:=p) d;have hpos:=yh (p:=p) d;have hq0:q≠0:=fun h0=>by rw [h0,Pol.len_zero] at hq; omega
 constructor
 ·intro h e
  obtain ⟨n,hn,rfl⟩:=ct.1 h;rw [qj] at hn;have h1:Ez ((n:Int)+1):=⟨by omega,by omega⟩
  have l1:=Pol.len_le (J5 (p:=p) h1 (d:=d) (by omega))
  rw [←Quo.mk_zero,←Pol.mod_eq_iff hq0,Pol.mod_small (by omega),Pol.zero_mod hq0,←Og] at e
  have:=V2 h1 ⟨by omega,by omega⟩ e
  omega
 ·intro h
  obtain ⟨a,rfl⟩:=Quo.ex x;have hl:=Pol.len_mod a hq0;rw [←Pol.mk_mod] at h ⊢;have hin:=Ge (a%q);have hle:p^(a%q).len≤p^d:=qp (by have:=IsP.pos (p:=p); omega) (by omega)
  have e:=N0 (a:=a%q) (by omega)
  have hne:gt (a%q)≠0:=fun h0=>by
   rw [h0,Og] at e;exact h (by rw [←e,Quo.mk_zero])
  refine ct.2 ⟨(gt (a%q)).toNat-1,?_,?_⟩
  ·rw [qj]; omega
  ·rw [show (((gt (a%q)).toNat-1:Nat):Int)+1=gt (a%q) by omega,e]
theorem afy {q:Fp p} (hi:Irr q) {d:Nat} (hq:q.len=d+1) (hd:p^d<1000000000000) {x:Quo q} (hx:x≠0):pw x (p.toNat^d-1)=1:=by
 classical
 have h1:(1:Quo q)≠0:=(ada hi).one_ne;have:=a71 (Ew hq hd) (fun x y e=>hi.quo_zero e) h1 (Lk hq hd) hx
 rwa [Dg,ab,ji] at this
theorem L6 {q:Fp p} (hi:Irr q) {d:Nat} (hq:q.len=d+1) (hd:p^d<1000000000000) (x:Quo q):pw x (p.toNat^d)=x:=by
 have hpos:=yh (p:=p) d
 by_cases hx:x=0
 ·rw [hx]
  cases hn:p.toNat^d with
  | zero=>omega
  | succ n=>rw [pw,Gq.mul_zero]
 ·have:=afy hi hq hd hx
  have e:p.toNat^d=(p.toNat^d-1)+1:=by omega
  rw [e,pw,this,Gq.one_mul]
end
section
variable {p:Int}
theorem ahz {q:Fp p}:(ic p:Quo q)=0:=by
 have h:∀n:Int,(ic n:Quo q)=Quo.mk q (Pol.C (zp p n)):=by
  have hn:∀n:Nat,(nc n:Quo q)=Quo.mk q (Pol.C (zp p n)):=by
   intro n
   induction n with
   | zero=>show (0:Quo q)=_; rw [show zp p ((0:Nat):Int)=0 from rfl,Pol.C_zero,Quo.mk_zero]
   | succ n ih=>
    rw [nc,ih];have:zp p ((n+1:Nat):Int)=zp p n+1:=rfl;rw [this,Pol.C_add,Quo.mk_add,Pol.C_one,Quo.mk_one]
  intro n;cases n with
  | ofNat n=>exact hn n
  | negSucc n=>
   show -(nc (n+1):Quo q)=_;rw [hn,←Quo.mk_neg,←Pol.C_neg]; rfl
 rw [h];have:zp p p=0:=Nk.2 (by simp)
 rw [this,Pol.C_zero,Quo.mk_zero]
end
section
variable {p:Int} [IsP p]
theorem Jz {q:Fp p} (x y:Quo q):pw (x+y) p.toNat=pw x p.toNat+pw y p.toNat:=by
 have h:=ahz (q:=q);rcases (inferInstance:IsP p).h with rfl | rfl | rfl | rfl
 ·have e:pw (x+y) 2=pw x 2+pw y 2+ic 2*(x*y):=by
   show (x+y)^2=x^2+y^2+ic 2*(x*y);exact bo [x,y] rfl
  rw [h,Gq.zero_mul,Gq.add_zero] at e;exact e
 ·have e:pw (x+y) 3=pw x 3+pw y 3+ic 3*(x*x*y+x*y*y):=by
   show (x+y)^3=x^3+y^3+ic 3*(x*x*y+x*y*y);exact bo [x,y] rfl
  rw [h,Gq.zero_mul,Gq.add_zero] at e;exact e
 ·have e:pw (x+y) 5=pw x 5+pw y 5+ic 5*(x^4*y+ic 2*x^3*y^2+ic 2*x^2*y^3+x*y^4):=by
   show (x+y)^5=x^5+y^5+ic 5*(x^4*y+ic 2*x^3*y^2+ic 2*x^2*y^3+x*y^4);exact bo [x,y] rfl
  rw [h,Gq.zero_mul,Gq.add_zero] at e;exact e
 ·have e:pw (x+y) 7=pw x 7+pw y 7+ic 7*(x^6*y+ic 3*x^5*y^2+ic 5*x^4*y^3+ic 5*x^3*y^4+ic 3*x^2*y^5+x*y^6):=by
   show (x+y)^7=x^7+y^7+ic 7*(x^6*y+ic 3*x^5*y^2+ic 5*x^4*y^3+ic 5*x^3*y^4+ic 3*x^2*y^5+x*y^6);exact bo [x,y] rfl
  rw [h,Gq.zero_mul,Gq.add_zero] at e;exact e
theorem Dd (c:Zp p):pw c p.toNat=c:=by
 have h0:=nu c;have e:c=zp p (rep c):=(m8 c).symm;generalize rep c=n at *;subst e;rcases (inferInstance:IsP p).h with rfl | rfl | rfl | rfl
 ·have:n=0∨n=1:=by omega
  rcases this with rfl | rfl <;> exact Nk.2 (by decide)
 ·have:n=0∨n=1∨n=2:=by omega
  rcases this with rfl | rfl | rfl <;> exact Nk.2 (by decide)
 ·have:n=0∨n=1∨n=2∨n=3∨n=4:=by omega
  rcases this with rfl | rfl | rfl | rfl | rfl <;> exact Nk.2 (by decide)
 ·have:n=0∨n=1∨n=2∨n=3∨n=4∨n=5∨n=6:=by omega
  rcases this with rfl | rfl | rfl | rfl | rfl | rfl | rfl <;> exact Nk.2 (by decide)
end
end Pe
namespace Pe
open Go Gq
section
variable {p:Int} [IsP p]
theorem On {q:Fp p} (x y:Quo q):∀k,pw (x+y) (p.toNat^k)=pw x (p.toNat^k)+pw y (p.toNat^k)
 | 0=>by rw [tr,Ee,Ee,Ee]
 | k+1=>by rw [rg,←yn,On x y k,Jz,yn,yn]
theorem I8 (c:Zp p):∀k,pw c (p.toNat^k)=c
 | 0=>by rw [tr,Ee]
 | k+1=>by rw [rg,←yn,I8 c k,Dd]
end
section
variable {p:Int}
theorem aba (c:Zp p):∀n,Pol.C (pw c n)=pw (Pol.C c) n
 | 0=>rfl
 | n+1=>by rw [pw,Pol.C_mul,aba c n,pw]
end
section
variable {p:Int} [IsP p]
end
section
variable {p:Int}
theorem a0z {P:Fp p→Prop} (h0:P 0) (h:∀c a,P a→P (Pol.C c+Pol.X*a)):∀(n:Nat) (a:Fp p),a.lt n→P a
 | 0,a,ha=>by rw [Pol.lt_zero.1 ha]; exact h0
 | n+1,a,ha=>by
  obtain ⟨m,hm⟩:=a.fin
  let b:Fp p:=⟨fun i=>a.c (i+1),m,fun i hi=>hm _ (by omega)⟩
  have e:a=Pol.C (a.c 0)+Pol.X*b:=Pol.ext fun i=>by
   rw [Pol.c_add,Pol.c_C,Pol.c_Xmul];cases i with
   | zero=>rw [if_pos rfl,if_pos rfl,Gq.add_zero]
   | succ i=>rw [if_neg (by omega),if_neg (by omega),Gq.zero_add]; rfl
  rw [e];exact h _ _ (a0z h0 h n b fun i hi=>ha _ (by omega))
end
section
variable {p:Int} [IsP p]
theorem a6e {q:Fp p} (k:Nat) (h:pw (Quo.mk q Pol.X) (p.toNat^k)=Quo.mk q Pol.X) (x:Quo q):pw x (p.toNat^k)=x:=by
 obtain ⟨a,rfl⟩:=Quo.ex x;refine a0z (P:=fun a=>pw (Quo.mk q a) (p.toNat^k)=Quo.mk q a) ?_ (fun c a ha=>?_) _ a a.lt_len
 ·rw [Quo.mk_zero]
  have:=yh (p:=p) k;cases hn:p.toNat^k with
  | zero=>omega
  | succ n=>rw [pw,Gq.mul_zero]
 ·rw [Quo.mk_add,Quo.mk_mul,On,zj,h,ha]
  congr 1
  rw [←Quo.mk_pow,←aba,I8]
theorem Nd {K:Type} [CR K] (m:Nat) (g:Nat→K):∀n,jv (fun i=>(if i=m then 1 else 0)*g i) n=if m<n then g m else 0
 | 0=>by rw [if_neg (by omega)]; rfl
 | n+1=>by
  rw [jv,Nd m g n];rcases kc m n with h | h | h
  ·rw [if_pos h,if_neg (by omega),if_pos (by omega),Gq.zero_mul,Gq.add_zero]
  ·rw [if_neg (by omega),if_pos h.symm,if_pos (by omega),Gq.one_mul,Gq.zero_add,h]
  ·rw [if_neg (by omega),if_neg (by omega),if_neg (by omega),Gq.zero_mul,Gq.add_zero]
noncomputable def frT (p:Int) (k:Nat):Fp p:=pw Pol.X (p.toNat^k)-Pol.X
theorem a9j {q:Fp p} {k:Nat}:Dv q (frT p k)↔pw (Quo.mk q Pol.X) (p.toNat^k)=Quo.mk q Pol.X:=by
 rw [pa,frT,Quo.mk_sub,Quo.mk_pow];exact ⟨fun h=>t6 h,fun h=>by rw [h,sub_self]⟩
theorem a0m {q:Fp p} (hi:Irr q) {d:Nat} (hq:q.len=d+1) (hd:p^d<1000000000000):Dv q (frT p d):=a9j.2 (L6 hi hq hd _)
theorem L0 {q:Fp p} (hi:Irr q) {d k:Nat} (hq:q.len=d+1) (hd:p^d<1000000000000) (hk:0<k) (h:Dv q (frT p k)):d≤k:=by
 classical
 have hfix:=a6e k (a9j.1 h);have hone:(1:Quo q)≠0:=(ada hi).one_ne;have hP:2≤p.toNat:=by have:=IsP.ge (p:=p); omega
 have hne1:1<p.toNat^k:=Nat.one_lt_pow (by omega) hP
 have r:=Vy (fun x y e=>hi.quo_zero e) (p.toNat^k) (fun i=>(if i=p.toNat^k then (1:Quo q) else 0)-(if i=1 then 1 else 0)) ((0:Quo q)::Dg q d)
  (by rw [if_pos rfl,if_neg (by omega),sub_eq,th,Gq.add_zero]; exact hone)
  (mf.2 ⟨fun h0=>(Lk hq hd 0).1 h0 rfl,Ew hq hd⟩)
  (fun y _=>by
   have e:(fun i=>((if i=p.toNat^k then (1:Quo q) else 0)-(if i=1 then 1 else 0))*pw y i)=fun i=>(if i=p.toNat^k then (1:Quo q) else 0)*pw y i+(if i=1 then 1 else 0) * -pw y i:=by
    funext i
    exact bo [(if i=p.toNat^k then (1:Quo q) else 0),(if i=1 then (1:Quo q) else 0),pw y i] rfl
   rw [e,Mo,Nd,Nd _ (fun i=>-pw y i),if_pos (by omega),if_pos (by omega),hfix,Ee,add_neg])
 have hl:(Dg q d).length=p.toNat^d-1:=by unfold Dg; rw [ab,ji]
 have hpos:=yh (p:=p) d;rw [b9,hl] at r;have:p.toNat^d≤p.toNat^k:=by omega
 exact (Nat.pow_le_pow_iff_right (by omega)).1 this
end
section
variable {p:Int} [IsP p]
theorem S9:∀{l m:List Int},Can p l→Can p m→l.length<m.length→cf m (m.length-1)≠0→vl p l<vl p m
 | l,[],_,_,h,_=>by simp at h
 | l,d::m,hl,hm,h,hc=>by
  have hp:=IsP.pos (p:=p);have hd:=hm d (by simp)
  have hmc:Can p m:=fun x hx=>hm x (by simp [hx])
  cases l with
  | nil=>
   show 0<d+p*vl p m;have h2:=(a1p hmc).1;cases m with
   | nil=>
    have:d≠0:=hc;simp [vl]; omega
   | cons e m=>
    have h3:cf (e::m) ((e::m).length-1)≠0:=by simpa [cf] using hc
    have:=S9 (l:=[]) (m:=e::m) (fun x hx=>by simp at hx) hmc (by simp) h3
    have h5:0<p*vl p (e::m):=Int.mul_pos hp (by simpa [vl] using this)
    omega
  | cons c l=>
   have hlc:Can p l:=fun x hx=>hl x (by simp [hx])
   have hcc:=hl c (by simp)
   have h3:cf m (m.length-1)≠0:=by
    cases m with
    | nil=>simp at h
    | cons e m=>simpa [cf] using hc
   have:=S9 hlc hmc (by simpa using h) h3
   have h5:p*(vl p l+1)≤p*vl p m:=du (by omega) (by omega)
   rw [v3,tf] at h5;show c+p*vl p l<d+p*vl p m;omega
end
section
variable {p:Int}
theorem a5b {a:Fp p} (h:a≠0):cf (row a) ((row a).length-1)≠0:=by
 rw [cu,jc];exact fun h0=>Pol.ld_ne h (im.1 h0)
end
section
variable {p:Int} [IsP p]
theorem vw {a b:Fp p} (h:a.len<b.len):gt a<gt b:=S9 (km a) (km b) (by simpa using h) (a5b fun h0=>by rw [h0,Pol.len_zero] at h; omega)
theorem a6u:∀{l m:List Int},Can p l→Can p m→l.length=m.length→vl p l=vl p m→l=m
 | [],[],_,_,_,_=>rfl
 | [],_::_,_,_,h,_=>by simp at h
 | _::_,[],_,_,h,_=>by simp at h
 | c::l,d::m,hl,hm,h,e=>by
  have hp:=IsP.pos (p:=p);have hcc:=hl c (by simp)
  have hd:=hm d (by simp)
  have e2:c+p*vl p l=d+p*vl p m:=e
  have e3:c=d:=by
   have:=congrArg (· % p) e2
   simp only [qk] at this
   rwa [my hcc.1 hcc.2,my hd.1 hd.2] at this
  subst e3;have e4:p*vl p l=p*vl p m:=by omega
  rw [a6u (l:=l) (m:=m) (fun x hx=>hl x (by simp [hx])) (fun x hx=>hm x (by simp [hx])) (by simpa using h) (Int.eq_of_mul_eq_mul_left (by omega) e4)]
theorem Oh {a b:Fp p} (h:gt a=gt b):a=b:=by
 rcases kc a.len b.len with h1 | h1 | h1
 ·have:=vw h1; omega
 ·exact ab7 (a6u (km a) (km b) (by simpa using h1) h)
 ·have:=vw h1; omega
abbrev o9 (p:Int):=List (Fp p×Nat)
noncomputable def nw (L:o9 p):Fp p:=rj (L.map fun x=>pw x.1 x.2)
structure FacOk (L:o9 p):Prop where
 irr:∀x∈L,Irr x.1∧Monic x.1∧1≤x.2
 dis:L.Pairwise fun x y=>x.1≠y.1
structure IsFac (a:Fp p) (L:o9 p):Prop where
 ok:FacOk L
 sorted:L.Pairwise fun x y=>gt x.1<gt y.1
 eq:a=Pol.C a.ld*nw L
end
section
variable {p:Int}
theorem ue (x:Fp p×Nat) (L:o9 p):nw (x::L)=pw x.1 x.2*nw L:=rfl
end
section
variable {p:Int} [IsP p]
theorem Monic.pw {a:Fp p} (h:Monic a):∀n,Monic (pw a n)
 | 0=>Monic.one
 | n+1=>(Monic.pw h n).mul h
theorem Au {L:o9 p} (h:FacOk L):Monic (nw L):=by
 induction L with
 | nil=>exact Monic.one
 | cons x L ih=>
  rw [ue];exact (Monic.pw (h.irr x (by simp)).2.1 _).mul (ih ⟨fun y hy=>h.irr y (by simp [hy]),(fl.1 h.dis).2⟩)
theorem Irr.pw_dv {q a:Fp p} (h:Irr q):∀n,Dv q (pw a n)→Dv q a
 | 0,hd=>by
  have h1:q.len≤(1:Fp p).len:=hd.len Pol.one_ne;have h2:=h.len;rw [Pol.len_one] at h1; omega
 | n+1,hd=>(h.prime hd).elim (Irr.pw_dv h n) id
theorem Rb {q:Fp p} (hq:Irr q) (mq:Monic q):∀{L:o9 p},FacOk L→Dv q (nw L)→∃k,(q,k)∈L
 | [],_,h=>by
  have h1:q.len≤(1:Fp p).len:=h.len Pol.one_ne;have h2:=hq.len;rw [Pol.len_one] at h1; omega
 | x::L,ok,h=>by
  rw [ue] at h;rcases hq.prime h with h1 | h1
  ·have h2:=Irr.pw_dv hq _ h1
   obtain ⟨i1,i2,_⟩:=ok.irr x (by simp)
   have:=hq.eq_of_dv i1 mq i2 h2;exact ⟨x.2,by rw [this]; simp⟩
  ·obtain ⟨k,hk⟩:=Rb hq mq ⟨fun y hy=>ok.irr y (by simp [hy]),(fl.1 ok.dis).2⟩ h1
   exact ⟨k,by simp [hk]⟩
theorem Cq {q:Fp p} {k:Nat}:∀{L:o9 p},FacOk L→(q,k)∈L→∃r,nw L=pw q k*r∧¬ Dv q r
 | x::L,ok,h=>by
  have ok':FacOk L:=⟨fun y hy=>ok.irr y (by simp [hy]),(fl.1 ok.dis).2⟩
  rw [ue];rcases dt.1 h with rfl | h
  ·refine ⟨nw L,rfl,fun hd=>?_⟩
   obtain ⟨i1,i2,_⟩:=ok.irr (q,k) (by simp)
   obtain ⟨k',hk⟩:=Rb i1 i2 ok' hd;exact (fl.1 ok.dis).1 _ hk rfl
  ·obtain ⟨r,e,hn⟩:=Cq ok' h
   refine ⟨pw x.1 x.2*r,by rw [e,Gq.mul_left_comm],fun hd=>?_⟩
   obtain ⟨i1,i2,_⟩:=ok.irr (q,k) (by simp [h])
   obtain ⟨j1,j2,_⟩:=ok.irr x (by simp)
   rcases i1.prime hd with h1 | h1
   ·have h2:=Irr.pw_dv i1 _ h1
    have e:=i1.eq_of_dv j1 i2 j2 h2;exact (fl.1 ok.dis).1 _ h e.symm
   ·exact hn h1
theorem Ny {a:Fp p} (h:a≠0):∀n,pw a n≠0
 | 0=>Pol.one_ne
 | n+1=>Pol.mul_ne (Ny h n) h
theorem Qr {a:Fp p} (ha:a≠0) {L:o9 p} (ok:FacOk L) (e:a=Pol.C a.ld*nw L) (q:Fp p) (k:Nat):(q,k)∈L↔Irr q∧Monic q∧1≤k∧Dv (pw q k) a∧¬ Dv (pw q (k+1)) a:=by
 have hld:=Pol.ld_ne ha
 have dvP:∀c,Dv c a↔Dv c (nw L):=fun c=>by
  constructor
  ·rintro ⟨x,hx⟩
   refine ⟨Pol.C (Fd.inv a.ld)*x,?_⟩
   have:nw L=Pol.C (Fd.inv a.ld)*a:=by
    rw [e];have e2:(Pol.C a.ld*nw L).ld=a.ld:=by rw [←e]
    rw [e2,←Gq.mul_assoc,Gq.mul_comm (Pol.C (Fd.inv _)),a7g hld,Gq.one_mul]
   rw [this];generalize Pol.C (Fd.inv a.ld)=k;rw [hx];exact bo [k,c,x] rfl
  ·intro h
   rw [e]; exact h.mul_left _
 constructor
 ·intro h
  obtain ⟨i1,i2,i3⟩:=ok.irr (q,k) h;obtain ⟨r,e2,hn⟩:=Cq ok h;refine ⟨i1,i2,i3,(dvP _).2 ⟨r,e2⟩,fun hd=>hn ?_⟩
  obtain ⟨y,hy⟩:=(dvP _).1 hd;rw [e2,pw,Gq.mul_assoc] at hy;exact ⟨y,Pol.mul_cancel (Ny i1.ne k) hy⟩
 ·rintro ⟨i1,i2,i3,h1,h2⟩
  have hq:Dv q a:=by
   obtain ⟨k,rfl⟩:∃j,k=j+1:=⟨k-1,by omega⟩
   exact Dv.trans ⟨pw q k,Gq.mul_comm _ _⟩ h1
  obtain ⟨k',hk'⟩:=Rb i1 i2 ok ((dvP _).1 hq);obtain ⟨r,e2,hn⟩:=Cq ok hk'
  have:k=k':=by
   rcases kc k k' with h | h | h
   ·exfalso
    apply h2;rw [dvP,e2];obtain ⟨j,rfl⟩:=ja (show k+1≤k' from h);rw [Gs q (k+1) j];exact ((Dv.refl _).mul_right _).mul_right _
   ·exact h
   ·exfalso
    apply hn;obtain ⟨y,hy⟩:=(dvP _).1 h1;obtain ⟨j,rfl⟩:=ja (show k'+1≤k from h);rw [e2,Gs,pw,Gq.mul_assoc,Gq.mul_assoc] at hy;exact ⟨_,Pol.mul_cancel (Ny i1.ne k') hy⟩
  rw [this]; exact hk'
theorem Gp {α:Type} (f:α→Int):∀{l m:List α},l.Pairwise (fun x y=>f x<f y)→m.Pairwise (fun x y=>f x<f y)→(∀x,x∈l↔x∈m)→l=m
 | [],[],_,_,_=>rfl
 | [],y::m,_,_,h=>by have:=(h y).2 (by simp); simp at this
 | x::l,[],_,_,h=>by have:=(h x).1 (by simp); simp at this
 | x::l,y::m,hl,hm,h=>by
  obtain ⟨l1,l2⟩:=fl.1 hl;obtain ⟨m1,m2⟩:=fl.1 hm
  have e:x=y:=by
   rcases dt.1 ((h x).1 (by simp)) with h1 | h1
   ·exact h1
   ·rcases dt.1 ((h y).2 (by simp)) with h2 | h2
    ·exact h2.symm
    ·have:=m1 _ h1
     have:=l1 _ h2;omega
  subst e;rw [Gp f l2 m2 fun z=>?_]
  constructor
  ·intro hz
   rcases dt.1 ((h z).1 (by simp [hz])) with h1 | h1
   ·subst h1; have:=l1 _ hz; omega
   ·exact h1
  ·intro hz
   rcases dt.1 ((h z).2 (by simp [hz])) with h1 | h1
   ·subst h1; have:=m1 _ hz; omega
   ·exact h1
theorem IsFac.unique {a:Fp p} (ha:a≠0) {L L':o9 p} (h:IsFac a L) (h':IsFac a L'):L=L':=
 Gp (fun x=>gt x.1) h.sorted h'.sorted fun x=>by
  obtain ⟨q,k⟩:=x;rw [Qr ha h.ok h.eq,Qr ha h'.ok h'.eq]
def Cp (n:Nat) (a:Fp p):Prop:=∀q,Irr q→Dv q a→n+1≤q.len
theorem Ax {a:Fp p} {n:Nat} (h:Cp n a) (hl:2≤a.len) (hs:a.len<2*n+1):Irr a:=by
 refine Irr.of_dv hl fun u hu=>?_
 have ha:a≠0:=fun h0=>by rw [h0,Pol.len_zero] at hl; omega
 obtain ⟨v,rfl⟩:=hu;have hu0:u≠0:=fun h0=>ha (by rw [h0,Gq.zero_mul])
 have hv0:v≠0:=fun h0=>ha (by rw [h0,Gq.mul_zero])
 have l:=Pol.len_mul hu0 hv0;have l1:=Pol.len_pos hu0;have l2:=Pol.len_pos hv0;apply fa;intro hx;have hu2:2≤u.len:=by omega
 have hv2:2≤v.len:=by omega
 obtain ⟨q,q1,_,q2⟩:=Gv u.len u (bp _) hu2;obtain ⟨r,r1,_,r2⟩:=Gv v.len v (bp _) hv2;have s1:=h q q1 (q2.mul_right v);have s2:=h r r1 (r2.mul_left u);have s3:=q2.len hu0;have s4:=r2.len hv0;omega
theorem V6 (a:Fp p):Cp 1 a:=fun _q h _=>h.len
theorem Wz {a b:Fp p} {n:Nat} (h:Cp n a) (hd:Dv b a):Cp n b:=fun q hq hb=>h q hq (hb.trans hd)
end
end Pe
namespace Pe
open Go Gq
variable {T:Nat→Option Fn} {A:ap}
def Bo (O:ap) (F:Nat):Prop:=∀x:Int,ask O F [(D.int .i64 x)]=some (D.bool false)
theorem abt (hT:T F2=some Z2):Bo (den T A) F2:=fun x=>by
 refine ch hT rfl ?_;simp -implicitDefEqProofs [Z2,Z2_B]
theorem a32 (hT:T F3=some Z3):Bo (den T A) F3:=fun x=>by
 refine ch hT rfl ?_;simp -implicitDefEqProofs [Z3,Z3_B]
def ro (x y:Int):Int:=if x<y then -1 else if y<x then 1 else 0
def sv (O:ap) (F:Nat):Prop:=∀x y:Int,ask O F [(D.int .i64 x),(D.int .i64 y)]=some (D.int .i64 (ro x y))
theorem Wo (hT:T F0=some Z0) (h:Bo (den T A) F2):sv (den T A) F0:=fun x y=>by
 have e1:=h x;have e2:=h y;refine ch hT rfl ?_;unfold ro
 by_cases h1:x<y
 ·simp -implicitDefEqProofs [Z0,Z0_B,e1,e2,h1,au]
 ·by_cases h2:y<x
  ·simp -implicitDefEqProofs [Z0,Z0_B,e1,e2,h1,h2,au]
  ·simp -implicitDefEqProofs [Z0,Z0_B,e1,e2,h1,h2,au]
theorem Sv (hT:T F1=some Z1) (h:Bo (den T A) F3):sv (den T A) F1:=fun x y=>by
 have e1:=h x;have e2:=h y;refine ch hT rfl ?_;unfold ro
 by_cases h1:x<y
 ·simp -implicitDefEqProofs [Z1,Z1_B,e1,e2,h1,au]
 ·by_cases h2:y<x
  ·simp -implicitDefEqProofs [Z1,Z1_B,e1,e2,h1,h2,au]
  ·simp -implicitDefEqProofs [Z1,Z1_B,e1,e2,h1,h2,au]
def H1 (l m:List Int):Nat→Int
 | 0=>0
 | n+1=>if ro (cf l n) (cf m n)≠0 then ro (cf l n) (cf m n) else H1 l m n
theorem Ol {O:ap} (hc:sv O F1) {l m:List Int} (hlm:l.length=m.length) (hl:l.length<1000000):∀n:Nat,n≤l.length →
 dn O 0 (.loop Zi_L0) ⟨[(0,(.d (.sl .leaf (aq .i64 l)))),(1,(.d (.sl .leaf (aq .i64 m)))),(6,(.d (.int .i64 ((n:Int)-1))))],[]⟩ =
  if H1 l m n=0 then some (.exit 0,⟨[(0,(.d (.sl .leaf (aq .i64 l)))),(1,(.d (.sl .leaf (aq .i64 m)))),(6,(.d (.int .i64 (-1)))),(20,(.d (.bool false)))],[]⟩) else some (.ret,⟨[(4,(.d (.int .i64 (H1 l m n))))],[]⟩)
 | 0,hn=>by
  simp only [H1,if_true];exact cg (by simp -implicitDefEqProofs [Zi_L0,au])
 | n+1,hn=>by
  have t0:(((n+1:Nat):Int)-1)=(n:Int):=by omega
  rw [t0];have h1:n<l.length:=by omega
  have h2:n<m.length:=by omega
  have e1:l[n]? = some (cf l n):=by rw [af h1,gu h1]
  have e2:m[n]? = some (cf m n):=by rw [af h2,gu h2]
  have e1':l[n]=cf l n:=(gu h1).symm;have e2':m[n]=cf m n:=(gu h2).symm;have e3:=hc (cf l n) (cf m n);have w1:IntKind.i64.wrap ((n:Int)-1)=(n:Int)-1:=w64 (by omega)
  by_cases h0:ro (cf l n) (cf m n)=0
  ·rw [h0] at e3
   have e:H1 l m (n+1)=H1 l m n:=if_neg (fun h=>h h0)
   rw [e];refine bq ?_ (Ol hc hlm hl n (by omega))
   simp -implicitDefEqProofs [Zi_L0,au,h1,h2,e1',e2',e3,w1]
  ·have e:H1 l m (n+1)=ro (cf l n) (cf m n):=if_pos h0
   rw [e,if_neg h0];refine mj ?_;simp -implicitDefEqProofs [Zi_L0,au,h1,h2,e1',e2',e3,h0]
def ac8 (l m:List Int):Int:=if ro l.length m.length≠0 then ro l.length m.length else H1 l m l.length
def Br (O:ap):Prop:=∀l m:List Int,l.length<1000000→m.length<1000000→ask O Fi [(D.sl .leaf (aq .i64 l)),(D.sl .leaf (aq .i64 m))]=some (D.int .i64 (ac8 l m))
theorem a4r (hT:T Fi=some Zi) (h1:sv (den T A) F0) (h2:sv (den T A) F1):Br (den T A):=by
 intro l m hl hm;have e1:=h1 l.length m.length;unfold ac8;refine ch hT rfl ?_
 by_cases h0:ro l.length m.length=0
 ·have hlm:l.length=m.length:=by
   unfold ro at h0
   split at h0
   ·omega
   ·split at h0 <;> omega
  rw [if_neg (fun h=>h h0)]
  rw [h0] at e1;have e2:=Ol h2 hlm hl l.length (bp _);have w1:IntKind.i64.wrap ((l.length:Int)-1)=(l.length:Int)-1:=w64 (by omega)
  by_cases hz:H1 l m l.length=0
  ·rw [if_pos hz] at e2
   simp -implicitDefEqProofs [Zi,Zi_B,au,e1,e2,w1,hz]
  ·rw [if_neg hz] at e2
   simp -implicitDefEqProofs [Zi,Zi_B,au,e1,e2,w1]
 ·rw [if_pos h0]
  simp -implicitDefEqProofs [Zi,Zi_B,au,e1,h0]
section
variable (f:D→Int)
def xz:List D→D→List D→List D
 | [],x,R=>x::R
 | y::L,x,R=>if f x<f y then xz L x (y::R) else (y::L).reverse++x::R
def En:List D→List D→List D
 | P,[]=>P
 | P,x::r=>En (xz f P.reverse x []) r
theorem M4:∀(L:List D) (x:D) (R S:List D),xz f L x (R++S)=xz f L x R++S
 | [],x,R,S=>rfl
 | y::L,x,R,S=>by
  unfold xz
  split
  ·rw [←df,M4 L x (y::R) S]
  ·simp
theorem ye:∀(L:List D) (x:D) (R:List D),(xz f L x R).Perm (x::(L.reverse++R))
 | [],x,R=>.refl _
 | y::L,x,R=>by
  unfold xz
  split
  ·refine (ye L x (y::R)).trans ?_
   simp
  ·exact List.perm_middle
theorem U5 (L:List D) (x:D) (R:List D):(xz f L x R).length=L.length+R.length+1:=by
 have:=(ye f L x R).length_eq
 simpa using this
def Asc (l:List D):Prop:=l.Pairwise fun x y=>f x≤f y
theorem Tg:∀(L:List D) (x:D) (R:List D),Asc f (L.reverse++R)→(∀y∈R,f x≤f y)→Asc f (xz f L x R)
 | [],x,R,h,hx=>by
  unfold xz Asc;refine fl.2 ⟨hx,?_⟩;have h':Asc f R:=by simpa using h
  exact h'
 | y::L,x,R,h,hx=>by
  unfold xz
  split
  ·rename_i hlt
   refine Tg L x (y::R) (by simpa using h) fun z hz=>?_
   rcases dt.1 hz with rfl | hz
   ·omega
   ·exact hx z hz
  ·rename_i hlt
   unfold Asc at h ⊢;rw [ix] at h ⊢;refine ⟨h.1,fl.2 ⟨hx,h.2.1⟩,fun a ha b hb=>?_⟩
   rcases dt.1 hb with rfl | hb
   ·have hay:f a≤f y:=by
     have h1:=h.1;rw [List.reverse_cons,ix] at h1;rw [List.reverse_cons] at ha;rcases bi.1 ha with ha | ha
     ·exact h1.2.2 a ha y (by simp)
     ·simp at ha; rw [ha]; exact xu _
    omega
   ·exact h.2.2 a ha b hb
theorem Hh:∀(r P:List D),(En f P r).Perm (P++r)
 | [],P=>by simp [En]
 | x::r,P=>by
  unfold En;refine (Hh r _).trans ?_;have:=ye f P.reverse x [];refine (List.Perm.append_right r this).trans ?_;simp;exact List.perm_middle.symm
theorem Lb:∀(r P:List D),Asc f P→Asc f (En f P r)
 | [],P,h=>h
 | x::r,P,h=>by
  unfold En;exact Lb r _ (Tg f P.reverse x [] (by simpa using h) (by simp))
end
section
variable {O:ap} {g:Nat} {first caps:List D}
abbrev n9:Sh:=.st [.leaf,.leaf]
structure CmpOk (O:ap) (g:Nat) (first caps:List D) (f:D→Int) (s:Sh) (cs:List D):Prop where
 nf:A9 first
 nc:A9 caps
 nx:A9 cs
 sh:Im s cs
 ask:∀x∈cs,∀y∈cs,ask O g (first++[x,y]++caps)=some (D.int .i64 (ro (f x) (f y)))
theorem CmpOk.perm {f:D→Int} {s:Sh} {cs ds:List D} (h:CmpOk O g first caps f s cs) (p:ds.Perm cs):CmpOk O g first caps f s ds:=
 ⟨h.nf,h.nc,fun x hx=>h.nx x (p.subset hx),fun x hx=>h.sh x (p.subset hx),fun x hx y hy=>h.ask x (p.subset hx) y (p.subset hy)⟩
theorem CmpOk.call {f:D→Int} {s:Sh} {cs:List D} (h:CmpOk O g first caps f s cs) {hp:Heap} {np:Nat} {news:List Nat} {x y:D} (hx:x∈cs) (hy:y∈cs) :
 Et O np hp .flat news (g,first.map .d,caps.map .d) [.d x,.d y]=some (.d (D.int .i64 (ro (f x) (f y))),hp):=by
 have e:qq hp (first.map .d++[.d x,.d y]++caps.map .d)=some (first++[x,y]++caps):=
  wl hp (wl hp (p6 hp h.nf) (p6 hp (ds:=[x,y]) (by intro z hz; simp at hz; rcases hz with rfl | rfl; exact h.nx _ hx; exact h.nx _ hy))) (p6 hp h.nc)
 rw [Dp,e,ae,Nx,h.ask x hx y hy,ae,Hr,show (D.int IntKind.i64 (ro (f x) (f y))).flat=true from rfl,if_pos rfl]
theorem Vx (x y:Int):ro x y<0↔x<y:=by
 unfold ro
 split
 ·omega
 ·split <;> omega
theorem a6m {f:D→Int} {n:Nat} {cp:Option Nat} (hn:n≤1000) {i:Nat}:∀(L:List D) (x:D) (R:List D),(L.reverse++x::R).length=n→CmpOk O g first caps f n9 (L.reverse++x::R)→∃j:Int,
 dn O 1 (.loop Z2n_L0) ⟨[(0,.sl 0 [] 0 n cp),(1,(.d (.int .i64 0))),(2,(.d (.int .i64 n))),(3,.d (.fn g first caps)),(8,(.d (.int .i64 i))),(9,(.d (.int .i64 L.length)))],[.sl false n9 (L.reverse++x::R)]⟩ =
  some (.exit 2,⟨[(0,.sl 0 [] 0 n cp),(1,(.d (.int .i64 0))),(2,(.d (.int .i64 n))),(3,.d (.fn g first caps)),(8,(.d (.int .i64 i))),(9,(.d (.int .i64 j))),(34,(.d (.bool false)))],[.sl false n9 (xz f L x R)]⟩)
 | [],x,R,hl,ok=>by
  refine ⟨0,cg ?_⟩;simp -implicitDefEqProofs [Z2n_L0,au,xz]
 | y::L,x,R,hl,ok=>by
  have hj:(y::L).length=L.length+1:=rfl;have hlen:((y::L).reverse++x::R).length=L.length+1+(R.length+1):=by simp; omega
  have e1:((y::L).reverse++x::R)[L.length+1]? = some x:=by
   rw [bx (by simp)]; simp
  have e2:((y::L).reverse++x::R)[L.length]? = some y:=by
   rw [bu (by simp)]; simp
  have m1:x∈(y::L).reverse++x::R:=by simp
  have m2:y∈(y::L).reverse++x::R:=by simp
  have c:=ok.call (hp:=[.sl false n9 ((y::L).reverse++x::R)]) (np:=1) (news:=[]) m1 m2;have s1:=ok.sh x m1;have s2:=ok.sh y m2;have n1:=ok.nx x m1;have n2:=ok.nx y m2
  have e3:(((y::L).reverse++x::R).set (L.length+1) y).set L.length x=L.reverse++x::y::R:=by
   rw [pk _ _ (by simp),List.set_append_left _ _ (by simp)]
   simp
  have hp:((y::L).reverse++x::R).Perm (L.reverse++x::y::R):=by
   simp;exact (List.Perm.swap x y R).append_left _
  have w1:IntKind.i64.wrap (L.length:Int)=L.length:=w64 (by omega)
  have h0:(0:Int)<(L.length:Int)+1:=by omega
  have h00:(0:Int)≤(L.length:Int)+1:=by omega
  have h1:L.length+1<n:=by omega
  have h2:L.length<n:=by omega
  have h3:L.length<((y::L).reverse++x::R).length:=by omega
  have h4:L.length+1<((y::L).reverse++x::R).length:=by omega
  have e4:(((y::L).reverse++x::R).set (L.length+1) y)[L.length]? = some y:=by
   rw [bh (by omega),e2]
  unfold xz;rw [hj,show ((L.length+1:Nat):Int)=(L.length:Int)+1 by omega]
  generalize (y::L).reverse++x::R=cs at *;have e1':cs[L.length+1]=x:=by rw [af h4] at e1; exact b6 e1
  have e2':cs[L.length]=y:=by rw [af h3] at e2; exact b6 e2
  by_cases hlt:f x<f y
  ·rw [if_pos hlt]
   obtain ⟨j,e⟩:=a6m hn L x (y::R) (by rw [←hp.length_eq]; omega) (ok.perm hp.symm)
   have hc:=(Vx (f x) (f y)).2 hlt;refine ⟨j,bq ?_ e⟩;simp -implicitDefEqProofs [Z2n_L0,au,h0,h00,h1,h2,h3,h4,e1',e2',c,s1,s2,n1,n2,w1,hc,e3]
  ·rw [if_neg hlt]
   have hc:=mt (Vx (f x) (f y)).1 hlt;refine ⟨(L.length:Int)+1,cg ?_⟩;simp -implicitDefEqProofs [Z2n_L0,au,h0,h00,h1,h2,h3,h4,e1',e2',c,s1,s2,w1,hc]
end
theorem a7p {O:ap} {g:Nat} {first caps:List D} {f:D→Int} {n:Nat} {cp:Option Nat} (hn:n≤1000):∀(r P:List D),P.length+r.length=n→0<P.length→CmpOk O g first caps f n9 (P++r) →
 dn O 1 (.loop Z2n_L1) ⟨[(0,.sl 0 [] 0 n cp),(1,(.d (.int .i64 0))),(2,(.d (.int .i64 n))),(3,.d (.fn g first caps)),(8,(.d (.int .i64 P.length)))],[.sl false n9 (P++r)]⟩ =
  some (.exit 0,⟨[(0,.sl 0 [] 0 n cp),(1,(.d (.int .i64 0))),(2,(.d (.int .i64 n))),(3,.d (.fn g first caps)),(8,(.d (.int .i64 n))),(14,(.d (.bool false)))],[.sl false n9 (En f P r)]⟩)
 | [],P,hl,hP,ok=>by
  have hl':P.length=n:=by simpa using hl
  refine cg ?_;simp -implicitDefEqProofs [Z2n_L1,au,En,hl']
 | x::r,P,hl,hP,ok=>by
  simp at hl;have e0:P.reverse.reverse++x::r=P++x::r:=by simp
  obtain ⟨j,e⟩:=a6m (O:=O) (g:=g) (first:=first) (caps:=caps) (f:=f) (n:=n) (cp:=cp) hn (i:=P.length) P.reverse x r (by simp; omega) (by rw [e0]; exact ok)
  rw [e0,rr,←d9 r,M4,d9] at e;have hlen:=U5 f P.reverse x [];rw [rr,cb,fj] at hlen
  have hperm:(xz f P.reverse x []++r).Perm (P++x::r):=by
   refine (List.Perm.append_right r (ye f P.reverse x [])).trans ?_;simp;exact List.perm_middle.symm
  have ih:=a7p (O:=O) (g:=g) (first:=first) (caps:=caps) (f:=f) (cp:=cp) hn r (xz f P.reverse x []) (by rw [hlen]; omega) (by omega) (ok.perm hperm)
  have hlt:P.length<n:=by omega
  have w1:IntKind.i64.wrap ((P.length:Int)+1)=((P.length+1:Nat):Int):=(w64 (x:=(P.length:Int)+1) (by omega)).trans (by omega)
  rw [hlen] at ih;unfold En;refine bq ?_ ih;simp -implicitDefEqProofs [Z2n_L1,au,hlt,e,w1]
def adu (O:ap) (F:Nat) (args:V→List V→List V):Prop:=∀(g:Nat) (first caps:List D) (f:D→Int) (cs:List D) (cp:Option Nat),cs.length≤12→CmpOk O g first caps f n9 cs →
 ∃ds:List D,ds.Perm cs∧Asc f ds∧O F (args (.sl 0 [] 0 cs.length cp) [(.d (.int .i64 cs.length)),.d (.fn g first caps)]) [.sl false n9 cs]=some (.tup [],[.sl false n9 ds],[])
def xr (O:ap):Prop:=adu O F2n fun s l=>[s,(.d (.int .i64 0))]++l
theorem Vq (hT:T F2n=some Z2n):xr (den T A):=by
 intro g first caps f cs cp hl ok;cases cs with
 | nil=>
  refine ⟨[],.refl _,List.Pairwise.nil,i4 hT rfl ?_⟩;have st:=cg (O:=den T A) (np:=1) (c:=Z2n_L1) (s:=⟨[(0,.sl 0 [] 0 0 cp),(1,(.d (.int .i64 0))),(2,(.d (.int .i64 0))),(3,.d (.fn g first caps)),(8,(.d (.int .i64 1)))],[.sl false n9 []]⟩) (s1:=⟨[(0,.sl 0 [] 0 0 cp),(1,(.d (.int .i64 0))),(2,(.d (.int .i64 0))),(3,.d (.fn g first caps)),(8,(.d (.int .i64 1))),(14,(.d (.bool false)))],[.sl false n9 []]⟩) (id:=0) (by simp -implicitDefEqProofs [Z2n_L1,au])
  have w1:IntKind.i64.wrap 1=1:=w64 (by omega)
  simp -implicitDefEqProofs [Z2n,Z2n_B,st,w1]
 | cons x r=>
  have e:=a7p (O:=den T A) (g:=g) (first:=first) (caps:=caps) (f:=f) (n:=(x::r).length) (cp:=cp) (by omega) r [x] (by simp; omega) (by simp) ok
  have e1:(([x]:List D).length:Int)=1:=rfl;rw [e1] at e;refine ⟨En f [x] r,Hh f r [x],Lb f r [x] (gd _ _),i4 hT rfl ?_⟩;have w1:IntKind.i64.wrap 1=1:=w64 (by omega)
  rw [List.singleton_append] at e;generalize x::r=cs at *;simp -implicitDefEqProofs [Z2n,Z2n_B,e,w1]
def A3 (O:ap) (F:Nat):Prop:=∀n:Nat,n≤12→∃v:Int,ask O F [.int .u64 n]=some (D.int .i64 v)
theorem ac1 (hT:T F27=some Z27):A3 (den T A) F27:=by
 intro n hn
 have key:∀v:Int,run (fun _ _ _=>none) 1 Z27 [.d (.int .u64 n)] []=some ((.d (.int .i64 v)),[],[])→ask (den T A) F27 [.int .u64 n]=some (D.int .i64 v):=by
  intro v h
  have h2:=Rz (A:=A) hT (n:=1) (vs:=[.d (.int .u64 n)]) (bs:=[]) (ans:=((.d (.int .i64 v)),[],[])) (by
   obtain ⟨qs,h3,h4⟩:=Ci h;cases qs with
   | nil=>exact h4 _ (by intro q hq; simp at hq)
   | cons q qs=>exact absurd (h3 q (by simp)) (by simp))
  unfold ask;rw [show ([D.int .u64 n]:List D).map V.d=[.d (.int .u64 n)] from rfl,h2];rfl
 have h:n=0∨n=1∨n=2∨n=3∨n=4∨n=5∨n=6∨n=7∨n=8∨n=9∨n=10∨n=11∨n=12:=by omega
 rcases h with rfl | rfl | rfl | rfl | rfl | rfl | rfl | rfl | rfl | rfl | rfl | rfl | rfl
 ·exact ⟨0,key 0 (by kernel_rfl)⟩
 ·exact ⟨1,key 1 (by kernel_rfl)⟩
 ·exact ⟨2,key 2 (by kernel_rfl)⟩
 ·exact ⟨2,key 2 (by kernel_rfl)⟩
 ·exact ⟨3,key 3 (by kernel_rfl)⟩
 ·exact ⟨3,key 3 (by kernel_rfl)⟩
 ·exact ⟨3,key 3 (by kernel_rfl)⟩
 ·exact ⟨3,key 3 (by kernel_rfl)⟩
 ·exact ⟨4,key 4 (by kernel_rfl)⟩
 ·exact ⟨4,key 4 (by kernel_rfl)⟩
 ·exact ⟨4,key 4 (by kernel_rfl)⟩
 ·exact ⟨4,key 4 (by kernel_rfl)⟩
 ·exact ⟨4,key 4 (by kernel_rfl)⟩
theorem akd (hT:T F25=some Z25) (h:A3 (den T A) F27):A3 (den T A) F25:=by
 intro n hn;obtain ⟨v,e⟩:=h n hn;refine ⟨v,ch hT rfl ?_⟩;simp -implicitDefEqProofs [Z25,Z25_B,au,e]
theorem ais (hT:T F32=some Z32) (hi:xr (den T A)):∀(g:Nat) (first caps:List D) (f:D→Int) (cs:List D) (cp:Option Nat) (v:Int),cs.length≤12→CmpOk (den T A) g first caps f n9 cs →
 ∃ds:List D,ds.Perm cs∧Asc f ds∧den T A F32 [.sl 0 [] 0 cs.length cp,(.d (.int .i64 0)),(.d (.int .i64 cs.length)),(.d (.int .i64 v)),.d (.fn g first caps)] [.sl false n9 cs]=some (.tup [],[.sl false n9 ds],[]):=by
 intro g first caps f cs cp v hl ok;obtain ⟨ds,h1,h2,e⟩:=hi g first caps f cs cp hl ok;refine ⟨ds,h1,h2,i4 hT rfl ?_⟩;have w1:IntKind.i64.wrap (cs.length:Int)=cs.length:=w64 (by omega)
 have h12:(cs.length:Int)≤12:=by omega
 have lp:=mj (O:=den T A) (np:=1) (c:=Z32_L0) (s:=⟨[(0,.sl 0 [] 0 cs.length cp),(1,(.d (.int .i64 0))),(2,(.d (.int .i64 cs.length))),(3,(.d (.int .i64 v))),(4,.d (.fn g first caps)),(10,(.d (.bool true))),(11,(.d (.bool true)))],[.sl false n9 cs]⟩) (s1:=⟨[],[.sl false n9 ds]⟩) (by
  simp at e;simp -implicitDefEqProofs [Z32_L0,au,w1,h12,e,List.idxOf,List.findIdx,List.findIdx.go])
 simp -implicitDefEqProofs [Z32,Z32_B,lp]
def Ds (O:ap):Prop:=∀(g:Nat) (first caps:List D) (f:D→Int) (cs:List D) (cp:Option Nat),cs.length≤12→CmpOk O g first caps f n9 cs →
 ∃ds:List D,ds.Perm cs∧Asc f ds∧O F2f [.sl 0 [] 0 cs.length cp,.d (.fn g first caps)] [.sl false n9 cs]=some (.tup [],[.sl false n9 ds],[])
theorem Yo (hT:T F2f=some Z2f) (hTp:T F32=some Z32) (hi:xr (den T A)) (hl:A3 (den T A) F25):Ds (den T A):=by
 intro g first caps f cs cp hl12 ok;obtain ⟨v,ev⟩:=hl cs.length hl12;obtain ⟨ds,h1,h2,e⟩:=ais hTp hi g first caps f cs cp v hl12 ok;refine ⟨ds,h1,h2,i4 hT rfl ?_⟩
 have w1:IntKind.u64.wrap (cs.length:Int)=cs.length:=by
  simp [IntKind.wrap,IntKind.bits,IntKind.signed]; omega
 simp -implicitDefEqProofs [Z2f,Z2f_B,w1,ev,e,List.idxOf,List.findIdx,List.findIdx.go]
theorem a1o {O:ap} (hd:wm O) {p:Int} [IsP p] {b:Fp p} (hb:2≤b.len) (hbl:b.len<2000):∀(n:Nat) (a:Fp p) (i:Nat),a.len≤n→a≠0→n<2000→i+n<100000→∃(k:Nat) (r:Fp p),a=r*pw b k∧¬ Dv b r ∧
 dn O 0 (.loop Z1k_L0) ⟨[(0,(.d (.int .i64 p))),(1,(.d (.sl .leaf (aq .i64 (row a))))),(2,(.d (.sl .leaf (aq .i64 (row b))))),(8,(.d (.int .i64 i)))],[]⟩=some (.ret,⟨[(6,(.d (.sl .leaf (aq .i64 (row r))))),(7,(.d (.int .i64 ((i+k:Nat)))))],[]⟩)
 | 0,a,i,hn,ha,_,_=>absurd (Pol.len_zero_iff.1 (by omega)) ha
 | n+1,a,i,hn,ha,hn2,hi=>by
  have hb0:b≠0:=fun h=>by rw [h,Pol.len_zero] at hb; omega
  have e:=hd p a b hb0 (by omega) (by omega)
  by_cases h0:a%b=0
  ·have hm:=Pol.div_mod a b
   rw [h0,Gq.add_zero] at hm;have hq:a/b≠0:=fun h=>ha (by rw [hm,h,Gq.zero_mul])
   have hl:=Pol.len_mul hq hb0;rw [←hm] at hl;obtain ⟨k,r,e1,e2,e3⟩:=a1o hd hb hbl n (a/b) (i+1) (by omega) hq (by omega) (by omega)
   refine ⟨k+1,r,?_,e2,?_⟩
   ·rw [pw,←Gq.mul_assoc,←e1]; exact hm
   ·have w1:IntKind.i64.wrap ((i:Int)+1)=((i+1:Nat):Int):=(w64 (x:=(i:Int)+1) (by omega)).trans (by omega)
    rw [show i+(k+1)=i+1+k by omega]
    refine bq ?_ e3;simp -implicitDefEqProofs [Z1k_L0,au,e,h0,row_zero,w1]
  ·refine ⟨0,a,(Gq.mul_one a).symm,fun hdv=>h0 ((zf hb0).1 hdv),mj ?_⟩
   have hp:=Pol.len_pos h0;simp -implicitDefEqProofs [Z1k_L0,au,e,hp]
def Gh (O:ap):Prop:=∀(p:Int) [IsP p] (a b:Fp p),a≠0→2≤b.len→a.len<1000→b.len<1000→∃(k:Nat) (r:Fp p),a=r*pw b k∧¬ Dv b r ∧
 ask O F1k [(D.int .i64 p),(D.sl .leaf (aq .i64 (row a))),(D.sl .leaf (aq .i64 (row b)))]=some (.tup [(D.sl .leaf (aq .i64 (row r))),(D.int .i64 k)])
theorem aaf (hT:T F1k=some Z1k) (hd:wm (den T A)):Gh (den T A):=by
 intro p i a b ha hb hal hbl;obtain ⟨k,r,h1,h2,e⟩:=a1o hd hb (by omega) a.len a 0 (bp _) ha (by omega) (by omega)
 have e0:((0:Nat):Int)=0:=rfl;rw [e0,br] at e;refine ⟨k,r,h1,h2,ch hT rfl ?_⟩;simp -implicitDefEqProofs [Z1k,Z1k_B,e]
section
variable {p:Int} [IsP p]
theorem ul {n:Nat} (h:n≤12):p^n≤13841287201:=by
 have hp:=IsP.pos (p:=p);have h1:=qp (p:=p) (by omega) h
 have h2:p^12≤13841287201:=by
  rcases (inferInstance:IsP p).h with rfl | rfl | rfl | rfl <;> decide
 omega
theorem rt (n:Nat):0<p^n:=Int.pow_pos (IsP.pos)
theorem O9 (n:Nat):2*p^n≤p^(n+1):=by
 have hp:=IsP.ge (p:=p);rw [jz,ku];exact du hp (Int.le_of_lt (rt n))
theorem U4 {most:Int}:∀(n:Nat) (out:Int),0<out→out*p^n≤most→Ib p most n out=out*p^n
 | 0,out,h0,h=>by rw [Int.pow_zero,tf]; rfl
 | n+1,out,h0,h=>by
  have hp:=IsP.pos (p:=p);have e:out*p^(n+1)=out*p*p^n:=by rw [jz,y9,ku p]
  rw [e] at h ⊢;have h1:1≤p^(n+1):=rt (n+1);have h2:out*1≤out*p^(n+1):=du h1 (by omega)
  rw [e] at h2;rw [Ib,if_neg (by omega)]
  exact U4 n (out*p) (Int.mul_pos h0 hp) h
theorem Dm {n:Nat} (hn:n≤12) {k:Int} (h1:p^n≤k) (h2:k<2*p^n):Monic (pr p k)∧(pr p k).len=n+1:=by
 have hp:=IsP.ge (p:=p);have hb:=ul (p:=p) hn;have hpos:=rt (p:=p) n;have ok:Ez k:=⟨by omega,by omega⟩
 have hs:=O9 (p:=p) n;have hlt:=J5 (p:=p) ok (d:=n+1) (by omega)
 have hc:(pr p k).c n=1:=by
  rw [T4 ok]
  have:k/p^n=1:=by
   have e:k=(k-p^n)+p^n:=by omega
   rw [e,Int.add_ediv_of_dvd_right (Int.dvd_refl _),Int.ediv_self (by omega),tv (by omega) (by omega)]; rfl
  rw [this]; rfl
 have hl:=Pol.len_eq hlt (by rw [hc]; exact Fd.one_ne)
 refine ⟨⟨?_,fun h0=>by rw [h0,Pol.len_zero] at hl; omega⟩,hl⟩
 unfold Pol.ld;rw [hl]; exact hc
theorem uy {n:Nat} (_hn:n≤12) {q:Fp p} (hq:Monic q) (hl:q.len=n+1):p^n≤gt q∧gt q<2*p^n:=by
 have hp:=IsP.ge (p:=p);have hpos:=rt (p:=p) n;have h1:=Ge q;have h2:=a9z (km q) n;have h3:q.c n=1:=by have:=hq.1; unfold Pol.ld at this; rwa [hl] at this
 rw [jc,h3,C9] at h2
 have h4:gt q/p^n<p:=by
  apply m6 hpos;rw [hl,jz,ku] at h1;exact h1.2
 have h5:0≤gt q/p^n:=sd h1.1 (by omega)
 have h6:gt q/p^n=1:=by
  have:gt q/p^n%p=gt q/p^n:=my h5 h4;have h7:(1:Int)=gt q/p^n%p:=h2;omega
 have h8:=Int.mul_ediv_add_emod (gt q) (p^n);rw [h6,tf] at h8;have h9:=fm (gt q) (show p^n≠0 by omega)
 have h10:=eh (gt q) hpos;omega
theorem Lz {n:Nat} (hn:n≤12) {q:Fp p} (hq:Monic q) (hl:q.len=n+1):pr p (gt q)=q:=N0 (by
 have:=uy hn hq hl;have:=ul (p:=p) hn;omega)
theorem a82 {O:ap} (hnu:zq O) (hr:Bd O) {a:Fp p} (hal:a.len<1000) {n:Nat} (hn:n≤12):∀(m:Nat) (k:Int),p^n≤k→k<2*p^n→(2*p^n-k).toNat≤m→(∃k0,k≤k0∧k0<2*p^n∧Dv (pr p k0) a)→∃b:Fp p,Monic b∧b.len=n+1∧Dv b a ∧
 dn O 0 (.loop Z1m_L0) ⟨[(0,(.d (.int .i64 p))),(1,(.d (.sl .leaf (aq .i64 (row a))))),(7,(.d (.int .i64 (p^n)))),(8,(.d (.int .i64 k)))],[]⟩=some (.ret,⟨[(6,(.d (.sl .leaf (aq .i64 (row b)))))],[]⟩)
 | 0,k,h1,h2,hm,hx=>by omega
 | m+1,k,h1,h2,hm,hx=>by
  have hb:=ul (p:=p) hn;have hpos:=rt (p:=p) n;obtain ⟨m1,m2⟩:=Dm hn h1 h2;have e1:=hnu p k (by omega) (by omega)
  have e2:=hr p a (pr p k) m1.2 (by omega) (by omega)
  have w1:IntKind.i64.wrap (2*p^n)=2*p^n:=w64 (by omega)
  have w2:IntKind.i64.wrap (k+1)=k+1:=w64 (by omega)
  by_cases hd:Dv (pr p k) a
  ·refine ⟨pr p k,m1,m2,hd,mj ?_⟩
   have h0:=(zf m1.2).1 hd;rw [h0,row_zero] at e2;simp -implicitDefEqProofs [Z1m_L0,au,e1,e2,w1,h2]
  ·obtain ⟨k0,g1,g2,g3⟩:=hx
   have hne:k≠k0:=fun h=>hd (h▸g3)
   obtain ⟨b,b1,b2,b3,e⟩:=a82 hnu hr hal hn m (k+1) (by omega) (by omega) (by omega) ⟨k0,by omega,g2,g3⟩
   refine ⟨b,b1,b2,b3,bq ?_ e⟩;have h0:a%pr p k≠0:=fun h=>hd ((zf m1.2).2 h)
   have h0':row (a%pr p k)≠[]:=fun h=>h0 (aat.1 h)
   have h0'':(a%pr p k).len≠0:=fun h=>h0 (Pol.len_zero_iff.1 h)
   simp -implicitDefEqProofs [Z1m_L0,au,e1,e2,w1,w2,h2,h0'']
end
def tg (O:ap):Prop:=∀(p:Int) [IsP p] (a:Fp p) (n:Nat),1≤n→n≤12→a.len<1000→a≠0→(∃q,Monic q∧q.len=n+1∧Dv q a)→∃b:Fp p,Monic b∧b.len=n+1∧Dv b a ∧
 ask O F1m [(D.int .i64 p),(D.sl .leaf (aq .i64 (row a))),(D.int .i64 n)]=some (D.sl .leaf (aq .i64 (row b)))
theorem Sx (hT:T F1m=some Z1m) (hnu:zq (den T A)) (hr:Bd (den T A)) (hno:Ym (den T A)) (hdg:pu (den T A)) (hld:y7 (den T A)) (hinv:rf (den T A)) (hs:uq (den T A)):tg (den T A):=by
 intro p i a n hn1 hn hal ha ⟨q,q1,q2,q3⟩;have hp:=IsP.ge (p:=p);have hp7:=IsP.le (p:=p);have e1:=hdg (row a) (by rw [cu]; omega)
 rw [cu] at e1
 by_cases hd:a.len=n+1
 ·have hr:=nu a.ld
  have hin:=A2 p (rep a.ld);have e2:=hld (row a) (by rw [cu]; omega)
  rw [Gl] at e2;have e3:=hinv p (rep a.ld) (by omega) (by omega) hr.1 hr.2
  have e4:=hs p (inv p (rep a.ld)) a (by omega) (by omega) (by omega)
  rw [wg _ (Pol.ld_ne ha)] at e4;have hd2:(a.len:Int)-1=n:=by omega
  refine ⟨mon a,pf ha,by rw [uj ha,hd],(Di ha).2 (.refl a),ch hT rfl ?_⟩
  simp -implicitDefEqProofs [Z1m,Z1m_B,au,e1,e2,e3,e4,hd2,mon]
 ·have hd2:¬ (a.len:Int)-1=n:=by omega
  have hb:=ul (p:=p) hn;have hpos:=rt (p:=p) n;have e2:=hno p n 1099511627776 (by omega) (by omega)
  rw [U4 n 1 (by omega) (by omega),Int.one_mul] at e2
  have hq:=uy hn q1 q2;obtain ⟨b,b1,b2,b3,e⟩:=a82 hnu hr hal hn (2*p^n-p^n).toNat (p^n) (xu _) (by omega) (bp _) ⟨gt q,hq.1,hq.2,by rw [Lz hn q1 q2]; exact q3⟩
  refine ⟨b,b1,b2,b3,ch hT rfl ?_⟩;simp -implicitDefEqProofs [Z1m,Z1m_B,au,e1,e2,hd2,e]
end Pe
