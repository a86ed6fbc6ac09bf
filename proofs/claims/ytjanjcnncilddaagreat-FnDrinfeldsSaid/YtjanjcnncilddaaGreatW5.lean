/-
  A part of the proof: an evaluator for a small form of the code, its soundness, and contracts of functions over it.
-/
import Derived.KernelRfl
import Derived.Test.YtjanjcnncilddaaGreatW1
import Derived.Test.YtjanjcnncilddaaGreatW2
import Derived.Test.YtjanjcnncilddaaGreatW3
import Derived.Test.YtjanjcnncilddaaGreatW4

namespace Pe
open Go Gq
variable {T:Nat→Option Fn} {A:Oracle}
def C_isNaN (O:Oracle) (F:Nat):Prop:=∀x:Int,ask O F [(D.int .i64 x)]=some (D.bool false)
theorem c_isNaN (hT:T F2=some Z2):C_isNaN (den T A) F2:=fun x=>by
 refine ask_of hT rfl ?_
 simp -implicitDefEqProofs [Z2,Z2_B]
theorem c_isNaN64 (hT:T F3=some Z3):C_isNaN (den T A) F3:=fun x=>by
 refine ask_of hT rfl ?_
 simp -implicitDefEqProofs [Z3,Z3_B]
def cmpI (x y:Int):Int:=if x<y then -1 else if y<x then 1 else 0
def C_compareI (O:Oracle) (F:Nat):Prop:=∀x y:Int,ask O F [(D.int .i64 x),(D.int .i64 y)]=some (D.int .i64 (cmpI x y))
theorem c_compareI (hT:T F0=some Z0) (h:C_isNaN (den T A) F2):C_compareI (den T A) F0:=fun x y=>by
 have e1:=h x
 have e2:=h y
 refine ask_of hT rfl ?_
 unfold cmpI
 by_cases h1:x<y
 ·simp -implicitDefEqProofs [Z0,Z0_B,e1,e2,h1,dn_cond]
 ·by_cases h2:y<x
  ·simp -implicitDefEqProofs [Z0,Z0_B,e1,e2,h1,h2,dn_cond]
  ·simp -implicitDefEqProofs [Z0,Z0_B,e1,e2,h1,h2,dn_cond]
theorem c_compareI64 (hT:T F1=some Z1) (h:C_isNaN (den T A) F3):C_compareI (den T A) F1:=fun x y=>by
 have e1:=h x
 have e2:=h y
 refine ask_of hT rfl ?_
 unfold cmpI
 by_cases h1:x<y
 ·simp -implicitDefEqProofs [Z1,Z1_B,e1,e2,h1,dn_cond]
 ·by_cases h2:y<x
  ·simp -implicitDefEqProofs [Z1,Z1_B,e1,e2,h1,h2,dn_cond]
  ·simp -implicitDefEqProofs [Z1,Z1_B,e1,e2,h1,h2,dn_cond]
def cmpL (l m:List Int):Nat→Int
 | 0=>0
 | n+1=>if cmpI (cf l n) (cf m n)≠0 then cmpI (cf l n) (cf m n) else cmpL l m n
theorem l_compare {O:Oracle} (hc:C_compareI O F1) {l m:List Int} (hlm:l.length=m.length) (hl:l.length<1000000):∀n:Nat,n≤l.length →
 dn O 0 (.loop Zq_L0) ⟨[(0,(.d (.sl .leaf (ints .i64 l)))),(1,(.d (.sl .leaf (ints .i64 m)))),(6,(.d (.int .i64 ((n:Int)-1))))],[]⟩ =
  if cmpL l m n=0 then some (.exit 0,⟨[(0,(.d (.sl .leaf (ints .i64 l)))),(1,(.d (.sl .leaf (ints .i64 m)))),(6,(.d (.int .i64 (-1)))),(20,(.d (.bool false)))],[]⟩) else some (.ret,⟨[(4,(.d (.int .i64 (cmpL l m n))))],[]⟩)
 | 0,hn=>by
  simp only [cmpL,if_true]
  exact dn_stop (by simp -implicitDefEqProofs [Zq_L0,dn_cond])
 | n+1,hn=>by
  have t0:(((n+1:Nat):Int)-1)=(n:Int):=by omega
  rw [t0]
  have h1:n<l.length:=by omega
  have h2:n<m.length:=by omega
  have e1:l[n]? = some (cf l n):=by rw [List.getElem?_eq_getElem h1,cf_lt h1]
  have e2:m[n]? = some (cf m n):=by rw [List.getElem?_eq_getElem h2,cf_lt h2]
  have e1':l[n]=cf l n:=(cf_lt h1).symm
  have e2':m[n]=cf m n:=(cf_lt h2).symm
  have e3:=hc (cf l n) (cf m n)
  have w1:IntKind.i64.wrap ((n:Int)-1)=(n:Int)-1:=w64 (by omega)
  by_cases h0:cmpI (cf l n) (cf m n)=0
  ·rw [h0] at e3
   have e:cmpL l m (n+1)=cmpL l m n:=if_neg (fun h=>h h0)
   rw [e]
   refine dn_round ?_ (l_compare hc hlm hl n (by omega))
   simp -implicitDefEqProofs [Zq_L0,dn_cond,h1,h2,e1',e2',e3,w1]
  ·have e:cmpL l m (n+1)=cmpI (cf l n) (cf m n):=if_pos h0
   rw [e,if_neg h0]
   refine dn_back ?_
   simp -implicitDefEqProofs [Zq_L0,dn_cond,h1,h2,e1',e2',e3,h0]
def cmpR (l m:List Int):Int:=if cmpI l.length m.length≠0 then cmpI l.length m.length else cmpL l m l.length
def C_compare (O:Oracle):Prop:=∀l m:List Int,l.length<1000000→m.length<1000000→ask O Fq [(D.sl .leaf (ints .i64 l)),(D.sl .leaf (ints .i64 m))]=some (D.int .i64 (cmpR l m))
theorem c_compare (hT:T Fq=some Zq) (h1:C_compareI (den T A) F0) (h2:C_compareI (den T A) F1):C_compare (den T A):=by
 intro l m hl hm
 have e1:=h1 l.length m.length
 unfold cmpR
 refine ask_of hT rfl ?_
 by_cases h0:cmpI l.length m.length=0
 ·have hlm:l.length=m.length:=by
   unfold cmpI at h0
   split at h0
   ·omega
   ·split at h0 <;> omega
  rw [if_neg (fun h=>h h0)]
  rw [h0] at e1
  have e2:=l_compare h2 hlm hl l.length (Nat.le_refl _)
  have w1:IntKind.i64.wrap ((l.length:Int)-1)=(l.length:Int)-1:=w64 (by omega)
  by_cases hz:cmpL l m l.length=0
  ·rw [if_pos hz] at e2
   simp -implicitDefEqProofs [Zq,Zq_B,dn_cond,e1,e2,w1,hz]
  ·rw [if_neg hz] at e2
   simp -implicitDefEqProofs [Zq,Zq_B,dn_cond,e1,e2,w1]
 ·rw [if_pos h0]
  simp -implicitDefEqProofs [Zq,Zq_B,dn_cond,e1,h0]
section
variable (f:D→Int)
def insG:List D→D→List D→List D
 | [],x,R=>x::R
 | y::L,x,R=>if f x<f y then insG L x (y::R) else (y::L).reverse++x::R
def srtG:List D→List D→List D
 | P,[]=>P
 | P,x::r=>srtG (insG f P.reverse x []) r
theorem insG_app:∀(L:List D) (x:D) (R S:List D),insG f L x (R++S)=insG f L x R++S
 | [],x,R,S=>rfl
 | y::L,x,R,S=>by
  unfold insG
  split
  ·rw [←List.cons_append,insG_app L x (y::R) S]
  ·simp
theorem insG_perm:∀(L:List D) (x:D) (R:List D),(insG f L x R).Perm (x::(L.reverse++R))
 | [],x,R=>.refl _
 | y::L,x,R=>by
  unfold insG
  split
  ·refine (insG_perm L x (y::R)).trans ?_
   simp
  ·exact List.perm_middle
theorem insG_len (L:List D) (x:D) (R:List D):(insG f L x R).length=L.length+R.length+1:=by
 have:=(insG_perm f L x R).length_eq
 simpa using this
def Asc (l:List D):Prop:=l.Pairwise fun x y=>f x≤f y
theorem insG_asc:∀(L:List D) (x:D) (R:List D),Asc f (L.reverse++R)→(∀y∈R,f x≤f y)→Asc f (insG f L x R)
 | [],x,R,h,hx=>by
  unfold insG Asc
  refine List.pairwise_cons.2 ⟨hx,?_⟩
  have h':Asc f R:=by simpa using h
  exact h'
 | y::L,x,R,h,hx=>by
  unfold insG
  split
  ·rename_i hlt
   refine insG_asc L x (y::R) (by simpa using h) fun z hz=>?_
   rcases List.mem_cons.1 hz with rfl | hz
   ·omega
   ·exact hx z hz
  ·rename_i hlt
   unfold Asc at h ⊢
   rw [List.pairwise_append] at h ⊢
   refine ⟨h.1,List.pairwise_cons.2 ⟨hx,h.2.1⟩,fun a ha b hb=>?_⟩
   rcases List.mem_cons.1 hb with rfl | hb
   ·have hay:f a≤f y:=by
     have h1:=h.1
     rw [List.reverse_cons,List.pairwise_append] at h1
     rw [List.reverse_cons] at ha
     rcases List.mem_append.1 ha with ha | ha
     ·exact h1.2.2 a ha y (by simp)
     ·simp at ha; rw [ha]; exact Int.le_refl _
    omega
   ·exact h.2.2 a ha b hb
theorem srtG_perm:∀(r P:List D),(srtG f P r).Perm (P++r)
 | [],P=>by simp [srtG]
 | x::r,P=>by
  unfold srtG
  refine (srtG_perm r _).trans ?_
  have:=insG_perm f P.reverse x []
  refine (List.Perm.append_right r this).trans ?_
  simp
  exact List.perm_middle.symm
theorem srtG_asc:∀(r P:List D),Asc f P→Asc f (srtG f P r)
 | [],P,h=>h
 | x::r,P,h=>by
  unfold srtG
  exact srtG_asc r _ (insG_asc f P.reverse x [] (by simpa using h) (by simp))
end
section
variable {O:Oracle} {g:Nat} {first caps:List D}
abbrev facSh:Sh:=.st [.leaf,.leaf]
structure CmpOk (O:Oracle) (g:Nat) (first caps:List D) (f:D→Int) (s:Sh) (cs:List D):Prop where
 nf:noTup first
 nc:noTup caps
 nx:noTup cs
 sh:AllSh s cs
 ask:∀x∈cs,∀y∈cs,ask O g (first++[x,y]++caps)=some (D.int .i64 (cmpI (f x) (f y)))
theorem CmpOk.perm {f:D→Int} {s:Sh} {cs ds:List D} (h:CmpOk O g first caps f s cs) (p:ds.Perm cs):CmpOk O g first caps f s ds:=
 ⟨h.nf,h.nc,fun x hx=>h.nx x (p.subset hx),fun x hx=>h.sh x (p.subset hx),fun x hx y hy=>h.ask x (p.subset hx) y (p.subset hy)⟩
theorem CmpOk.call {f:D→Int} {s:Sh} {cs:List D} (h:CmpOk O g first caps f s cs) {hp:Heap} {np:Nat} {news:List Nat} {x y:D} (hx:x∈cs) (hy:y∈cs) :
 kCall O np hp .flat news (g,first.map .d,caps.map .d) [.d x,.d y]=some (.d (D.int .i64 (cmpI (f x) (f y))),hp):=by
 have e:toDs hp (first.map .d++[.d x,.d y]++caps.map .d)=some (first++[x,y]++caps):=
  toDs_app hp (toDs_app hp (toDs_map hp h.nf) (toDs_map hp (ds:=[x,y]) (by intro z hz; simp at hz; rcases hz with rfl | rfl; exact h.nx _ hx; exact h.nx _ hy))) (toDs_map hp h.nc)
 rw [kCall_flat,e,Option.bind_some,kAsk_ask,h.ask x hx y hy,Option.bind_some,kAns_flat,show (D.int IntKind.i64 (cmpI (f x) (f y))).flat=true from rfl,if_pos rfl]
theorem cmpI_neg (x y:Int):cmpI x y<0↔x<y:=by
 unfold cmpI
 split
 ·omega
 ·split <;> omega
theorem l_insF {f:D→Int} {n:Nat} {cp:Option Nat} (hn:n≤1000) {i:Nat}:∀(L:List D) (x:D) (R:List D),(L.reverse++x::R).length=n→CmpOk O g first caps f facSh (L.reverse++x::R)→∃j:Int,
 dn O 1 (.loop Z2n_L0) ⟨[(0,.sl 0 [] 0 n cp),(1,(.d (.int .i64 0))),(2,(.d (.int .i64 n))),(3,.d (.fn g first caps)),(8,(.d (.int .i64 i))),(9,(.d (.int .i64 L.length)))],[.sl false facSh (L.reverse++x::R)]⟩ =
  some (.exit 2,⟨[(0,.sl 0 [] 0 n cp),(1,(.d (.int .i64 0))),(2,(.d (.int .i64 n))),(3,.d (.fn g first caps)),(8,(.d (.int .i64 i))),(9,(.d (.int .i64 j))),(34,(.d (.bool false)))],[.sl false facSh (insG f L x R)]⟩)
 | [],x,R,hl,ok=>by
  refine ⟨0,dn_stop ?_⟩
  simp -implicitDefEqProofs [Z2n_L0,dn_cond,insG]
 | y::L,x,R,hl,ok=>by
  have hj:(y::L).length=L.length+1:=rfl
  have hlen:((y::L).reverse++x::R).length=L.length+1+(R.length+1):=by simp; omega
  have e1:((y::L).reverse++x::R)[L.length+1]? = some x:=by
   rw [List.getElem?_append_right (by simp)]; simp
  have e2:((y::L).reverse++x::R)[L.length]? = some y:=by
   rw [List.getElem?_append_left (by simp)]; simp
  have m1:x∈(y::L).reverse++x::R:=by simp
  have m2:y∈(y::L).reverse++x::R:=by simp
  have c:=ok.call (hp:=[.sl false facSh ((y::L).reverse++x::R)]) (np:=1) (news:=[]) m1 m2
  have s1:=ok.sh x m1
  have s2:=ok.sh y m2
  have n1:=ok.nx x m1
  have n2:=ok.nx y m2
  have e3:(((y::L).reverse++x::R).set (L.length+1) y).set L.length x=L.reverse++x::y::R:=by
   rw [List.set_append_right _ _ (by simp),List.set_append_left _ _ (by simp)]
   simp
  have hp:((y::L).reverse++x::R).Perm (L.reverse++x::y::R):=by
   simp
   exact (List.Perm.swap x y R).append_left _
  have w1:IntKind.i64.wrap (L.length:Int)=L.length:=w64 (by omega)
  have h0:(0:Int)<(L.length:Int)+1:=by omega
  have h00:(0:Int)≤(L.length:Int)+1:=by omega
  have h1:L.length+1<n:=by omega
  have h2:L.length<n:=by omega
  have h3:L.length<((y::L).reverse++x::R).length:=by omega
  have h4:L.length+1<((y::L).reverse++x::R).length:=by omega
  have e4:(((y::L).reverse++x::R).set (L.length+1) y)[L.length]? = some y:=by
   rw [List.getElem?_set_ne (by omega),e2]
  unfold insG
  rw [hj,show ((L.length+1:Nat):Int)=(L.length:Int)+1 by omega]
  generalize (y::L).reverse++x::R=cs at *
  have e1':cs[L.length+1]=x:=by rw [List.getElem?_eq_getElem h4] at e1; exact Option.some.inj e1
  have e2':cs[L.length]=y:=by rw [List.getElem?_eq_getElem h3] at e2; exact Option.some.inj e2
  by_cases hlt:f x<f y
  ·rw [if_pos hlt]
   obtain ⟨j,e⟩:=l_insF hn L x (y::R) (by rw [←hp.length_eq]; omega) (ok.perm hp.symm)
   have hc:=(cmpI_neg (f x) (f y)).2 hlt
   refine ⟨j,dn_round ?_ e⟩
   simp -implicitDefEqProofs [Z2n_L0,dn_cond,h0,h00,h1,h2,h3,h4,e1',e2',c,s1,s2,n1,n2,w1,hc,e3]
  ·rw [if_neg hlt]
   have hc:=mt (cmpI_neg (f x) (f y)).1 hlt
   refine ⟨(L.length:Int)+1,dn_stop ?_⟩
   simp -implicitDefEqProofs [Z2n_L0,dn_cond,h0,h00,h1,h2,h3,h4,e1',e2',c,s1,s2,w1,hc]
end
theorem l_srtF {O:Oracle} {g:Nat} {first caps:List D} {f:D→Int} {n:Nat} {cp:Option Nat} (hn:n≤1000):∀(r P:List D),P.length+r.length=n→0<P.length→CmpOk O g first caps f facSh (P++r) →
 dn O 1 (.loop Z2n_L1) ⟨[(0,.sl 0 [] 0 n cp),(1,(.d (.int .i64 0))),(2,(.d (.int .i64 n))),(3,.d (.fn g first caps)),(8,(.d (.int .i64 P.length)))],[.sl false facSh (P++r)]⟩ =
  some (.exit 0,⟨[(0,.sl 0 [] 0 n cp),(1,(.d (.int .i64 0))),(2,(.d (.int .i64 n))),(3,.d (.fn g first caps)),(8,(.d (.int .i64 n))),(14,(.d (.bool false)))],[.sl false facSh (srtG f P r)]⟩)
 | [],P,hl,hP,ok=>by
  have hl':P.length=n:=by simpa using hl
  refine dn_stop ?_
  simp -implicitDefEqProofs [Z2n_L1,dn_cond,srtG,hl']
 | x::r,P,hl,hP,ok=>by
  simp at hl
  have e0:P.reverse.reverse++x::r=P++x::r:=by simp
  obtain ⟨j,e⟩:=l_insF (O:=O) (g:=g) (first:=first) (caps:=caps) (f:=f) (n:=n) (cp:=cp) hn (i:=P.length) P.reverse x r (by simp; omega) (by rw [e0]; exact ok)
  rw [e0,List.length_reverse,←List.nil_append r,insG_app,List.nil_append] at e
  have hlen:=insG_len f P.reverse x []
  rw [List.length_reverse,List.length_nil,Nat.add_zero] at hlen
  have hperm:(insG f P.reverse x []++r).Perm (P++x::r):=by
   refine (List.Perm.append_right r (insG_perm f P.reverse x [])).trans ?_
   simp
   exact List.perm_middle.symm
  have ih:=l_srtF (O:=O) (g:=g) (first:=first) (caps:=caps) (f:=f) (cp:=cp) hn r (insG f P.reverse x []) (by rw [hlen]; omega) (by omega) (ok.perm hperm)
  have hlt:P.length<n:=by omega
  have w1:IntKind.i64.wrap ((P.length:Int)+1)=((P.length+1:Nat):Int):=(w64 (x:=(P.length:Int)+1) (by omega)).trans (by omega)
  rw [hlen] at ih
  unfold srtG
  refine dn_round ?_ ih
  simp -implicitDefEqProofs [Z2n_L1,dn_cond,hlt,e,w1]
def H_sort (O:Oracle) (F:Nat) (args:V→List V→List V):Prop:=∀(g:Nat) (first caps:List D) (f:D→Int) (cs:List D) (cp:Option Nat),cs.length≤12→CmpOk O g first caps f facSh cs →
 ∃ds:List D,ds.Perm cs∧Asc f ds∧O F (args (.sl 0 [] 0 cs.length cp) [(.d (.int .i64 cs.length)),.d (.fn g first caps)]) [.sl false facSh cs]=some (.tup [],[.sl false facSh ds],[])
def H_insertion (O:Oracle):Prop:=H_sort O F2n fun s l=>[s,(.d (.int .i64 0))]++l
theorem h_insertion (hT:T F2n=some Z2n):H_insertion (den T A):=by
 intro g first caps f cs cp hl ok
 cases cs with
 | nil=>
  refine ⟨[],.refl _,List.Pairwise.nil,den_of hT rfl ?_⟩
  have st:=dn_stop (O:=den T A) (np:=1) (c:=Z2n_L1) (s:=⟨[(0,.sl 0 [] 0 0 cp),(1,(.d (.int .i64 0))),(2,(.d (.int .i64 0))),(3,.d (.fn g first caps)),(8,(.d (.int .i64 1)))],[.sl false facSh []]⟩) (s1:=⟨[(0,.sl 0 [] 0 0 cp),(1,(.d (.int .i64 0))),(2,(.d (.int .i64 0))),(3,.d (.fn g first caps)),(8,(.d (.int .i64 1))),(14,(.d (.bool false)))],[.sl false facSh []]⟩) (id:=0) (by simp -implicitDefEqProofs [Z2n_L1,dn_cond])
  have w1:IntKind.i64.wrap 1=1:=w64 (by omega)
  simp -implicitDefEqProofs [Z2n,Z2n_B,st,w1]
 | cons x r=>
  have e:=l_srtF (O:=den T A) (g:=g) (first:=first) (caps:=caps) (f:=f) (n:=(x::r).length) (cp:=cp) (by omega) r [x] (by simp; omega) (by simp) ok
  have e1:(([x]:List D).length:Int)=1:=rfl
  rw [e1] at e
  refine ⟨srtG f [x] r,srtG_perm f r [x],srtG_asc f r [x] (List.pairwise_singleton _ _),den_of hT rfl ?_⟩
  have w1:IntKind.i64.wrap 1=1:=w64 (by omega)
  rw [List.singleton_append] at e
  generalize x::r=cs at *
  simp -implicitDefEqProofs [Z2n,Z2n_B,e,w1]
def C_len64 (O:Oracle) (F:Nat):Prop:=∀n:Nat,n≤12→∃v:Int,ask O F [.int .u64 n]=some (D.int .i64 v)
theorem c_len64 (hT:T F2d=some Z2d):C_len64 (den T A) F2d:=by
 intro n hn
 have key:∀v:Int,run (fun _ _ _=>none) 1 Z2d [.d (.int .u64 n)] []=some ((.d (.int .i64 v)),[],[])→ask (den T A) F2d [.int .u64 n]=some (D.int .i64 v):=by
  intro v h
  have h2:=den_run (A:=A) hT (n:=1) (vs:=[.d (.int .u64 n)]) (bs:=[]) (ans:=((.d (.int .i64 v)),[],[])) (by
   obtain ⟨qs,h3,h4⟩:=run_rests h
   cases qs with
   | nil=>exact h4 _ (by intro q hq; simp at hq)
   | cons q qs=>exact absurd (h3 q (by simp)) (by simp))
  unfold ask
  rw [show ([D.int .u64 n]:List D).map V.d=[.d (.int .u64 n)] from rfl,h2]
  rfl
 have h:n=0∨n=1∨n=2∨n=3∨n=4∨n=5∨n=6∨n=7∨n=8∨n=9∨n=10∨n=11∨n=12:=by omega
 rcases h with rfl | rfl | rfl | rfl | rfl | rfl | rfl | rfl | rfl | rfl | rfl | rfl | rfl
 ·exact ⟨0,key 0 (by kernel_rfl)⟩
 ·exact ⟨1,key 1 (by kernel_rfl)⟩
 ·exact ⟨2,key 2 (by kernel_rfl)⟩
 ·exact ⟨2,key 2 (by kernel_rfl)⟩
 ·exact ⟨3,key 3 (by kernel_rfl)⟩
 ·exact ⟨3,key 3 (by kernel_rfl)⟩
 ·exact ⟨3,key 3 (by kernel_rfl)⟩
 ·exact ⟨3,key 3 (by kernel_rfl)⟩
 ·exact ⟨4,key 4 (by kernel_rfl)⟩
 ·exact ⟨4,key 4 (by kernel_rfl)⟩
 ·exact ⟨4,key 4 (by kernel_rfl)⟩
 ·exact ⟨4,key 4 (by kernel_rfl)⟩
 ·exact ⟨4,key 4 (by kernel_rfl)⟩
theorem c_len (hT:T F2b=some Z2b) (h:C_len64 (den T A) F2d):C_len64 (den T A) F2b:=by
 intro n hn
 obtain ⟨v,e⟩:=h n hn
 refine ⟨v,ask_of hT rfl ?_⟩
 simp -implicitDefEqProofs [Z2b,Z2b_B,dn_cond,e]
theorem h_pdq (hT:T F2v=some Z2v) (hi:H_insertion (den T A)):∀(g:Nat) (first caps:List D) (f:D→Int) (cs:List D) (cp:Option Nat) (v:Int),cs.length≤12→CmpOk (den T A) g first caps f facSh cs →
 ∃ds:List D,ds.Perm cs∧Asc f ds∧den T A F2v [.sl 0 [] 0 cs.length cp,(.d (.int .i64 0)),(.d (.int .i64 cs.length)),(.d (.int .i64 v)),.d (.fn g first caps)] [.sl false facSh cs]=some (.tup [],[.sl false facSh ds],[]):=by
 intro g first caps f cs cp v hl ok
 obtain ⟨ds,h1,h2,e⟩:=hi g first caps f cs cp hl ok
 refine ⟨ds,h1,h2,den_of hT rfl ?_⟩
 have w1:IntKind.i64.wrap (cs.length:Int)=cs.length:=w64 (by omega)
 have h12:(cs.length:Int)≤12:=by omega
 have lp:=dn_back (O:=den T A) (np:=1) (c:=Z2v_L0) (s:=⟨[(0,.sl 0 [] 0 cs.length cp),(1,(.d (.int .i64 0))),(2,(.d (.int .i64 cs.length))),(3,(.d (.int .i64 v))),(4,.d (.fn g first caps)),(10,(.d (.bool true))),(11,(.d (.bool true)))],[.sl false facSh cs]⟩) (s1:=⟨[],[.sl false facSh ds]⟩) (by
  simp at e
  simp -implicitDefEqProofs [Z2v_L0,dn_cond,w1,h12,e,List.idxOf,List.findIdx,List.findIdx.go])
 simp -implicitDefEqProofs [Z2v,Z2v_B,lp]
def H_sortFunc (O:Oracle):Prop:=∀(g:Nat) (first caps:List D) (f:D→Int) (cs:List D) (cp:Option Nat),cs.length≤12→CmpOk O g first caps f facSh cs →
 ∃ds:List D,ds.Perm cs∧Asc f ds∧O F2j [.sl 0 [] 0 cs.length cp,.d (.fn g first caps)] [.sl false facSh cs]=some (.tup [],[.sl false facSh ds],[])
theorem h_sortFunc (hT:T F2j=some Z2j) (hTp:T F2v=some Z2v) (hi:H_insertion (den T A)) (hl:C_len64 (den T A) F2b):H_sortFunc (den T A):=by
 intro g first caps f cs cp hl12 ok
 obtain ⟨v,ev⟩:=hl cs.length hl12
 obtain ⟨ds,h1,h2,e⟩:=h_pdq hTp hi g first caps f cs cp v hl12 ok
 refine ⟨ds,h1,h2,den_of hT rfl ?_⟩
 have w1:IntKind.u64.wrap (cs.length:Int)=cs.length:=by
  simp [IntKind.wrap,IntKind.bits,IntKind.signed]; omega
 simp -implicitDefEqProofs [Z2j,Z2j_B,w1,ev,e,List.idxOf,List.findIdx,List.findIdx.go]
end Pe

namespace Pe
open Go Gq
variable {T:Nat→Option Fn} {A:Oracle}
theorem l_strip {O:Oracle} (hd:K_divide O) {p:Int} [IsP p] {b:Fp p} (hb:2≤b.len) (hbl:b.len<2000):∀(n:Nat) (a:Fp p) (i:Nat),a.len≤n→a≠0→n<2000→i+n<100000→∃(k:Nat) (r:Fp p),a=r*pw b k∧¬ Dv b r ∧
 dn O 0 (.loop Z1p_L0) ⟨[(0,(.d (.int .i64 p))),(1,(.d (.sl .leaf (ints .i64 (row a))))),(2,(.d (.sl .leaf (ints .i64 (row b))))),(8,(.d (.int .i64 i)))],[]⟩=some (.ret,⟨[(6,(.d (.sl .leaf (ints .i64 (row r))))),(7,(.d (.int .i64 ((i+k:Nat)))))],[]⟩)
 | 0,a,i,hn,ha,_,_=>absurd (Pol.len_zero_iff.1 (by omega)) ha
 | n+1,a,i,hn,ha,hn2,hi=>by
  have hb0:b≠0:=fun h=>by rw [h,Pol.len_zero] at hb; omega
  have e:=hd p a b hb0 (by omega) (by omega)
  by_cases h0:a%b=0
  ·have hm:=Pol.div_mod a b
   rw [h0,Gq.add_zero] at hm
   have hq:a/b≠0:=fun h=>ha (by rw [hm,h,Gq.zero_mul])
   have hl:=Pol.len_mul hq hb0
   rw [←hm] at hl
   obtain ⟨k,r,e1,e2,e3⟩:=l_strip hd hb hbl n (a/b) (i+1) (by omega) hq (by omega) (by omega)
   refine ⟨k+1,r,?_,e2,?_⟩
   ·rw [pw,←Gq.mul_assoc,←e1]; exact hm
   ·have w1:IntKind.i64.wrap ((i:Int)+1)=((i+1:Nat):Int):=(w64 (x:=(i:Int)+1) (by omega)).trans (by omega)
    rw [show i+(k+1)=i+1+k by omega]
    refine dn_round ?_ e3
    simp -implicitDefEqProofs [Z1p_L0,dn_cond,e,h0,row_zero,w1]
  ·refine ⟨0,a,(Gq.mul_one a).symm,fun hdv=>h0 ((dv_iff_mod hb0).1 hdv),dn_back ?_⟩
   have hp:=Pol.len_pos h0
   simp -implicitDefEqProofs [Z1p_L0,dn_cond,e,hp]
def K_strip (O:Oracle):Prop:=∀(p:Int) [IsP p] (a b:Fp p),a≠0→2≤b.len→a.len<1000→b.len<1000→∃(k:Nat) (r:Fp p),a=r*pw b k∧¬ Dv b r ∧
 ask O F1p [(D.int .i64 p),(D.sl .leaf (ints .i64 (row a))),(D.sl .leaf (ints .i64 (row b)))]=some (.tup [(D.sl .leaf (ints .i64 (row r))),(D.int .i64 k)])
theorem k_strip (hT:T F1p=some Z1p) (hd:K_divide (den T A)):K_strip (den T A):=by
 intro p i a b ha hb hal hbl
 obtain ⟨k,r,h1,h2,e⟩:=l_strip hd hb (by omega) a.len a 0 (Nat.le_refl _) ha (by omega) (by omega)
 have e0:((0:Nat):Int)=0:=rfl
 rw [e0,Nat.zero_add] at e
 refine ⟨k,r,h1,h2,ask_of hT rfl ?_⟩
 simp -implicitDefEqProofs [Z1p,Z1p_B,e]
section
variable {p:Int} [IsP p]
theorem ppow_le {n:Nat} (h:n≤12):p^n≤13841287201:=by
 have hp:=IsP.pos (p:=p)
 have h1:=ipow_mono (p:=p) (by omega) h
 have h2:p^12≤13841287201:=by
  rcases (inferInstance:IsP p).h with rfl | rfl | rfl | rfl <;> decide
 omega
theorem ppow_pos (n:Nat):0<p^n:=Int.pow_pos (IsP.pos)
theorem ppow_succ (n:Nat):2*p^n≤p^(n+1):=by
 have hp:=IsP.ge (p:=p)
 rw [Int.pow_succ,Int.mul_comm]
 exact Int.mul_le_mul_of_nonneg_left hp (Int.le_of_lt (ppow_pos n))
theorem normL_eq {most:Int}:∀(n:Nat) (out:Int),0<out→out*p^n≤most→normL p most n out=out*p^n
 | 0,out,h0,h=>by rw [Int.pow_zero,Int.mul_one]; rfl
 | n+1,out,h0,h=>by
  have hp:=IsP.pos (p:=p)
  have e:out*p^(n+1)=out*p*p^n:=by rw [Int.pow_succ,Int.mul_assoc,Int.mul_comm p]
  rw [e] at h ⊢
  have h1:1≤p^(n+1):=ppow_pos (n+1)
  have h2:out*1≤out*p^(n+1):=Int.mul_le_mul_of_nonneg_left h1 (by omega)
  rw [e] at h2
  rw [normL,if_neg (by omega)]
  exact normL_eq n (out*p) (Int.mul_pos h0 hp) h
theorem numP_monic {n:Nat} (hn:n≤12) {k:Int} (h1:p^n≤k) (h2:k<2*p^n):Monic (numP p k)∧(numP p k).len=n+1:=by
 have hp:=IsP.ge (p:=p)
 have hb:=ppow_le (p:=p) hn
 have hpos:=ppow_pos (p:=p) n
 have ok:NumOk k:=⟨by omega,by omega⟩
 have hs:=ppow_succ (p:=p) n
 have hlt:=numP_lt (p:=p) ok (d:=n+1) (by omega)
 have hc:(numP p k).c n=1:=by
  rw [numP_c ok]
  have:k/p^n=1:=by
   have e:k=(k-p^n)+p^n:=by omega
   rw [e,Int.add_ediv_of_dvd_right (Int.dvd_refl _),Int.ediv_self (by omega),Int.ediv_eq_zero_of_lt (by omega) (by omega)]; rfl
  rw [this]; rfl
 have hl:=Pol.len_eq hlt (by rw [hc]; exact Fd.one_ne)
 refine ⟨⟨?_,fun h0=>by rw [h0,Pol.len_zero] at hl; omega⟩,hl⟩
 unfold Pol.ld
 rw [hl]; exact hc
theorem numOf_monic {n:Nat} (_hn:n≤12) {q:Fp p} (hq:Monic q) (hl:q.len=n+1):p^n≤numOf q∧numOf q<2*p^n:=by
 have hp:=IsP.ge (p:=p)
 have hpos:=ppow_pos (p:=p) n
 have h1:=numOf_in q
 have h2:=vl_cf (row_can q) n
 have h3:q.c n=1:=by have:=hq.1; unfold Pol.ld at this; rwa [hl] at this
 rw [row_cf,h3,rep_one] at h2
 have h4:numOf q/p^n<p:=by
  apply Int.ediv_lt_of_lt_mul hpos
  rw [hl,Int.pow_succ,Int.mul_comm] at h1
  exact h1.2
 have h5:0≤numOf q/p^n:=Int.ediv_nonneg h1.1 (by omega)
 have h6:numOf q/p^n=1:=by
  have:numOf q/p^n%p=numOf q/p^n:=Int.emod_eq_of_lt h5 h4
  have h7:(1:Int)=numOf q/p^n%p:=h2
  omega
 have h8:=Int.mul_ediv_add_emod (numOf q) (p^n)
 rw [h6,Int.mul_one] at h8
 have h9:=Int.emod_nonneg (numOf q) (show p^n≠0 by omega)
 have h10:=Int.emod_lt_of_pos (numOf q) hpos
 omega
theorem numP_monic_num {n:Nat} (hn:n≤12) {q:Fp p} (hq:Monic q) (hl:q.len=n+1):numP p (numOf q)=q:=numP_numOf (by
 have:=numOf_monic hn hq hl
 have:=ppow_le (p:=p) hn
 omega)
theorem l_with {O:Oracle} (hnu:K_numbered O) (hr:K_rest O) {a:Fp p} (hal:a.len<1000) {n:Nat} (hn:n≤12):∀(m:Nat) (k:Int),p^n≤k→k<2*p^n→(2*p^n-k).toNat≤m→(∃k0,k≤k0∧k0<2*p^n∧Dv (numP p k0) a)→∃b:Fp p,Monic b∧b.len=n+1∧Dv b a ∧
 dn O 0 (.loop Z1r_L0) ⟨[(0,(.d (.int .i64 p))),(1,(.d (.sl .leaf (ints .i64 (row a))))),(7,(.d (.int .i64 (p^n)))),(8,(.d (.int .i64 k)))],[]⟩=some (.ret,⟨[(6,(.d (.sl .leaf (ints .i64 (row b)))))],[]⟩)
 | 0,k,h1,h2,hm,hx=>by omega
 | m+1,k,h1,h2,hm,hx=>by
  have hb:=ppow_le (p:=p) hn
  have hpos:=ppow_pos (p:=p) n
  obtain ⟨m1,m2⟩:=numP_monic hn h1 h2
  have e1:=hnu p k (by omega) (by omega)
  have e2:=hr p a (numP p k) m1.2 (by omega) (by omega)
  have w1:IntKind.i64.wrap (2*p^n)=2*p^n:=w64 (by omega)
  have w2:IntKind.i64.wrap (k+1)=k+1:=w64 (by omega)
  by_cases hd:Dv (numP p k) a
  ·refine ⟨numP p k,m1,m2,hd,dn_back ?_⟩
   have h0:=(dv_iff_mod m1.2).1 hd
   rw [h0,row_zero] at e2
   simp -implicitDefEqProofs [Z1r_L0,dn_cond,e1,e2,w1,h2]
  ·obtain ⟨k0,g1,g2,g3⟩:=hx
   have hne:k≠k0:=fun h=>hd (h▸g3)
   obtain ⟨b,b1,b2,b3,e⟩:=l_with hnu hr hal hn m (k+1) (by omega) (by omega) (by omega) ⟨k0,by omega,g2,g3⟩
   refine ⟨b,b1,b2,b3,dn_round ?_ e⟩
   have h0:a%numP p k≠0:=fun h=>hd ((dv_iff_mod m1.2).2 h)
   have h0':row (a%numP p k)≠[]:=fun h=>h0 (row_nil.1 h)
   have h0'':(a%numP p k).len≠0:=fun h=>h0 (Pol.len_zero_iff.1 h)
   simp -implicitDefEqProofs [Z1r_L0,dn_cond,e1,e2,w1,w2,h2,h0'']
end
def K_withDegree (O:Oracle):Prop:=∀(p:Int) [IsP p] (a:Fp p) (n:Nat),1≤n→n≤12→a.len<1000→a≠0→(∃q,Monic q∧q.len=n+1∧Dv q a)→∃b:Fp p,Monic b∧b.len=n+1∧Dv b a ∧
 ask O F1r [(D.int .i64 p),(D.sl .leaf (ints .i64 (row a))),(D.int .i64 n)]=some (D.sl .leaf (ints .i64 (row b)))
theorem k_withDegree (hT:T F1r=some Z1r) (hnu:K_numbered (den T A)) (hr:K_rest (den T A)) (hno:C_norm (den T A)) (hdg:C_degree (den T A)) (hld:C_lead (den T A)) (hinv:C_inverse (den T A)) (hs:K_scale (den T A)):K_withDegree (den T A):=by
 intro p i a n hn1 hn hal ha ⟨q,q1,q2,q3⟩
 have hp:=IsP.ge (p:=p)
 have hp7:=IsP.le (p:=p)
 have e1:=hdg (row a) (by rw [row_length]; omega)
 rw [row_length] at e1
 by_cases hd:a.len=n+1
 ·have hr:=rep_in a.ld
  have hin:=inv_in p (rep a.ld)
  have e2:=hld (row a) (by rw [row_length]; omega)
  rw [ld_row] at e2
  have e3:=hinv p (rep a.ld) (by omega) (by omega) hr.1 hr.2
  have e4:=hs p (inv p (rep a.ld)) a (by omega) (by omega) (by omega)
  rw [finv_rep _ (Pol.ld_ne ha)] at e4
  have hd2:(a.len:Int)-1=n:=by omega
  refine ⟨mon a,mon_monic ha,by rw [mon_len ha,hd],(mon_dv ha).2 (.refl a),ask_of hT rfl ?_⟩
  simp -implicitDefEqProofs [Z1r,Z1r_B,dn_cond,e1,e2,e3,e4,hd2,mon]
 ·have hd2:¬ (a.len:Int)-1=n:=by omega
  have hb:=ppow_le (p:=p) hn
  have hpos:=ppow_pos (p:=p) n
  have e2:=hno p n 1099511627776 (by omega) (by omega)
  rw [normL_eq n 1 (by omega) (by omega),Int.one_mul] at e2
  have hq:=numOf_monic hn q1 q2
  obtain ⟨b,b1,b2,b3,e⟩:=l_with hnu hr hal hn (2*p^n-p^n).toNat (p^n) (Int.le_refl _) (by omega) (Nat.le_refl _) ⟨numOf q,hq.1,hq.2,by rw [numP_monic_num hn q1 q2]; exact q3⟩
  refine ⟨b,b1,b2,b3,ask_of hT rfl ?_⟩
  simp -implicitDefEqProofs [Z1r,Z1r_B,dn_cond,e1,e2,hd2,e]
end Pe

namespace Pe
open Go Gq
variable {T:Nat→Option Fn} {A:Oracle}
section
variable {p:Int} [IsP p]
theorem row_X:row (Pol.X:Fp p)=[0,1]:=by
 unfold row
 rw [Pol.len_X]
 show [rep ((Pol.X:Fp p).c 0),rep ((Pol.X:Fp p).c 1)]=[0,1]
 have e0:(Pol.X:Fp p).c 0=0:=rfl
 have e1:(Pol.X:Fp p).c 1=1:=rfl
 rw [e0,e1,rep_zero,rep_one]
theorem Irr.assoc {q b:Fp p} (hq:Irr q) (hb:Irr b) (h:Dv q b):Dv b q:=by
 obtain ⟨c,hc⟩:=h
 have hc0:c≠0:=fun h0=>hb.ne (by rw [hc,h0,Gq.mul_zero])
 have l:=Pol.len_mul hq.ne hc0
 rw [←hc] at l
 have h1:=hq.len
 rcases hb.dv ⟨c,hc⟩ with h2 | h2
 ·omega
 ·obtain ⟨k,hk,rfl⟩:=unit_of_len (show c.len=1 by omega)
  rw [hc,Gq.mul_comm]
  exact (Dv.Cmul hk).2 (.refl q)
structure FInv (a0:Fp p) (n:Nat) (a:Fp p) (out:Facs p):Prop where
 ne:a≠0
 eq:a0=a*prodF out
 ok:FacOk out
 nd:∀x∈out,¬ Dv x.1 a
 ns:NoSmall n a
 ln:out.length+a.len≤13
structure JInv (a0:Fp p) (n:Nat) (a:Fp p) (out:Facs p) (all:Fp p):Prop where
 f:FInv a0 n a out
 ne:all≠0
 ln:all.len≤13
 one:∀q,Irr q→Dv q all→q.len=n+1∧Dv q a
 two:∀q,Irr q→q.len=n+1→Dv q a→Dv q all
end
section
variable {p:Int}
theorem prodF_snoc (L:Facs p) (x:Fp p×Nat):prodF (L++[x])=prodF L*pw x.1 x.2:=by
 induction L with
 | nil=>show pw x.1 x.2*1=1*pw x.1 x.2; rw [Gq.mul_one,Gq.one_mul]
 | cons y L ih=>rw [List.cons_append,prodF_cons,prodF_cons,ih,Gq.mul_assoc]
end
section
variable {p:Int} [IsP p]
theorem FacOk.snoc {L:Facs p} (h:FacOk L) {q:Fp p} {k:Nat} (hi:Irr q) (hm:Monic q) (hk:1≤k) (hd:∀x∈L,x.1≠q):FacOk (L++[(q,k)]):=by
 refine ⟨fun x hx=>?_,?_⟩
 ·rcases List.mem_append.1 hx with hx | hx
  ·exact h.irr x hx
  ·simp at hx; subst hx; exact ⟨hi,hm,hk⟩
 ·rw [List.pairwise_append]
  refine ⟨h.dis,List.pairwise_singleton _ _,fun x hx y hy=>?_⟩
  simp at hy; subst hy; exact hd x hx
theorem JInv.irr {a0 a:Fp p} {n:Nat} {out:Facs p} {all b:Fp p} (h:JInv a0 n a out all) (hn:1≤n) (hb:b.len=n+1) (hd:Dv b all):Irr b:=by
 have hb0:b≠0:=fun h0=>by rw [h0,Pol.len_zero] at hb; omega
 refine Irr.of_dv (by omega) fun u hu=>?_
 have hul:=hu.len hb0
 have hu0:u≠0:=fun h0=>by
  obtain ⟨c,hc⟩:=hu
  exact hb0 (by rw [hc,h0,Gq.zero_mul])
 have hup:=Pol.len_pos hu0
 by_cases h1:u.len=1
 ·exact .inl h1
 ·right
  obtain ⟨r,r1,_,r2⟩:=irr_ex u.len u (Nat.le_refl _) (by omega)
  have h2:=(h.one r r1 ((r2.trans hu).trans hd)).1
  have h3:=r2.len hu0
  omega
theorem JInv.step {a0 a:Fp p} {n:Nat} {out:Facs p} {all b:Fp p} (h:JInv a0 n a out all) (hn:1≤n) (hm:Monic b) (hb:b.len=n+1) (hd:Dv b all)
 {k k':Nat} {r r':Fp p} (h1:a=r*pw b k) (h2:¬ Dv b r) (h3:all=r'*pw b k') (h4:¬ Dv b r'):JInv a0 n r (out++[(b,k)]) r'∧r'.len<all.len∧1≤k:=by
 have hi:=h.irr hn hb hd
 have hda:=(h.one b hi hd).2
 have hk:1≤k:=by
  cases k with
  | zero=>exact absurd (by rw [h1,pw,Gq.mul_one] at hda; exact hda) h2
  | succ k=>omega
 have hk':1≤k':=by
  cases k' with
  | zero=>exact absurd (by rw [h3,pw,Gq.mul_one] at hd; exact hd) h4
  | succ k=>omega
 have hr0:r≠0:=fun h0=>h.f.ne (by rw [h1,h0,Gq.zero_mul])
 have hr0':r'≠0:=fun h0=>h.ne (by rw [h3,h0,Gq.zero_mul])
 have shrink:∀(a r:Fp p) (k:Nat),r≠0→1≤k→a=r*pw b k→r.len<a.len:=by
  intro a r k hr hk e
  obtain ⟨j,rfl⟩:∃j,k=j+1:=⟨k-1,by omega⟩
  have hj:=pw_ne hi.ne j
  have l1:=Pol.len_mul hj hi.ne
  have l2:=Pol.len_mul hr (Pol.mul_ne hj hi.ne)
  have l3:=Pol.len_pos hj
  rw [e,pw]; omega
 have s1:=shrink a r k hr0 hk h1
 have s2:=shrink all r' k' hr0' hk' h3
 have dr:∀q,Dv q r→Dv q a:=fun q hq=>by rw [h1]; exact hq.mul_right _
 have pd:∀q,Irr q→∀m,Dv q (pw b m)→Dv b q:=fun q hq m hq2=>Irr.assoc hq hi (Irr.pw_dv hq m hq2)
 refine ⟨⟨⟨hr0,?_,h.f.ok.snoc hi hm hk fun x hx e=>h.f.nd x hx (e▸hda),?_,noSmall_dv h.f.ns ⟨pw b k,h1⟩,?_⟩,hr0',by have:=h.ln; omega,?_,?_⟩,s2,hk⟩
 ·rw [h.f.eq,prodF_snoc]
  conv=>lhs; rw [h1]
  exact ring_of [r,pw b k,prodF out] rfl
 ·intro x hx
  rcases List.mem_append.1 hx with hx | hx
  ·exact fun hq=>h.f.nd x hx (dr _ hq)
  ·simp at hx; subst hx; exact h2
 ·have:=h.f.ln
  simp; omega
 ·intro q hq hqr
  have hqa:Dv q all:=by rw [h3]; exact hqr.mul_right _
  obtain ⟨g1,g2⟩:=h.one q hq hqa
  refine ⟨g1,?_⟩
  rw [h1] at g2
  rcases hq.prime g2 with g | g
  ·exact g
  ·exact absurd ((pd q hq k g).trans hqr) h4
 ·intro q hq hql hqr
  have:=h.two q hq hql (dr q hqr)
  rw [h3] at this
  rcases hq.prime this with g | g
  ·exact g
  ·exact absurd ((pd q hq k' g).trans hqr) h2
theorem JInv.done {a0 a:Fp p} {n:Nat} {out:Facs p} {all:Fp p} (h:JInv a0 n a out all) (hl:all.len<2):FInv a0 (n+1) a out:=by
 refine ⟨h.f.ne,h.f.eq,h.f.ok,h.f.nd,fun q hq hd=>?_,h.f.ln⟩
 have h1:=h.f.ns q hq hd
 apply Classical.byContradiction
 intro hx
 have h2:=(h.two q hq (by omega) hd).len h.ne
 have:=hq.len
 omega
theorem JInv.init {a0 a:Fp p} {n:Nat} {out:Facs p} (h:FInv a0 n a out) (hn:1≤n) (hn2:n≤12) {fr:Fp p} (hf:fr%a=pw Pol.X (p.toNat^n)%a):JInv a0 n a out (Pol.gcd (fr-Pol.X) a):=by
 have h0:fr-Pol.X≠0∨a≠0:=.inr h.ne
 have hm:=Pol.gcd_monic h0
 have hd2:=Pol.gcd_dv_right h0
 have key:∀q,Dv q a→(Dv q (fr-Pol.X)↔Dv q (frT p n)):=by
  intro q hq
  have e:Dv q (fr-pw Pol.X (p.toNat^n)):=by
   refine hq.trans ?_
   rw [dv_iff_mk,Quo.mk_sub]
   rw [(Pol.mod_eq_iff h.ne).1 hf,sub_self]
  unfold frT
  constructor
  ·intro g
   have:pw Pol.X (p.toNat^n)-Pol.X=(fr-Pol.X)-(fr-pw Pol.X (p.toNat^n)):=ring_of [pw Pol.X (p.toNat^n),Pol.X,fr] rfl
   rw [this]; exact g.sub e
  ·intro g
   have:fr-Pol.X=(pw Pol.X (p.toNat^n)-Pol.X)+(fr-pw Pol.X (p.toNat^n)):=ring_of [pw Pol.X (p.toNat^n),Pol.X,fr] rfl
   rw [this]; exact g.add e
 have hl:=hd2.len h.ne
 have hl2:=h.ln
 refine ⟨h,hm.2,by omega,fun q hq hd=>?_,fun q hq hql hqa=>?_⟩
 ·have g1:=hd.trans hd2
  have g2:=(key q g1).1 (hd.trans (Pol.gcd_dv_left h0))
  have g3:=h.ns q hq g1
  have g4:=g1.len h.ne
  have g5:=irr_frT_le hq (d:=q.len-1) (k:=n) (by have:=hq.len; omega) (by have:=ppow_le (p:=p) (n:=q.len-1) (by omega); omega) hn g2
  exact ⟨by omega,g1⟩
 ·have g2:=irr_frT hq hql (by have:=ppow_le (p:=p) hn2; omega)
  exact Pol.dv_gcd h0 ((key q hqa).2 g2) hqa
noncomputable abbrev facD (x:Fp p×Nat):D:=.st [.leaf,.leaf] [(D.sl .leaf (ints .i64 (row x.1))),(D.int .i64 x.2)]
theorem l_fac1 {O:Oracle} (hw:K_withDegree O) (hst:K_strip O) (hdg:C_degree O) {a0:Fp p} {n:Nat} (hn:1≤n) (hn2:n≤12):∀(m:Nat) (a:Fp p) (out:Facs p) (all:Fp p) (cp:Option Nat),all.len≤m→JInv a0 n a out all→∃(a':Fp p) (out':Facs p) (all':List Int) (cp':Option Nat),FInv a0 (n+1) a' out'∧a'.len≤a.len ∧
 dn O 0 (.loop Z1e_L1) ⟨[(0,(.d (.int .i64 p))),(1,(.d (.sl .leaf (ints .i64 (row a))))),(5,.sl 0 [] 0 out.length cp),(6,(.d (.int .i64 n))),(8,(.d (.sl .leaf (ints .i64 (row all)))))],[.sl false facSh (out.map facD),.hole,.hole,.hole,.hole]⟩ =
  some (.exit 4,⟨[(0,(.d (.int .i64 p))),(1,(.d (.sl .leaf (ints .i64 (row a'))))),(5,.sl 0 [] 0 out'.length cp'),(6,(.d (.int .i64 n))),(8,(.d (.sl .leaf (ints .i64 all')))),(52,(.d (.bool false)))],[.sl false facSh (out'.map facD),.hole,.hole,.hole,.hole]⟩)
 | m,a,out,all,cp,hm,h=>by
  have hln:=h.ln
  have hp:=Pol.len_pos h.ne
  have e1:=hdg (row all) (by rw [row_length]; omega)
  rw [row_length] at e1
  by_cases hl:all.len<2
  ·refine ⟨a,out,row all,cp,h.done hl,Nat.le_refl _,dn_stop ?_⟩
   have h1:¬ (1:Int)<(all.len:Int):=by omega
   simp -implicitDefEqProofs [Z1e_L1,dn_cond,e1,h1]
  ·have hlo:=h.f.ln
   obtain ⟨q,q1,q2,q3⟩:=irr_ex all.len all (Nat.le_refl _) (by omega)
   obtain ⟨b,b1,b2,b3,e2⟩:=hw p all n hn hn2 (by omega) h.ne ⟨q,q2,(h.one q q1 q3).1,q3⟩
   obtain ⟨k,r,g1,g2,e3⟩:=hst p a b h.f.ne (by omega) (by omega) (by omega)
   obtain ⟨k',r',g3,g4,e4⟩:=hst p all b h.ne (by omega) (by omega) (by omega)
   obtain ⟨hJ,hlt,hk⟩:=h.step hn b1 b2 b3 g1 g2 g3 g4
   cases m with
   | zero=>omega
   | succ m=>
    obtain ⟨a',out',all',cp',i1,i2,e⟩:=l_fac1 hw hst hdg hn hn2 m r (out++[(b,k)]) r' none (by omega) hJ
    have hra:r.len≤a.len:=(show Dv r a from ⟨_,g1⟩).len h.f.ne
    refine ⟨a',out',all',cp',i1,by omega,dn_round ?_ e⟩
    have h1:(1:Int)<(all.len:Int):=by omega
    have h8:(out.length+1)*32≤1099511627776:=by omega
    have ht:(out.map facD).take out.length=out.map facD:=List.take_of_length_le (by simp)
    have hL:(out.map facD).length=out.length:=by simp
    have o1:(out++[(b,k)]).map facD=out.map facD++[facD (b,k)]:=by simp
    have o2:(out++[(b,k)]).length=out.length+1:=by simp
    rw [o1,o2]
    generalize out.map facD=LD at *
    simp -implicitDefEqProofs [Z1e_L1,dn_cond,e1,e2,e3,e4,h1,h8,ht,hL,List.replicate]
theorem l_fac0 {O:Oracle} (hpw:K_power O) {a:Fp p} (ha:a≠0) (hal:a.len≤13) {n:Nat} (hn2:n≤1000) {st:V} {hp:Heap} (hst:st.refs=[0]) (hhp:∃b,hp=[b,.hole,.hole,.hole,.hole]):∀(m i:Nat) (fr:Fp p),i+m=n→fr.len≤13→∃fr':Fp p,fr'.len≤13∧fr'%a=pw fr (p.toNat^m)%a ∧
 dn O 0 (.loop Z1e_L0) ⟨[(0,(.d (.int .i64 p))),(1,(.d (.sl .leaf (ints .i64 (row a))))),(5,st),(6,(.d (.int .i64 n))),(7,(.d (.sl .leaf (ints .i64 (row fr))))),(34,(.d (.int .i64 n))),(35,(.d (.int .i64 i)))],hp⟩ =
  some (.exit 2,⟨[(0,(.d (.int .i64 p))),(1,(.d (.sl .leaf (ints .i64 (row a))))),(5,st),(6,(.d (.int .i64 n))),(7,(.d (.sl .leaf (ints .i64 (row fr'))))),(34,(.d (.int .i64 n))),(35,(.d (.int .i64 n))),(36,(.d (.bool false)))],hp⟩)
 | 0,i,fr,hi,hf=>by
  obtain ⟨b,rfl⟩:=hhp
  obtain rfl:i=n:=by omega
  refine ⟨fr,hf,by rw [Nat.pow_zero,pw_1],dn_stop ?_⟩
  simp -implicitDefEqProofs [Z1e_L0,dn_cond,hst]
 | m+1,i,fr,hi,hf=>by
  have hP:=IsP.pos (p:=p)
  have hP7:=IsP.le (p:=p)
  have e:=hpw p fr p a ha (by omega) (by omega) (by omega) (by omega)
  have hl:=Pol.len_mod (pw fr p.toNat) ha
  obtain ⟨fr',g1,g2,g3⟩:=l_fac0 (O:=O) hpw ha hal hn2 hst hhp m (i+1) (pw fr p.toNat%a) (by omega) (by omega)
  obtain ⟨b,rfl⟩:=hhp
  have h1:i<n:=by omega
  have w1:IntKind.i64.wrap ((i:Int)+1)=((i+1:Nat):Int):=(w64 (x:=(i:Int)+1) (by omega)).trans (by omega)
  refine ⟨fr',g1,?_,dn_round ?_ g3⟩
  ·rw [g2,Pol.pow_mod _ ha,pw_pw,Nat.pow_succ,Nat.mul_comm]
  ·simp -implicitDefEqProofs [Z1e_L0,dn_cond,e,h1,w1,hst]
structure FEnd (a0:Fp p) (out:Facs p):Prop where
 ok:FacOk out
 eq:∃c:Zp p,c≠0∧a0=Pol.C c*prodF out
 ln:out.length≤12
theorem l_fac2 {O:Oracle} (hw:K_withDegree O) (hst:K_strip O) (hdg:C_degree O) (hpw:K_power O) (hlet:C_letter O) (hc:K_combine1 O) (hg:K_gcd O) (hld:C_lead O) (hinv:C_inverse O) (hs:K_scale O) {a0:Fp p}:∀(m n:Nat) (a:Fp p) (out:Facs p) (cp:Option Nat),1≤n→n+m=15→FInv a0 n a out→∃(out':Facs p) (cp':Option Nat) (e:Env),FEnd a0 out'∧((∃x y,e=[(0,(.d (.int .i64 p))),(1,(.d (.sl .leaf (ints .i64 x)))),(5,.sl 0 [] 0 out'.length cp'),(6,(.d (.int .i64 y))),(14,(.d (.bool false)))])∨e=[(5,.sl 0 [] 0 out'.length cp')]) ∧
 dn O 0 (.loop Z1e_L2) ⟨[(0,(.d (.int .i64 p))),(1,(.d (.sl .leaf (ints .i64 (row a))))),(5,.sl 0 [] 0 out.length cp),(6,(.d (.int .i64 n)))],[.sl false facSh (out.map facD),.hole,.hole,.hole,.hole]⟩ =
  some (.exit 0,⟨e,[.sl false facSh (out'.map facD),.hole,.hole,.hole,.hole]⟩)
 | m,n,a,out,cp,hn,hm,h=>by
  have hp:=IsP.ge (p:=p)
  have hp7:=IsP.le (p:=p)
  have hln:=h.ln
  have ha:=Pol.len_pos h.ne
  have e1:=hdg (row a) (by rw [row_length]; omega)
  rw [row_length] at e1
  by_cases hl:a.len=1
  ·have h1:¬ (1:Int)<(a.len:Int):=by omega
   obtain ⟨c,hc0,rfl⟩:=unit_of_len hl
   refine ⟨out,cp,_,⟨h.ok,⟨c,hc0,h.eq⟩,by omega⟩,.inl ⟨row (Pol.C c),n,rfl⟩,dn_stop ?_⟩
   simp -implicitDefEqProofs [Z1e_L2,dn_cond,e1,h1]
  ·have h1:(1:Int)<(a.len:Int):=by omega
   have w1:IntKind.i64.wrap (2*(n:Int))=2*(n:Int):=w64 (by omega)
   have h8:(out.length+1)*32≤1099511627776:=by omega
   have ht:(out.map facD).take out.length=out.map facD:=List.take_of_length_le (by simp)
   have hL:(out.map facD).length=out.length:=by simp
   by_cases h2:(a.len:Int)-1<2*(n:Int)
   ·have hi:=irr_of_noSmall h.ns (by omega) (by omega)
    have hr:=rep_in a.ld
    have hin:=inv_in p (rep a.ld)
    have e2:=hld (row a) (by rw [row_length]; omega)
    rw [ld_row] at e2
    have e3:=hinv p (rep a.ld) (by omega) (by omega) hr.1 hr.2
    have e4:=hs p (inv p (rep a.ld)) a (by omega) (by omega) (by omega)
    rw [finv_rep _ (Pol.ld_ne h.ne)] at e4
    have e4':ask O F1o [(D.int .i64 p),(D.sl .leaf (ints .i64 (row a))),(D.int .i64 (inv p (rep a.ld)))]=some (D.sl .leaf (ints .i64 (row (mon a)))):=e4
    have o1:(out++[(mon a,1)]).map facD=out.map facD++[facD (mon a,1)]:=by simp
    have o2:(out++[(mon a,1)]).length=out.length+1:=by simp
    refine ⟨out++[(mon a,1)],none,_,⟨h.ok.snoc hi.mon (mon_monic h.ne) (Nat.le_refl 1) fun x hx e=>h.nd x hx (by rw [e,mon_dv h.ne]; exact .refl a),⟨a.ld,Pol.ld_ne h.ne,?_⟩,by rw [o2]; omega⟩,.inr rfl,dn_stop ?_⟩
    ·rw [prodF_snoc]
     show a0=Pol.C a.ld*(prodF out*pw (mon a) 1)
     rw [pw_1,h.eq]
     conv=>lhs; rw [eq_mon h.ne]
     exact ring_of [Pol.C a.ld,mon a,prodF out] rfl
    ·rw [o1,o2]
     generalize out.map facD=LD at *
     simp -implicitDefEqProofs [Z1e_L2,dn_cond,e1,h1,h2,w1,e2,e3,e4',h8,ht,hL,List.replicate]
   ·cases m with
    | zero=>omega
    | succ m=>
     have hl2:(Pol.X:Fp p).len≤13:=by rw [Pol.len_X]; omega
     obtain ⟨fr,g1,g2,g3⟩:=l_fac0 (O:=O) hpw h.ne (by omega) (n:=n) (by omega) (st:=.sl 0 [] 0 out.length cp) (hp:=[.sl false facSh (out.map facD),.hole,.hole,.hole,.hole]) (by simp [V.refs]) ⟨_,rfl⟩ n 0 Pol.X (Nat.zero_add _) hl2
     have hJ:=JInv.init h hn (by omega) g2
     have hlj:=hJ.ln
     obtain ⟨a',out',all',cp',i1,i2,i3⟩:=l_fac1 (O:=O) hw hst hdg hn (by omega) (Pol.gcd (fr-Pol.X) a).len a out _ cp (Nat.le_refl _) hJ
     obtain ⟨out2,cp2,e,j1,j2,j3⟩:=l_fac2 hw hst hdg hpw hlet hc hg hld hinv hs m (n+1) a' out' cp' (by omega) (by omega) i1
     have e2:ask O F16 []=some (D.sl .leaf (ints .i64 (row (Pol.X:Fp p)))):=by rw [row_X]; exact hlet
     have e3:=hc p fr Pol.X (by omega) (by omega)
     have hsl:=Pol.len_sub_le (a:=fr) (b:=Pol.X) (n:=13) g1 hl2
     have e4:=hg p (fr-Pol.X) a (.inr h.ne) (by omega) (by omega)
     have w2:IntKind.i64.wrap ((n:Int)+1)=((n+1:Nat):Int):=(w64 (x:=(n:Int)+1) (by omega)).trans (by omega)
     have e0:((0:Nat):Int)=0:=rfl
     rw [e0] at g3
     refine ⟨out2,cp2,e,j1,j2,dn_round ?_ j3⟩
     generalize out.map facD=LD at *
     simp -implicitDefEqProofs [Z1e_L2,dn_cond,e1,h1,h2,w1,w2,e2,e3,e4,g3,i3]
end
theorem perm_map_ex {α β:Type} (f:α→β) {m ds:List β} (h:m.Perm ds):∀l:List α,l.map f=m→∃l':List α,l'.Perm l∧l'.map f=ds:=by
 induction h with
 | nil=>intro l hl; exact ⟨[],by simp at hl; subst hl; exact .refl _,rfl⟩
 | cons x h ih=>
  intro l hl
  cases l with
  | nil=>simp at hl
  | cons y l=>
   simp at hl
   obtain ⟨l',p,e⟩:=ih l hl.2
   exact ⟨y::l',p.cons y,by simp [e,hl.1]⟩
 | swap x y s=>
  intro l hl
  cases l with
  | nil=>simp at hl
  | cons a l=>
   cases l with
   | nil=>simp at hl
   | cons b l=>
    simp at hl
    exact ⟨b::a::l,List.Perm.swap a b l,by simp [hl]⟩
 | trans _ _ ih1 ih2=>
  intro l hl
  obtain ⟨l',p,e⟩:=ih1 l hl
  obtain ⟨l'',p2,e2⟩:=ih2 l' e
  exact ⟨l'',p2.trans p,e2⟩
section
variable {p:Int} [IsP p]
theorem vl_cmp:∀(n:Nat) {l m:List Int},Can p l→Can p m→l.length=n→m.length=n→cmpL l m n=cmpI (vl p l) (vl p m):=by
 have hp:=IsP.pos (p:=p)
 -- the value of the first coefficients
 have key:∀(k:Nat) (l:List Int),Can p l→k≤l.length→vl p (l.take k)+(if k<l.length then p^k*cf l k else 0)=vl p (l.take (k+1))∧0≤vl p (l.take k)∧vl p (l.take k)<p^k:=by
  intro k l hl hk
  have hin:=vl_in (p:=p) (l:=l.take k) fun x hx=>hl x (List.mem_of_mem_take hx)
  rw [List.length_take,Nat.min_eq_left hk] at hin
  refine ⟨?_,hin⟩
  have app:∀(a b:List Int),vl p (a++b)=vl p a+p^a.length*vl p b:=by
   intro a
   induction a with
   | nil=>intro b; simp [vl]
   | cons x a ih=>
    intro b
    rw [List.cons_append,vl,ih,vl,List.length_cons,Int.pow_succ,Int.mul_add,Int.mul_comm (p^a.length) p,Int.mul_assoc,Int.add_assoc]
  by_cases hlt:k<l.length
  ·rw [if_pos hlt,←take_succ_set hlt,app,List.length_take,Nat.min_eq_left hk,cf_lt hlt]
   simp [vl]
  ·rw [if_neg hlt,List.take_of_length_le (by omega),List.take_of_length_le (by omega),Int.add_zero]
 intro n l m hl hm hln hmn
 have main:∀k,k≤n→cmpL l m k=cmpI (vl p (l.take k)) (vl p (m.take k)):=by
  intro k
  induction k with
  | zero=>intro _; simp [cmpL,cmpI,vl]
  | succ k ih=>
   intro hk
   obtain ⟨a1,a2,a3⟩:=key k l hl (by omega)
   obtain ⟨b1,b2,b3⟩:=key k m hm (by omega)
   rw [if_pos (by omega)] at a1 b1
   rw [←a1,←b1,cmpL,ih (by omega)]
   have hpk:=ppow_pos (p:=p) k
   generalize vl p (l.take k)=u at *
   generalize vl p (m.take k)=v at *
   generalize cf l k=c at *
   generalize cf m k=d at *
   have mono:∀x y:Int,x<y→p^k*x+p^k≤p^k*y:=fun x y h=>by
    have:=Int.mul_le_mul_of_nonneg_left (show x+1≤y by omega) (Int.le_of_lt hpk)
    rwa [Int.mul_add,Int.mul_one] at this
   rcases Int.lt_trichotomy c d with h | h | h
   ·have:=mono c d h
    have e:cmpI c d=-1:=if_pos h
    rw [e,if_pos (by omega)]
    exact (if_pos (by omega)).symm
   ·subst h
    have e:cmpI c c=0:=by unfold cmpI; rw [if_neg (by omega),if_neg (by omega)]
    rw [e,if_neg (fun h=>h rfl)]
    unfold cmpI
    by_cases h1:u<v
    ·rw [if_pos h1,if_pos (by omega)]
    ·rw [if_neg h1]
     by_cases h2:v<u
     ·rw [if_pos h2,if_neg (by omega),if_pos (by omega)]
     ·rw [if_neg h2,if_neg (by omega),if_neg (by omega)]
   ·have:=mono d c h
    have e:cmpI c d=1:=by unfold cmpI; rw [if_neg (by omega),if_pos h]
    rw [e,if_pos (by omega)]
    unfold cmpI
    rw [if_neg (by omega),if_pos (by omega)]
 have:=main n (Nat.le_refl n)
 rwa [List.take_of_length_le (by omega),List.take_of_length_le (by omega)] at this
theorem cmpR_row (a b:Fp p):cmpR (row a) (row b)=cmpI (numOf a) (numOf b):=by
 unfold cmpR
 rw [row_length,row_length]
 rcases Nat.lt_trichotomy a.len b.len with h | h | h
 ·have:=numOf_len h
  have e:cmpI (a.len:Int) b.len=-1:=if_pos (by omega)
  rw [e,if_pos (by omega)]
  exact (if_pos this).symm
 ·have e:cmpI (a.len:Int) b.len=0:=by unfold cmpI; rw [if_neg (by omega),if_neg (by omega)]
  rw [e,if_neg (fun h=>h rfl)]
  exact vl_cmp a.len (row_can a) (row_can b) (row_length a) (by rw [row_length,h])
 ·have:=numOf_len h
  have e:cmpI (a.len:Int) b.len=1:=by unfold cmpI; rw [if_neg (by omega),if_pos (by omega)]
  rw [e,if_pos (by omega)]
  unfold cmpI
  rw [if_neg (by omega),if_pos this]
end
def numD (p:Int):D→Int
 | .st _ (.sl _ cs::_)=>vl p (cs.map D.num)
 | _=>0
theorem numD_fac {p:Int} (x:Fp p×Nat):numD p (facD x)=vl p (row x.1):=by
 show vl p ((ints .i64 (row x.1)).map D.num)=_
 unfold ints
 rw [List.map_map]
 have:(D.num ∘ D.int .i64)=id:=rfl
 rw [this,List.map_id]
theorem fac_cmp {p:Int} [IsP p] (hT:T F1f=some Z1f) (hc:C_compare (den T A)) {L:Facs p} (hl:∀x∈L,x.1.len≤1000):CmpOk (den T A) F1f [] [] (numD p) facSh (L.map facD):=by
 refine ⟨fun x hx=>by simp at hx,fun x hx=>by simp at hx,fun x hx=>?_,fun x hx=>?_,fun x hx y hy=>?_⟩
 ·obtain ⟨a,_,rfl⟩:=List.mem_map.1 hx; rfl
 ·obtain ⟨a,_,rfl⟩:=List.mem_map.1 hx; rfl
 ·obtain ⟨a,ha,rfl⟩:=List.mem_map.1 hx
  obtain ⟨b,hb,rfl⟩:=List.mem_map.1 hy
  have h1:=hl a ha
  have h2:=hl b hb
  have e:=hc (row a.1) (row b.1) (by rw [row_length]; omega) (by rw [row_length]; omega)
  rw [cmpR_row] at e
  have n1:=numD_fac a
  have n2:=numD_fac b
  rw [n1,n2]
  refine ask_of hT rfl ?_
  simp -implicitDefEqProofs [Z1f,Z1f_B,e,numOf]
def K_factors (O:Oracle):Prop:=∀(p:Int) [IsP p] (a:Fp p),a≠0→a.len≤13→∃L:Facs p,IsFac a L∧L.length≤12 ∧
 ask O F1e [(D.int .i64 p),(D.sl .leaf (ints .i64 (row a)))]=some (.sl facSh (L.map facD))
theorem FacOk.perm {p:Int} [IsP p] {L L':Facs p} (h:FacOk L) (hp:L'.Perm L):FacOk L':=
 ⟨fun x hx=>h.irr x (hp.subset hx),(hp.pairwise_iff (fun h e=>h e.symm)).2 h.dis⟩
theorem prodF_perm {p:Int} {L L':Facs p} (hp:L'.Perm L):prodF L'=prodF L:=prodL_perm (hp.map _)
theorem k_factors (hT:T F1e=some Z1e) (hT1:T F1f=some Z1f) (hw:K_withDegree (den T A)) (hst:K_strip (den T A)) (hdg:C_degree (den T A)) (hpw:K_power (den T A)) (hlet:C_letter (den T A)) (hc:K_combine1 (den T A)) (hg:K_gcd (den T A)) (hld:C_lead (den T A)) (hinv:C_inverse (den T A)) (hs:K_scale (den T A)) (hcmp:C_compare (den T A)) (hsort:H_sortFunc (den T A)):K_factors (den T A):=by
 intro p i a ha hal
 have h0:FInv a 1 a []:=⟨ha,(Gq.mul_one a).symm,⟨by simp,List.Pairwise.nil⟩,by simp,noSmall_one a,by simpa using hal⟩
 obtain ⟨out,cp,e,j1,j2,j3⟩:=l_fac2 hw hst hdg hpw hlet hc hg hld hinv hs 14 1 a [] (some 0) (Nat.le_refl 1) rfl h0
 obtain ⟨c,hc0,hac⟩:=j1.eq
 have hP:=prodF_monic j1.ok
 have hlen:∀x∈out,x.1.len≤1000:=fun x hx=>by
  have h1:Dv x.1 a:=by
   obtain ⟨r,h2,_⟩:=prodF_out j1.ok (show (x.1,x.2)∈out from hx)
   obtain ⟨k,hk⟩:∃k,x.2=k+1:=⟨x.2-1,by have:=(j1.ok.irr x hx).2.2; omega⟩
   rw [hac,h2,hk,pw]
   exact (((Dv.refl x.1).mul_left _).mul_right _).mul_left _
  have:=h1.len ha
  omega
 obtain ⟨ds,s1,s2,s3⟩:=hsort _ _ _ _ (out.map facD) cp (by simpa using j1.ln) (fac_cmp hT1 hcmp hlen)
 obtain ⟨L,p1,p2⟩:=perm_map_ex facD s1.symm out rfl
 have ok:=j1.ok.perm p1
 subst p2
 have hLl:L.length=out.length:=p1.length_eq
 refine ⟨L,⟨ok,?_,?_⟩,by rw [hLl]; exact j1.ln,ask_of hT rfl ?_⟩
 ·have s4:L.Pairwise fun x y=>numOf x.1≤numOf y.1:=by
   have:=s2
   unfold Asc at this
   rw [List.pairwise_map] at this
   exact this.imp fun h=>by rw [numD_fac,numD_fac] at h; exact h
  exact (s4.and ok.dis).imp fun {x y} h=>by
   have h1:=h.1
   rcases Int.lt_or_eq_of_le h1 with h2 | h2
   ·exact h2
   ·exact absurd (numOf_inj h2) h.2
 ·have:a.ld=c:=by
   rw [hac,Pol.ld_mul (Pol.C_ne hc0) hP.2,Pol.ld_C hc0,hP.1,Gq.mul_one]
  rw [this,prodF_perm p1]; exact hac
 ·have e0:(([]:Facs p).length:Nat)=0:=rfl
  have e00:((1:Nat):Int)=1:=rfl
  rw [e0,e00,List.map_nil] at j3
  have hds:(L.map facD).length=out.length:=by rw [List.length_map,hLl]
  have hol:(out.map facD).length=out.length:=by simp
  have htk:(L.map facD).take out.length=L.map facD:=List.take_of_length_le (by omega)
  rw [hol] at s3
  generalize L.map facD=LD at *
  generalize out.map facD=OD at *
  rcases j2 with ⟨x,y,rfl⟩ | rfl
  ·simp -implicitDefEqProofs [Z1e,Z1e_B,j3,s3,hds,htk,List.idxOf,List.findIdx,List.findIdx.go]
  ·simp -implicitDefEqProofs [Z1e,Z1e_B,j3,s3,hds,htk,List.idxOf,List.findIdx,List.findIdx.go]
end Pe


namespace Pe
open Go Gq
variable {T:Nat→Option Fn} {A:Oracle}
open Classical in
noncomputable def fac {p:Int} [IsP p] (a:Fp p):Facs p:=if h:∃L,IsFac a L then Classical.choose h else []
theorem fac_eq {p:Int} [IsP p] {a:Fp p} (ha:a≠0) {L:Facs p} (h:IsFac a L):fac a=L:=by
 have hx:∃L,IsFac a L:=⟨L,h⟩
 unfold fac
 rw [dif_pos hx]
 exact IsFac.unique ha (Classical.choose_spec hx) h
def K_fac (O:Oracle):Prop:=∀(p:Int) [IsP p] (a:Fp p),a≠0→a.len≤13→IsFac a (fac a)∧(fac a).length≤12 ∧
 ask O F1e [(D.int .i64 p),(D.sl .leaf (ints .i64 (row a)))]=some (.sl facSh ((fac a).map facD))
theorem k_fac {O:Oracle} (h:K_factors O):K_fac O:=fun p i a ha hl=>by
 obtain ⟨L,h1,h2,h3⟩:=h p a ha hl
 rw [fac_eq ha h1]
 exact ⟨h1,h2,h3⟩
section
variable {p:Int} [IsP p]
theorem IsFac.len {m:Fp p} (hm:m≠0) {L:Facs p} (h:IsFac m L) {x:Fp p×Nat} (hx:x∈L):2≤x.1.len∧x.1.len≤m.len∧x.2<m.len∧x.1≠0:=by
 obtain ⟨i1,i2,i3⟩:=h.ok.irr x hx
 obtain ⟨_,_,_,h4,_⟩:=(fac_mem hm h.ok h.eq x.1 x.2).1 hx
 have h5:=h4.len hm
 have h6:∀n,n<(pw x.1 n).len:=by
  intro n
  induction n with
  | zero=>show 0<(1:Fp p).len; rw [Pol.len_one]; omega
  | succ n ih=>
   have l:=Pol.len_mul (pw_ne i1.ne n) i1.ne
   have:=i1.len
   rw [pw]; omega
 have h7:=h6 x.2
 have h8:x.1.len≤(pw x.1 x.2).len:=by
  obtain ⟨k,hk⟩:∃k,x.2=k+1:=⟨x.2-1,by omega⟩
  rw [hk,pw]
  exact (show Dv x.1 (pw x.1 k*x.1) from ⟨pw x.1 k,Gq.mul_comm _ _⟩).len (Pol.mul_ne (pw_ne i1.ne k) i1.ne)
 exact ⟨i1.len,by omega,by omega,i1.ne⟩
end
end Pe

namespace Pe
open Go Gq
variable {T:Nat→Option Fn} {A:Oracle}
theorem isP_of {p:Int} (h:isP p=true):IsP p:=⟨by unfold isP at h; simpa using h⟩
theorem isP_true {p:Int} [h:IsP p]:isP p=true:=by unfold isP; exact decide_eq_true h.h
theorem isPl_row {p:Int} [IsP p] {a:Fp p}:isPl p (pad (row a))=true:=by
 unfold isPl
 rw [List.all_eq_true]
 intro x hx
 obtain ⟨i,_,rfl⟩:=List.mem_map.1 hx
 have:=(row_can a).le IsP.pos i
 simpa using this.2
theorem row_of_isPl {p:Int} [IsP p] {l:List Int} (hb:Bytes l) (hl:l.length=64) (h:isPl p l=true):∃a:Fp p,a.len≤64∧l=pad (row a):=by
 have hc:Can p l:=fun x hx=>⟨(hb x hx).1,by
  unfold isPl at h
  rw [List.all_eq_true] at h
  simpa using h x hx⟩
 refine ⟨polOf p l,Nat.le_trans (Pol.len_le (polOf_lt l)) (by omega),?_⟩
 rw [←trim_polOf hc]
 symm
 apply pad_eq hl
 intro i hi
 rw [trim_polOf hc,row_cf,polOf_c,rep_zp (hc.le IsP.pos i)]
inductive Arg1 (p:Int) (l:List Int):Prop
 | bad (h:codeP p [l]=1) (h2:isP p=true→isPl p l=false)
 | good (ip:IsP p) (a:Fp p) (hl:a.len≤64) (e:l=pad (row a))
theorem arg1 (p:Int) {l:List Int} (hb:Bytes l) (hl:l.length=64):Arg1 p l:=by
 by_cases h1:isP p=true
 ·by_cases h2:isPl p l=true
  ·have ip:=isP_of h1
   obtain ⟨a,g1,g2⟩:=row_of_isPl hb hl h2
   exact .good ip a g1 g2
  ·refine .bad (by simp [codeP,h2]) fun _=>by simpa using h2
 ·exact .bad (by simp [codeP,h1]) fun h=>absurd h h1
theorem codeP_good {p:Int} [IsP p] (ls:List (Fp p)):codeP p (ls.map fun a=>pad (row a))=0:=by
 unfold codeP
 rw [if_pos]
 refine ⟨isP_true,?_⟩
 rw [List.all_map,List.all_eq_true]
 intro a _
 exact isPl_row
theorem rep_one_iff {p:Int} [IsP p] (x:Zp p):rep x=1↔x=1:=⟨fun h=>rep_inj (by rw [h,rep_one]),fun h=>by rw [h,rep_one]⟩
theorem monic_iff {p:Int} [IsP p] (a:Fp p):Monic a↔a.ld=1:=⟨fun h=>h.1,fun h=>⟨h,fun h0=>by
 rw [h0] at h
 have:(0:Fp p).ld=0:=rfl
 rw [this] at h
 exact Fd.one_ne h.symm⟩⟩
end Pe

namespace Pe
open Go Gq
variable {T:Nat→Option Fn} {A:Oracle}
theorem tlen_row {p:Int} {l:List Int} {f:Fp p} (h:∀i,cf l i=rep (f.c i)):tlen l l.length=f.len:=by
 have e:=congrArg List.length (trim_row h)
 rw [row_length] at e
 unfold trim at e
 rw [List.length_take] at e
 have:=tlen_le l l.length
 omega
theorem l_sDeg {O:Oracle} {l:List Int} (hl:l.length=64):∀n:Nat,n≤64 →
 dn O 0 (.loop Z3g_L0) ⟨[(1,.ptr 0 []),(3,(.d (.int .i64 ((n:Int)-1))))],[.box false (D.arr 64 .leaf (ints .u8 l))]⟩ =
  some (.exit 0,⟨[(1,.ptr 0 []),(3,(.d (.int .i64 ((tlen l n:Int)-1)))),(11,(.d (.bool false)))],[.box false (D.arr 64 .leaf (ints .u8 l))]⟩)
 | 0,_=>dn_stop (by simp -implicitDefEqProofs [Z3g_L0,dn_cond,tlen])
 | n+1,hn=>by
  have hlt:n<l.length:=by omega
  have hn64:n<64:=by omega
  have hx:l[n]=cf l n:=(cf_lt hlt).symm
  have t0:(((n+1:Nat):Int)-1)=(n:Int):=by omega
  rw [t0]
  have w1:IntKind.i64.wrap ((n:Int)-1)=(n:Int)-1:=w64 (by omega)
  by_cases h0:cf l n=0
  ·have e:tlen l (n+1)=tlen l n:=by simp [tlen,h0]
   rw [e]
   refine dn_round ?_ (l_sDeg hl n (by omega))
   simp -implicitDefEqProofs [Z3g_L0,dn_cond,hlt,hn64,hx,h0,w1]
  ·have e:tlen l (n+1)=n+1:=by simp [tlen,h0]
   rw [e,t0]
   refine dn_stop ?_
   simp -implicitDefEqProofs [Z3g_L0,dn_cond,hlt,hn64,hx,h0]
def C_sDeg (O:Oracle):Prop:=∀l:List Int,l.length=64→ask O F3g [(D.arr 64 .leaf (ints .u8 l))]=some (D.int .i64 ((tlen l 64:Int)-1))
theorem c_sDeg (hT:T F3g=some Z3g):C_sDeg (den T A):=by
 intro l hl
 have e:=l_sDeg (O:=den T A) hl 64 (Nat.le_refl _)
 have e0:((64:Nat):Int)-1=63:=rfl
 rw [e0] at e
 refine ask_of hT rfl ?_
 simp -implicitDefEqProofs [Z3g,Z3g_B,e]
def K_sDeg (O:Oracle):Prop:=∀(p:Int) [IsP p] (a:Fp p),a.len≤64→ask O F3g [(D.arr 64 .leaf (ints .u8 (pad (row a))))]=some (D.int .i64 ((a.len:Int)-1))
theorem k_sDeg {O:Oracle} (h:C_sDeg O):K_sDeg O:=fun p i a hl=>by
 have e:=tlen_row (f:=a) (l:=pad (row a)) fun i=>by rw [pad_cf (by rw [row_length]; exact hl),row_cf]
 rw [pad_length] at e
 rw [h _ (pad_length _),e]
def C_sIn (O:Oracle):Prop:=∀n a b:Int,ask O F3l [(D.int .i64 n),(D.int .i64 a),(D.int .i64 b)]=some (D.bool (decide (a≤n∧n≤b)))
theorem c_sIn (hT:T F3l=some Z3l):C_sIn (den T A):=by
 intro n a b
 refine ask_of hT rfl ?_
 by_cases h:a≤n <;> simp -implicitDefEqProofs [Z3l,Z3l_B,h]
def C_sPrime (O:Oracle):Prop:=∀p:Int,ask O F3x [(D.int .i64 p)]=some (D.bool (isP p))
theorem c_sPrime (hT:T F3x=some Z3x):C_sPrime (den T A):=by
 intro p
 refine ask_of hT rfl ?_
 by_cases h2:p=2
 ·simp -implicitDefEqProofs [Z3x,Z3x_B,h2,isP]
 ·by_cases h3:p=3
  ·simp -implicitDefEqProofs [Z3x,Z3x_B,h3,isP]
  ·by_cases h5:p=5
   ·simp -implicitDefEqProofs [Z3x,Z3x_B,h5,isP]
   ·simp -implicitDefEqProofs [Z3x,Z3x_B,h2,h3,h5,isP]
theorem l_sIs {O:Oracle} {p:Int} {l:List Int} (hb:Bytes l) (hl:l.length=64):∀(m i:Nat),i+m=64 →
 dn O 0 (.loop Z3o_L0) ⟨[(0,(.d (.int .i64 p))),(3,.ptr 0 []),(5,(.d (.int .i64 i)))],[.box false (D.arr 64 .leaf (ints .u8 l))]⟩ =
  if (l.drop i).all (fun x=>decide (x<p)) then some (.exit 0,⟨[(0,(.d (.int .i64 p))),(3,.ptr 0 []),(5,(.d (.int .i64 64))),(7,(.d (.bool false)))],[.box false (D.arr 64 .leaf (ints .u8 l))]⟩) else some (.ret,⟨[(4,(.d (.bool false)))],[.hole]⟩)
 | 0,i,hi=>by
  obtain rfl:i=64:=by omega
  rw [show l.drop 64=[] from List.drop_eq_nil_of_le (by omega)]
  exact dn_stop (by simp -implicitDefEqProofs [Z3o_L0,dn_cond])
 | m+1,i,hi=>by
  have hlt:i<l.length:=by omega
  have hi64:i<64:=by omega
  have hi64':(i:Int)<64:=by omega
  have hx:l[i]=cf l i:=(cf_lt hlt).symm
  have hb':=hb _ (List.getElem_mem hlt)
  rw [hx] at hb'
  have w1:IntKind.i64.wrap (cf l i)=cf l i:=w64 (by omega)
  have w4:IntKind.i64.wrap ((i:Int)+1)=((i+1:Nat):Int):=(w64 (x:=(i:Int)+1) (by omega)).trans (by omega)
  rw [List.drop_eq_getElem_cons hlt,List.all_cons,hx]
  by_cases h0:cf l i<p
  ·rw [decide_eq_true h0,Bool.true_and]
   refine dn_round ?_ (l_sIs hb hl m (i+1) (by omega))
   have h1:¬ p≤cf l i:=by omega
   simp -implicitDefEqProofs [Z3o_L0,dn_cond,hlt,hi64,hi64',hx,h1,w1,w4]
  ·rw [decide_eq_false h0,Bool.false_and]
   have h1:p≤cf l i:=by omega
   refine dn_back ?_
   simp -implicitDefEqProofs [Z3o_L0,dn_cond,hlt,hi64,hi64',hx,h1,w1]
def C_sIs (O:Oracle):Prop:=∀(p:Int) (l:List Int),Bytes l→l.length=64→ask O F3o [(D.int .i64 p),(D.arr 64 .leaf (ints .u8 l))]=some (D.bool (isPl p l&&isP p))
theorem c_sIs (hT:T F3o=some Z3o) (hp:C_sPrime (den T A)):C_sIs (den T A):=by
 intro p l hb hl
 have e:=l_sIs (O:=den T A) (p:=p) hb hl 64 0 (by omega)
 have e0:((0:Nat):Int)=0:=rfl
 rw [e0,List.drop_zero,show (l.all fun x=>decide (x<p))=isPl p l from rfl] at e
 have e1:=hp p
 refine ask_of hT rfl ?_
 by_cases h:isPl p l=true
 ·rw [if_pos h] at e
  simp -implicitDefEqProofs [Z3o,Z3o_B,e,e1,h]
 ·rw [if_neg h] at e
  simp -implicitDefEqProofs [Z3o,Z3o_B,e,h]
theorem l_sCode {O:Oracle} (hi:C_sIs O) {p:Int} (hp:isP p=true) {ls:List (List Int)} (h:Arrs ls) (hl:ls.length<2000000):∀(m i:Nat),i+m=ls.length →
 dn O 0 (.loop Z3e_L0) ⟨[(0,(.d (.int .i64 p))),(1,.d (.sl (.arr 64 .leaf) (ls.map arr8))),(5,(.d (.int .i64 i)))],[]⟩ =
  if (ls.drop i).all (isPl p) then some (.exit 0,⟨[(0,(.d (.int .i64 p))),(1,.d (.sl (.arr 64 .leaf) (ls.map arr8))),(5,(.d (.int .i64 ls.length))),(12,(.d (.bool false)))],[]⟩) else some (.ret,⟨[(4,(.d (.int .i64 1)))],[]⟩)
 | 0,i,hi'=>by
  obtain rfl:i=ls.length:=by omega
  rw [List.drop_length]
  exact dn_stop (by simp -implicitDefEqProofs [Z3e_L0,dn_cond])
 | m+1,i,hi'=>by
  have hlt:i<ls.length:=by omega
  have h1:=h _ (List.getElem_mem hlt)
  have e1:=hi p ls[i] h1.2 h1.1
  rw [hp,Bool.and_true] at e1
  have w4:IntKind.i64.wrap ((i:Int)+1)=((i+1:Nat):Int):=(w64 (x:=(i:Int)+1) (by omega)).trans (by omega)
  rw [List.drop_eq_getElem_cons hlt,List.all_cons]
  by_cases h0:isPl p ls[i]=true
  ·rw [h0,Bool.true_and]
   rw [h0] at e1
   refine dn_round ?_ (l_sCode hi hp h hl m (i+1) (by omega))
   simp -implicitDefEqProofs [Z3e_L0,dn_cond,hlt,e1,w4]
  ·rw [Bool.not_eq_true] at h0
   rw [h0,Bool.false_and]
   rw [h0] at e1
   refine dn_back ?_
   simp -implicitDefEqProofs [Z3e_L0,dn_cond,hlt,e1]
def C_sCode (O:Oracle):Prop:=∀(p:Int) (ls:List (List Int)),Arrs ls→ls.length<2000000→ask O F3e [(D.int .i64 p),.sl (.arr 64 .leaf) (ls.map arr8)]=some (D.int .i64 (codeP p ls))
theorem c_sCode (hT:T F3e=some Z3e) (hp:C_sPrime (den T A)) (hi:C_sIs (den T A)):C_sCode (den T A):=by
 intro p ls h hl
 have e1:=hp p
 unfold codeP
 refine ask_of hT rfl ?_
 by_cases h1:isP p=true
 ·have e:=l_sCode hi h1 h hl ls.length 0 (Nat.zero_add _)
  have e0:((0:Nat):Int)=0:=rfl
  rw [e0,List.drop_zero] at e
  by_cases h2:ls.all (isPl p)=true
  ·rw [if_pos h2] at e
   rw [if_pos ⟨h1,h2⟩]
   simp -implicitDefEqProofs [Z3e,Z3e_B,dn_cond,e1,e,h1]
  ·rw [if_neg h2] at e
   rw [if_neg (fun h=>h2 h.2)]
   simp -implicitDefEqProofs [Z3e,Z3e_B,dn_cond,e1,e,h1]
 ·rw [if_neg (fun h=>h1 h.1)]
  simp -implicitDefEqProofs [Z3e,Z3e_B,dn_cond,e1,h1]
open Classical in
def K_sMonic (O:Oracle):Prop:=∀(p:Int) [IsP p] (a:Fp p),a.len≤64→ask O F3q [(D.arr 64 .leaf (ints .u8 (pad (row a))))]=some (D.bool (decide (Monic a)))
open Classical in
theorem k_sMonic (hT:T F3q=some Z3q) (hd:K_sDeg (den T A)):K_sMonic (den T A):=by
 intro p i a hl
 have e1:=hd p a hl
 refine ask_of hT rfl ?_
 by_cases h0:a=0
 ·subst h0
  have hm:¬ Monic (0:Fp p):=fun h=>h.2 rfl
  rw [decide_eq_false hm]
  rw [Pol.len_zero] at e1
  simp -implicitDefEqProofs [Z3q,Z3q_B,e1]
 ·have hp:=Pol.len_pos h0
  have hd2:((a.len:Int)-1)=((a.len-1:Nat):Int):=by omega
  rw [hd2] at e1
  have hx:(pad (row a))[a.len-1]? = some (rep a.ld):=by rw [pad_get _ _ (by omega),row_cf]; rfl
  have h64:a.len-1<64:=by omega
  have e2:decide (rep a.ld=1)=decide (Monic a):=decide_eq_decide.2 (by rw [rep_one_iff,monic_iff])
  rw [←e2]
  generalize a.len-1=n at *
  generalize pad (row a)=L at *
  simp -implicitDefEqProofs [Z3q,Z3q_B,e1,hx,h64]
end Pe

namespace Pe
open Go Gq
variable {T:Nat→Option Fn} {A:Oracle}
def cntL (p:Int):Nat→Int→Int
 | 0,out=>out
 | n+1,out=>if out≤1000000000000 then cntL p n (out*p) else out
theorem cntL_min {p:Int} [IsP p]:∀(n:Nat) (out:Int),0<out→min (cntL p n out) 1000000000001=min (out*p^n) 1000000000001
 | 0,out,h=>by rw [Int.pow_zero,Int.mul_one]; rfl
 | n+1,out,h=>by
  have hp:=IsP.pos (p:=p)
  have e:out*p^(n+1)=out*p*p^n:=by rw [Int.pow_succ,Int.mul_assoc,Int.mul_comm p]
  unfold cntL
  split
  ·rw [e,cntL_min n _ (Int.mul_pos h hp)]
  ·have h1:1≤p^(n+1):=ppow_pos (n+1)
   have h2:out*1≤out*p^(n+1):=Int.mul_le_mul_of_nonneg_left h1 (by omega)
   omega
theorem l_sCount {O:Oracle} {p:Int} [IsP p]:∀(n:Nat) (out:Int),n<1000000→0<out→out≤7000000000000→∃n':Int,0<cntL p n out∧cntL p n out≤7000000000000 ∧
 dn O 0 (.loop Z3f_L0) ⟨[(0,(.d (.int .i64 p))),(1,(.d (.int .i64 n))),(5,(.d (.int .i64 out)))],[]⟩ =
  some (.exit 0,⟨[(0,(.d (.int .i64 p))),(1,(.d (.int .i64 n'))),(5,(.d (.int .i64 (cntL p n out)))),(11,(.d (.bool false)))],[]⟩)
 | 0,out,_,h1,h2=>⟨0,h1,h2,dn_stop (by simp -implicitDefEqProofs [Z3f_L0,dn_cond,cntL])⟩
 | n+1,out,hn,h1,h2=>by
  have hp:=IsP.pos (p:=p)
  have hp7:=IsP.le (p:=p)
  have h0:(0:Int)<(n:Int)+1:=by omega
  by_cases h3:out≤1000000000000
  ·have hmul:0<out*p∧out*p≤7000000000000:=by
    refine ⟨Int.mul_pos h1 hp,?_⟩
    have:out*p≤out*7:=Int.mul_le_mul_of_nonneg_left hp7 (by omega)
    omega
   obtain ⟨n',g1,g2,e⟩:=l_sCount (O:=O) (p:=p) n (out*p) (by omega) hmul.1 hmul.2
   have ec:cntL p (n+1) out=cntL p n (out*p):=if_pos h3
   rw [ec]
   have w1:IntKind.i64.wrap (out*p)=out*p:=w64 (by omega)
   have w2:IntKind.i64.wrap (n:Int)=n:=w64 (by omega)
   refine ⟨n',g1,g2,dn_round ?_ e⟩
   simp -implicitDefEqProofs [Z3f_L0,dn_cond,h0,h3,w1,w2]
  ·have ec:cntL p (n+1) out=out:=if_neg h3
   rw [ec]
   refine ⟨((n+1:Nat):Int),h1,h2,dn_stop ?_⟩
   simp -implicitDefEqProofs [Z3f_L0,dn_cond,h0,h3]
def K_sCount (O:Oracle):Prop:=∀(p:Int) [IsP p] (n:Nat),n<1000000→ask O F3f [(D.int .i64 p),(D.int .i64 n)]=some (D.int .i64 (min (p^n) 1000000000001))
theorem k_sCount (hT:T F3f=some Z3f):K_sCount (den T A):=by
 intro p i n hn
 obtain ⟨n',g1,g2,e⟩:=l_sCount (O:=den T A) (p:=p) n 1 hn (by omega) (by omega)
 have e2:=cntL_min (p:=p) n 1 (by omega)
 rw [Int.one_mul] at e2
 have e3:(if (1000000000001:Int)<cntL p n 1 then 1000000000001 else cntL p n 1)=min (p^n) 1000000000001:=by
  rw [←e2]
  split <;> omega
 refine ask_of hT rfl ?_
 simp -implicitDefEqProofs [Z3f,Z3f_B,e]
 exact e3
theorem k_sCount' {O:Oracle} (h:K_sCount O) (p:Int) [IsP p] (n:Nat) (hn:n≤12):ask O F3f [(D.int .i64 p),(D.int .i64 n)]=some (D.int .i64 (p^n)):=by
 have h1:=ppow_le (p:=p) hn
 rw [h p n (by omega),Int.min_eq_left (by omega)]
def K_sInverse (O:Oracle):Prop:=∀(p:Int) [IsP p] (x:Int),0<x→x<p→ask O F3m [(D.int .i64 p),.int .u8 x]=some (.int .u8 (inv p x))
theorem ask_closed {F:Nat} {fn:Fn} (hT:T F=some fn) {ds:List D} {d:D} {n:Nat} (h:run (fun _ _ _=>none) n fn (ds.map .d) []=some (.d d,[],[])):ask (den T A) F ds=some d:=by
 have h2:=den_run (A:=A) hT (n:=n) (vs:=ds.map .d) (bs:=[]) (ans:=(.d d,[],[])) (by
  obtain ⟨qs,h3,h4⟩:=run_rests h
  cases qs with
  | nil=>exact h4 _ (by intro q hq; simp at hq)
  | cons q qs=>exact absurd (h3 q (by simp)) (by simp))
 unfold ask
 rw [h2]
 simp
theorem k_sInverse (hT:T F3m=some Z3m):K_sInverse (den T A):=by
 intro p ip x h0 h1
 rcases ip.h with rfl | rfl | rfl | rfl
 ·obtain rfl:x=1:=by omega
  exact ask_closed hT (n:=10) (by kernel_rfl)
 ·have:x=1∨x=2:=by omega
  rcases this with rfl | rfl
  ·exact ask_closed hT (n:=10) (by kernel_rfl)
  ·exact ask_closed hT (n:=10) (by kernel_rfl)
 ·have:x=1∨x=2∨x=3∨x=4:=by omega
  rcases this with rfl | rfl | rfl | rfl
  ·exact ask_closed hT (n:=10) (by kernel_rfl)
  ·exact ask_closed hT (n:=10) (by kernel_rfl)
  ·exact ask_closed hT (n:=10) (by kernel_rfl)
  ·exact ask_closed hT (n:=10) (by kernel_rfl)
 ·have:x=1∨x=2∨x=3∨x=4∨x=5∨x=6:=by omega
  rcases this with rfl | rfl | rfl | rfl | rfl | rfl
  ·exact ask_closed hT (n:=10) (by kernel_rfl)
  ·exact ask_closed hT (n:=10) (by kernel_rfl)
  ·exact ask_closed hT (n:=10) (by kernel_rfl)
  ·exact ask_closed hT (n:=10) (by kernel_rfl)
  ·exact ask_closed hT (n:=10) (by kernel_rfl)
  ·exact ask_closed hT (n:=10) (by kernel_rfl)
theorem pad_of {p:Int} [IsP p] {l:List Int} (h:Can p l) (hl:l.length=64):l=pad (row (polOf p l)):=by
 rw [←trim_polOf h]
 symm
 apply pad_eq hl
 intro i hi
 rw [trim_polOf h,row_cf,polOf_c,rep_zp (h.le IsP.pos i)]
theorem pad_can {p:Int} [IsP p] (a:Fp p):Can p (pad (row a)):=fun x hx=>by
 obtain ⟨i,_,rfl⟩:=List.mem_map.1 hx
 exact (row_can a).le IsP.pos i
theorem polOf_pad {p:Int} {a:Fp p} (hl:a.len≤64):polOf p (pad (row a))=a:=Pol.ext fun i=>by rw [polOf_c,pad_cf (by rw [row_length]; exact hl),row_cf,zp_rep]
theorem pad_row_cf {p:Int} {a:Fp p} (hl:a.len≤64) (i:Nat):cf (pad (row a)) i=rep (a.c i):=by rw [pad_cf (by rw [row_length]; exact hl),row_cf]
theorem l_sAdd {O:Oracle} {p k:Int} [IsP p] {a b z:List Int} (ha:Can p a) (hb:Can p b) (hbl:b.length=64) (hk:-1000000≤k∧k≤1000000):∀(m i:Nat) (cur:List Int),i+m=64→cur.length=64→(∀j,i≤j→cf cur j=cf a j) →
 dn O 0 (.loop Z3c_L0) ⟨[(0,(.d (.int .i64 p))),(3,(.d (.int .i64 k))),(5,.ptr 0 []),(6,.ptr 1 []),(8,.ptr 2 []),(9,(.d (.int .i64 i)))],[.box false (D.arr 64 .leaf (ints .u8 cur)),.box false (D.arr 64 .leaf (ints .u8 b)),.box false (D.arr 64 .leaf (ints .u8 z))]⟩ =
  some (.exit 0,⟨[(0,(.d (.int .i64 p))),(3,(.d (.int .i64 k))),(5,.ptr 0 []),(6,.ptr 1 []),(8,.ptr 2 []),(9,(.d (.int .i64 64))),(11,(.d (.bool false)))],[.box false (D.arr 64 .leaf (ints .u8 (upd (lin p a b k) m i cur))),.box false (D.arr 64 .leaf (ints .u8 b)),.box false (D.arr 64 .leaf (ints .u8 z))]⟩)
 | 0,i,cur,hi,hc,hs=>by
  obtain rfl:i=64:=by omega
  exact dn_stop (by simp -implicitDefEqProofs [Z3c_L0,dn_cond,upd])
 | m+1,i,cur,hi,hc,hs=>by
  have hp:=IsP.pos (p:=p)
  have hp7:=IsP.le (p:=p)
  have hp0:p≠0:=by omega
  have hlt:i<cur.length:=by omega
  have hlb:i<b.length:=by omega
  have hi64:i<64:=by omega
  have hi64':(i:Int)<64:=by omega
  have hx:cur[i]=cf a i:=by rw [←cf_lt hlt]; exact hs i (Nat.le_refl i)
  have hy:b[i]=cf b i:=(cf_lt hlb).symm
  have ga:=ha.le hp i
  have gb:=hb.le hp i
  have gm:=mul_small (x:=k) (y:=cf b i) (b:=1000000) (c:=10) hk (by omega) (by omega)
  have w1:IntKind.i64.wrap (cf a i)=cf a i:=w64 (by omega)
  have w2:IntKind.i64.wrap (cf b i)=cf b i:=w64 (by omega)
  have w3:IntKind.i64.wrap (k*cf b i)=k*cf b i:=w64 (by omega)
  have w5:IntKind.i64.wrap (cf a i+k*cf b i)=cf a i+k*cf b i:=w64 (by omega)
  have hin:=tmod_in (n:=cf a i+k*cf b i) hp
  have w6:IntKind.i64.wrap ((cf a i+k*cf b i).tmod p+p)=(cf a i+k*cf b i).tmod p+p:=w64 (by omega)
  have w7:((cf a i+k*cf b i).tmod p+p).tmod p=lin p a b k i:=tmod_tmod hp
  have hlin:0≤lin p a b k i∧lin p a b k i<p:=⟨Int.emod_nonneg _ (by omega),Int.emod_lt_of_pos _ hp⟩
  have w8':IntKind.u8.wrap (lin p a b k i)=lin p a b k i:=w8 (by omega)
  have w4:IntKind.i64.wrap ((i:Int)+1)=((i+1:Nat):Int):=(w64 (x:=(i:Int)+1) (by omega)).trans (by omega)
  refine dn_round ?_ (l_sAdd ha hb hbl hk m (i+1) (cur.set i (lin p a b k i)) (by omega) (by simpa using hc) (fun j hj=>by rw [cf_set,if_neg (by omega)]; exact hs j (by omega)))
  simp -implicitDefEqProofs [Z3c_L0,dn_cond,hlt,hlb,hi64,hi64',hx,hy,w1,w2,w3,w5,w6,w7,w8',w4,hp0]
def K_sAdd (O:Oracle):Prop:=∀(p:Int) [IsP p] (k:Int) (a b:Fp p),-1000000≤k→k≤1000000→a.len≤64→b.len≤64 →
 ask O F3c [(D.int .i64 p),(D.arr 64 .leaf (ints .u8 (pad (row a)))),(D.arr 64 .leaf (ints .u8 (pad (row b)))),(D.int .i64 k)]=some (D.arr 64 .leaf (ints .u8 (pad (row (a+Pol.C (zp p k)*b)))))
theorem k_sAdd (hT:T F3c=some Z3c):K_sAdd (den T A):=by
 intro p i k a b hk hk' hal hbl
 have e:=l_sAdd (O:=den T A) (z:=pad []) (pad_can a) (pad_can b) (pad_length _) ⟨hk,hk'⟩ 64 0 (pad (row a)) (by omega) (pad_length _) (fun _ _=>rfl)
 have e0:((0:Nat):Int)=0:=rfl
 rw [e0,upd_all _ _ _ (pad_length _)] at e
 have e2:(List.range 64).map (lin p (pad (row a)) (pad (row b)) k)=pad (row (a+Pol.C (zp p k)*b)):=by
  unfold pad
  congr 1
  funext j
  rw [row_cf,Pol.c_add,Pol.c_Cmul]
  show (cf (pad (row a)) j+k*cf (pad (row b)) j)%p=_
  rw [pad_row_cf hal,pad_row_cf hbl,←rep_mk,zp_add,zp_mul,zp_rep,zp_rep]
 rw [e2] at e
 refine ask_of hT rfl ?_
 generalize pad (row (a+Pol.C (zp p k)*b))=R at *
 simp -implicitDefEqProofs [Z3c,Z3c_B,e]
def K_sOne (O:Oracle):Prop:=∀(p:Int) [IsP p],ask O F3u []=some (D.arr 64 .leaf (ints .u8 (pad (row (1:Fp p)))))
theorem k_sOne (hT:T F3u=some Z3u):K_sOne (den T A):=by
 intro p i
 have e:(pad []).set 0 1=pad [1]:=by decide +kernel
 have h0:(0:Nat)<(pad []).length:=by rw [pad_length]; omega
 rw [row_one]
 refine ask_of hT rfl ?_
 simp -implicitDefEqProofs [Z3u,Z3u_B,e,h0]
end Pe

namespace Pe
open Go Gq
variable {T:Nat→Option Fn} {A:Oracle}
def subS (p q:Int) (b:List Int) (i:Nat) (m:Nat) (cur:List Int):List Int:=if q=0 then cur else subTo p q b i m 0 cur
theorem subS_eq {p q:Int} [IsP p] {b cur:List Int} {i m:Nat} (hc:Can p cur) (hl:i+m≤cur.length):subS p q b i m cur=subTo p q b i m 0 cur:=by
 unfold subS
 split
 ·rename_i h
  subst h
  apply List.ext_getElem
  ·rw [subTo_length]
  ·intro j h1 h2
   rw [←cf_lt h1,←cf_lt h2,subTo_cf _ _ _ _ _ _ _ _ (by omega)]
   have:=hc.le IsP.pos j
   split
   ·rw [Int.zero_mul,Int.sub_zero,Int.emod_eq_of_lt this.1 this.2]
   ·rfl
 ·rfl
theorem l_sDiv0 {O:Oracle} {p q by_:Int} [IsP p] {b quo z z':List Int} {i bl:Nat} (hq:0<q∧q<p) (hb:Can p b) (hbl:b.length=64) (hn:i+bl≤64) (h0:0<bl):∀(m k:Nat) (cur:List Int),k+m=bl→cur.length=64→Can p cur →
 dn O 0 (.loop Z3h_L0) ⟨[(0,(.d (.int .i64 p))),(4,.ptr 0 []),(5,.ptr 1 []),(6,.ptr 2 []),(7,.ptr 3 []),(8,.ptr 4 []),(9,(.d (.int .i64 ((bl:Int)-1)))),(10,(.d (.int .i64 by_))),(11,(.d (.int .i64 ((i:Int)+bl-1)))),(12,(.d (.int .i64 q))),(13,(.d (.int .i64 k)))],[.box false (D.arr 64 .leaf (ints .u8 cur)),.box false (D.arr 64 .leaf (ints .u8 b)),.box false (D.arr 64 .leaf (ints .u8 z)),.box false (D.arr 64 .leaf (ints .u8 z')),.box false (D.arr 64 .leaf (ints .u8 quo))]⟩ =
  some (.exit 2,⟨[(0,(.d (.int .i64 p))),(4,.ptr 0 []),(5,.ptr 1 []),(6,.ptr 2 []),(7,.ptr 3 []),(8,.ptr 4 []),(9,(.d (.int .i64 ((bl:Int)-1)))),(10,(.d (.int .i64 by_))),(11,(.d (.int .i64 ((i:Int)+bl-1)))),(12,(.d (.int .i64 q))),(13,(.d (.int .i64 bl))),(50,(.d (.bool false)))],[.box false (D.arr 64 .leaf (ints .u8 (subTo p q b i m k cur))),.box false (D.arr 64 .leaf (ints .u8 b)),.box false (D.arr 64 .leaf (ints .u8 z)),.box false (D.arr 64 .leaf (ints .u8 z')),.box false (D.arr 64 .leaf (ints .u8 quo))]⟩)
 | 0,k,cur,hk,hc,hcan=>by
  obtain rfl:k=bl:=by omega
  have h1:¬ (k:Int)≤(k:Int)-1:=by omega
  exact dn_stop (by simp -implicitDefEqProofs [Z3h_L0,dn_cond,subTo,h1])
 | m+1,k,cur,hk,hc,hcan=>by
  have hp:=IsP.pos (p:=p)
  have hp7:=IsP.le (p:=p)
  have hp0:p≠0:=by omega
  have hq0:q≠0:=by omega
  have h1:(k:Int)≤(bl:Int)-1:=by omega
  have w1:IntKind.i64.wrap ((i:Int)+bl-1-(bl-1))=i:=(w64 (x:=(i:Int)+bl-1-(bl-1)) (by omega)).trans (by omega)
  have w2:IntKind.i64.wrap ((i:Int)+k)=((i+k:Nat):Int):=(w64 (x:=(i:Int)+k) (by omega)).trans (by omega)
  have hik:i+k<64:=by omega
  have hikc:i+k<cur.length:=by omega
  have hkb:k<b.length:=by omega
  have hk64:k<64:=by omega
  have hx:cur[i+k]=cf cur (i+k):=(cf_lt hikc).symm
  have hy:b[k]=cf b k:=(cf_lt hkb).symm
  have gc:=hcan.le hp (i+k)
  have gb:=hb.le hp k
  have gm:=mul_small (x:=q) (y:=cf b k) (b:=10) (c:=10) (by omega) (by omega) (by omega)
  have w3:IntKind.i64.wrap (cf cur (i+k))=cf cur (i+k):=w64 (by omega)
  have w5:IntKind.i64.wrap (cf b k)=cf b k:=w64 (by omega)
  have w6:IntKind.i64.wrap (q*cf b k)=q*cf b k:=w64 (by omega)
  have w7:IntKind.i64.wrap (cf cur (i+k)-q*cf b k)=cf cur (i+k)-q*cf b k:=w64 (by omega)
  have hin:=tmod_in (n:=cf cur (i+k)-q*cf b k) hp
  have w9:IntKind.i64.wrap ((cf cur (i+k)-q*cf b k).tmod p+p)=(cf cur (i+k)-q*cf b k).tmod p+p:=w64 (by omega)
  have w10:((cf cur (i+k)-q*cf b k).tmod p+p).tmod p=(cf cur (i+k)-q*cf b k)%p:=tmod_tmod hp
  have hlin:0≤(cf cur (i+k)-q*cf b k)%p∧(cf cur (i+k)-q*cf b k)%p<p:=⟨Int.emod_nonneg _ (by omega),Int.emod_lt_of_pos _ hp⟩
  have w11:IntKind.u8.wrap ((cf cur (i+k)-q*cf b k)%p)=(cf cur (i+k)-q*cf b k)%p:=w8 (by omega)
  have w4:IntKind.i64.wrap ((k:Int)+1)=((k+1:Nat):Int):=(w64 (x:=(k:Int)+1) (by omega)).trans (by omega)
  have t1:(0:Int)≤(i:Int)+k:=by omega
  have t2:((i:Int)+k).toNat=i+k:=by omega
  have hcan':Can p (cur.set (i+k) ((cf cur (i+k)-q*cf b k)%p)):=by
   intro x hx
   rcases List.mem_or_eq_of_mem_set hx with h | h
   ·exact hcan x h
   ·subst h; exact hlin
  refine dn_round ?_ (l_sDiv0 hq hb hbl hn h0 m (k+1) (cur.set (i+k) ((cf cur (i+k)-q*cf b k)%p)) (by omega) (by simpa using hc) hcan')
  simp -implicitDefEqProofs [Z3h_L0,dn_cond,h1,hq0,w1,w2,hik,hikc,hkb,hk64,hx,hy,w3,w5,w6,w7,w9,w10,w11,w4,hp0,t1,t2]
theorem l_sDiv1 {O:Oracle} {p by_:Int} [IsP p] {b:List Int} {bl:Nat} {z z':List Int} (hby:0≤by_∧by_<p) (hb:Can p b) (hbl:b.length=64) (h0:0<bl):∀(c:Nat) (cur quo:List Int),c+bl≤65→cur.length=64→quo.length=64→Can p cur →
 dn O 0 (.loop Z3h_L1) ⟨[(0,(.d (.int .i64 p))),(4,.ptr 0 []),(5,.ptr 1 []),(6,.ptr 2 []),(7,.ptr 3 []),(8,.ptr 4 []),(9,(.d (.int .i64 ((bl:Int)-1)))),(10,(.d (.int .i64 by_))),(11,(.d (.int .i64 ((c:Int)+bl-2))))],[.box false (D.arr 64 .leaf (ints .u8 cur)),.box false (D.arr 64 .leaf (ints .u8 b)),.box false (D.arr 64 .leaf (ints .u8 z)),.box false (D.arr 64 .leaf (ints .u8 z')),.box false (D.arr 64 .leaf (ints .u8 quo))]⟩ =
  some (.exit 0,⟨[(0,(.d (.int .i64 p))),(4,.ptr 0 []),(5,.ptr 1 []),(6,.ptr 2 []),(7,.ptr 3 []),(8,.ptr 4 []),(9,(.d (.int .i64 ((bl:Int)-1)))),(10,(.d (.int .i64 by_))),(11,(.d (.int .i64 ((bl:Int)-2)))),(27,(.d (.bool false)))],[.box false (D.arr 64 .leaf (ints .u8 ((dv p by_ (b.take bl) c (cur,quo)).1))),.box false (D.arr 64 .leaf (ints .u8 b)),.box false (D.arr 64 .leaf (ints .u8 z)),.box false (D.arr 64 .leaf (ints .u8 z')),.box false (D.arr 64 .leaf (ints .u8 ((dv p by_ (b.take bl) c (cur,quo)).2)))]⟩)
 | 0,cur,quo,_,hc,hqo,hcan=>by
  have h1:¬ (bl:Int)-1≤(bl:Int)-2:=by omega
  have t0:((0:Nat):Int)+bl-2=(bl:Int)-2:=by omega
  rw [t0]
  exact dn_stop (by simp -implicitDefEqProofs [Z3h_L1,dn_cond,h1,dv])
 | c+1,cur,quo,hcb,hc,hqo,hcan=>by
  have hp:=IsP.pos (p:=p)
  have hp7:=IsP.le (p:=p)
  have hp0:p≠0:=by omega
  have hbt:(b.take bl).length=bl:=by rw [List.length_take]; omega
  have t0:((c+1:Nat):Int)+bl-2=(c:Int)+bl-1:=by omega
  rw [t0]
  have h1:(bl:Int)-1≤(c:Int)+bl-1:=by omega
  have hi64:c+bl-1<64:=by omega
  have hic:c+bl-1<cur.length:=by omega
  have t1:(0:Int)≤(c:Int)+bl-1:=by omega
  have t2:((c:Int)+bl-1).toNat=c+bl-1:=by omega
  have t3:(1:Int)≤(c:Int)+bl:=by omega
  have hx:cur[c+bl-1]=cf cur (c+bl-1):=(cf_lt hic).symm
  have gc:=hcan.le hp (c+bl-1)
  have gm:=mul_small (x:=cf cur (c+bl-1)) (y:=by_) (b:=10) (c:=10) (by omega) (by omega) (by omega)
  have w1:IntKind.i64.wrap (cf cur (c+bl-1))=cf cur (c+bl-1):=w64 (by omega)
  have w2:IntKind.i64.wrap (cf cur (c+bl-1)*by_)=cf cur (c+bl-1)*by_:=w64 (by omega)
  have w3:(cf cur (c+bl-1)*by_).tmod p=cf cur (c+bl-1)*by_%p:=Int.tmod_eq_emod_of_nonneg (Int.mul_nonneg gc.1 hby.1)
  have hq:0≤cf cur (c+bl-1)*by_%p∧cf cur (c+bl-1)*by_%p<p:=⟨Int.emod_nonneg _ hp0,Int.emod_lt_of_pos _ hp⟩
  have w4:IntKind.i64.wrap ((c:Int)+bl-1-(bl-1))=c:=(w64 (x:=(c:Int)+bl-1-(bl-1)) (by omega)).trans (by omega)
  have w5:IntKind.u8.wrap (cf cur (c+bl-1)*by_%p)=cf cur (c+bl-1)*by_%p:=w8 (by omega)
  have hc64:c<64:=by omega
  have hcq:c<quo.length:=by omega
  have w6:IntKind.i64.wrap ((c:Int)+bl-1-1)=(c:Int)+bl-2:=(w64 (x:=(c:Int)+bl-1-1) (by omega)).trans (by omega)
  have ed:dv p by_ (b.take bl) (c+1) (cur,quo)=dv p by_ (b.take bl) c (subS p (cf cur (c+bl-1)*by_%p) b c bl cur,quo.set c (cf cur (c+bl-1)*by_%p)):=by
   rw [dv,hbt,subS_eq hcan (by omega)]
   have es:∀(m k:Nat) (x:List Int),k+m≤bl→subTo p (cf cur (c+bl-1)*by_%p) (b.take bl) c m k x=subTo p (cf cur (c+bl-1)*by_%p) b c m k x:=by
    intro m
    induction m with
    | zero=>intro k x _; rfl
    | succ m ih=>
     intro k x hk
     have e:cf (b.take bl) k=cf b k:=by rw [cf_lt (by omega),cf_lt (by omega),List.getElem_take]
     rw [subTo,subTo,e,ih _ _ (by omega)]
   rw [es bl 0 cur (by omega)]
  rw [ed]
  have hcan':Can p (subS p (cf cur (c+bl-1)*by_%p) b c bl cur):=by rw [subS_eq hcan (by omega)]; exact subTo_can hp (by omega) hcan
  have hlen':(subS p (cf cur (c+bl-1)*by_%p) b c bl cur).length=64:=by rw [subS_eq hcan (by omega),subTo_length,hc]
  have ih:=l_sDiv1 (O:=O) (z:=z) (z':=z') hby hb hbl h0 c (subS p (cf cur (c+bl-1)*by_%p) b c bl cur) (quo.set c (cf cur (c+bl-1)*by_%p)) (by omega) hlen' (by simpa using hqo) hcan'
  refine dn_round ?_ ih
  generalize cf cur (c+bl-1)*by_%p=q at *
  have l0:∃k:Int,dn O 0 (.loop Z3h_L0) ⟨[(0,(.d (.int .i64 p))),(4,.ptr 0 []),(5,.ptr 1 []),(6,.ptr 2 []),(7,.ptr 3 []),(8,.ptr 4 []),(9,(.d (.int .i64 ((bl:Int)-1)))),(10,(.d (.int .i64 by_))),(11,(.d (.int .i64 ((c:Int)+bl-1)))),(12,(.d (.int .i64 q))),(13,(.d (.int .i64 0)))],[.box false (D.arr 64 .leaf (ints .u8 cur)),.box false (D.arr 64 .leaf (ints .u8 b)),.box false (D.arr 64 .leaf (ints .u8 z)),.box false (D.arr 64 .leaf (ints .u8 z')),.box false (D.arr 64 .leaf (ints .u8 (quo.set c q)))]⟩ =
   some (.exit 2,⟨[(0,(.d (.int .i64 p))),(4,.ptr 0 []),(5,.ptr 1 []),(6,.ptr 2 []),(7,.ptr 3 []),(8,.ptr 4 []),(9,(.d (.int .i64 ((bl:Int)-1)))),(10,(.d (.int .i64 by_))),(11,(.d (.int .i64 ((c:Int)+bl-1)))),(12,(.d (.int .i64 q))),(13,(.d (.int .i64 k))),(50,(.d (.bool false)))],[.box false (D.arr 64 .leaf (ints .u8 (subS p q b c bl cur))),.box false (D.arr 64 .leaf (ints .u8 b)),.box false (D.arr 64 .leaf (ints .u8 z)),.box false (D.arr 64 .leaf (ints .u8 z')),.box false (D.arr 64 .leaf (ints .u8 (quo.set c q)))]⟩):=by
   by_cases hq0:q=0
   ·subst hq0
    refine ⟨0,?_⟩
    have e:subS p 0 b c bl cur=cur:=if_pos rfl
    rw [e]
    have h2:(1:Int)≤(bl:Int):=by omega
    exact dn_stop (by simp -implicitDefEqProofs [Z3h_L0,dn_cond,h2])
   ·refine ⟨bl,?_⟩
    have e:subS p q b c bl cur=subTo p q b c bl 0 cur:=if_neg hq0
    rw [e]
    have:=l_sDiv0 (O:=O) (by_:=by_) (quo:=quo.set c q) (z:=z) (z':=z') (i:=c) (bl:=bl) ⟨by omega,hq.2⟩ hb hbl (by omega) h0 bl 0 cur (Nat.zero_add _) hc hcan
    exact this
  obtain ⟨k,l0⟩:=l0
  simp -implicitDefEqProofs [Z3h_L1,dn_cond,h1,hi64,hic,t2,t3,hx,w1,w2,w3,w4,w5,w6,hc64,hcq,hp0,l0]
def K_sDivide (O:Oracle):Prop:=∀(p:Int) [IsP p] (a b:Fp p),b≠0→a.len≤64→b.len≤64 →
 ask O F3h [(D.int .i64 p),(D.arr 64 .leaf (ints .u8 (pad (row a)))),(D.arr 64 .leaf (ints .u8 (pad (row b))))]=some (.tup [(D.arr 64 .leaf (ints .u8 (pad (row (a/b))))),(D.arr 64 .leaf (ints .u8 (pad (row (a%b)))))])
theorem pad_take {p:Int} {b:Fp p} (h:b.len≤64):(pad (row b)).take b.len=row b:=by
 apply List.ext_getElem
 ·rw [List.length_take,pad_length,row_length]; omega
 ·intro i h1 h2
  rw [List.getElem_take,←cf_lt,pad_row_cf h,←row_cf,cf_lt h2]
theorem k_sDivide (hT:T F3h=some Z3h) (hd:K_sDeg (den T A)) (hinv:K_sInverse (den T A)):K_sDivide (den T A):=by
 intro p i a b hb hal hbl
 have hp:=IsP.ge (p:=p)
 have hp7:=IsP.le (p:=p)
 have hb0:=Pol.len_pos hb
 have e1:=hd p b hbl
 have e2:=hd p a hal
 have hr:=rep_in b.ld
 have hld:rep b.ld≠0:=fun h0=>Pol.ld_ne hb (rep_eq_zero.1 h0)
 have e3:=hinv p (rep b.ld) (by omega) hr.2
 have hin:=inv_in p (rep b.ld)
 have w1:IntKind.i64.wrap (inv p (rep b.ld))=inv p (rep b.ld):=w64 (by omega)
 have hbx:(pad (row b))[b.len-1]? = some (rep b.ld):=by rw [pad_get _ _ (by omega),row_cf]; rfl
 have hbx':((b.len:Int)-1).toNat=b.len-1:=by omega
 have hbx2:(1:Int)≤(b.len:Int):=by omega
 have hbx3:b.len-1<64:=by omega
 have hz:∀j,cf (pad []) j=0:=fun j=>by rw [pad_cf (by simp),cf_ge (by simp)]
 have hcanz:Can p (pad []):=fun x hx=>by
  obtain ⟨j,_,rfl⟩:=List.mem_map.1 hx
  rw [cf_ge (by simp)]; omega
 have sp:=dv_spec b hb (a.len+1-b.len) (pad (row a)) (pad []) (by rw [pad_length]; omega) (by rw [pad_length]; omega) (pad_can a) (fun j _=>hz j) (fun j hj=>by
  rw [pad_row_cf hal,a.lt_len j (by omega),rep_zero]) hcanz
 have hl1:∀(B:List Int) (c:Nat) (x y:List Int),(dv p (inv p (rep b.ld)) B c (x,y)).1.length=x.length∧(dv p (inv p (rep b.ld)) B c (x,y)).2.length=y.length:=by
  intro B c
  induction c with
  | zero=>exact fun x y=>⟨rfl,rfl⟩
  | succ c ih=>
   intro x y
   rw [dv]
   obtain ⟨i1,i2⟩:=ih (subTo p (cf x (c+B.length-1)*inv p (rep b.ld)%p) B c B.length 0 x) (y.set c (cf x (c+B.length-1)*inv p (rep b.ld)%p))
   exact ⟨by rw [i1,subTo_length],by rw [i2,List.length_set]⟩
 obtain ⟨g1,g2⟩:=hl1 (row b) (a.len+1-b.len) (pad (row a)) (pad [])
 rw [pad_length] at g1 g2
 have l1:=l_sDiv1 (O:=den T A) (b:=pad (row b)) (bl:=b.len) (z:=pad []) (z':=pad []) hin (pad_can b) (pad_length _) hb0 (a.len+1-b.len) (pad (row a)) (pad []) (by omega) (pad_length _) (pad_length _) (pad_can a)
 rw [pad_take hbl] at l1
 generalize dv p (inv p (rep b.ld)) (row b) (a.len+1-b.len) (pad (row a),pad [])=r at *
 obtain ⟨s1,s2,s3,s4⟩:=sp
 have z0:polOf p (pad [])=0:=Pol.ext fun j=>by rw [polOf_c,hz]; rfl
 rw [z0,Gq.zero_mul,Gq.add_zero,polOf_pad hal,Gq.add_comm] at s1
 have hrl:(polOf p r.1).len<b.len:=by
  have:(polOf p r.1).lt (b.len-1):=fun i hi=>by rw [polOf_c,s2 i hi]; rfl
  have:=Pol.len_le this
  omega
 obtain ⟨h1,h2⟩:=Pol.div_mod_eq s1.symm hrl
 rw [h1,h2,←pad_of s3 g1,←pad_of s4 g2]
 have lz:∃n:Int,dn (den T A) 0 (.loop Z3h_L1) ⟨[(0,(.d (.int .i64 p))),(4,.ptr 0 []),(5,.ptr 1 []),(6,.ptr 2 []),(7,.ptr 3 []),(8,.ptr 4 []),(9,(.d (.int .i64 ((b.len:Int)-1)))),(10,(.d (.int .i64 (inv p (rep b.ld))))),(11,(.d (.int .i64 ((a.len:Int)-1))))],[.box false (D.arr 64 .leaf (ints .u8 (pad (row a)))),.box false (D.arr 64 .leaf (ints .u8 (pad (row b)))),.box false (D.arr 64 .leaf (ints .u8 (pad []))),.box false (D.arr 64 .leaf (ints .u8 (pad []))),.box false (D.arr 64 .leaf (ints .u8 (pad [])))]⟩ =
  some (.exit 0,⟨[(0,(.d (.int .i64 p))),(4,.ptr 0 []),(5,.ptr 1 []),(6,.ptr 2 []),(7,.ptr 3 []),(8,.ptr 4 []),(9,(.d (.int .i64 ((b.len:Int)-1)))),(10,(.d (.int .i64 (inv p (rep b.ld))))),(11,(.d (.int .i64 n))),(27,(.d (.bool false)))],[.box false (D.arr 64 .leaf (ints .u8 r.1)),.box false (D.arr 64 .leaf (ints .u8 (pad (row b)))),.box false (D.arr 64 .leaf (ints .u8 (pad []))),.box false (D.arr 64 .leaf (ints .u8 (pad []))),.box false (D.arr 64 .leaf (ints .u8 r.2))]⟩):=by
  by_cases hlt:b.len≤a.len
  ·rw [show ((a.len+1-b.len:Nat):Int)+b.len-2=(a.len:Int)-1 by omega] at l1
   exact ⟨_,l1⟩
  ·rw [show a.len+1-b.len=0 by omega] at l1
   have h3:¬ (b.len:Int)-1≤(b.len:Int)-2:=by omega
   have h4:¬ (b.len:Int)-1≤(a.len:Int)-1:=by omega
   have st:=dn_stop (O:=den T A) (np:=0) (c:=Z3h_L1) (s:=⟨[(0,(.d (.int .i64 p))),(4,.ptr 0 []),(5,.ptr 1 []),(6,.ptr 2 []),(7,.ptr 3 []),(8,.ptr 4 []),(9,(.d (.int .i64 ((b.len:Int)-1)))),(10,(.d (.int .i64 (inv p (rep b.ld))))),(11,(.d (.int .i64 (((0:Nat):Int)+b.len-2))))],[.box false (D.arr 64 .leaf (ints .u8 (pad (row a)))),.box false (D.arr 64 .leaf (ints .u8 (pad (row b)))),.box false (D.arr 64 .leaf (ints .u8 (pad []))),.box false (D.arr 64 .leaf (ints .u8 (pad []))),.box false (D.arr 64 .leaf (ints .u8 (pad [])))]⟩) (s1:=⟨[(0,(.d (.int .i64 p))),(4,.ptr 0 []),(5,.ptr 1 []),(6,.ptr 2 []),(7,.ptr 3 []),(8,.ptr 4 []),(9,(.d (.int .i64 ((b.len:Int)-1)))),(10,(.d (.int .i64 (inv p (rep b.ld))))),(11,(.d (.int .i64 (((0:Nat):Int)+b.len-2)))),(27,(.d (.bool false)))],[.box false (D.arr 64 .leaf (ints .u8 (pad (row a)))),.box false (D.arr 64 .leaf (ints .u8 (pad (row b)))),.box false (D.arr 64 .leaf (ints .u8 (pad []))),.box false (D.arr 64 .leaf (ints .u8 (pad []))),.box false (D.arr 64 .leaf (ints .u8 (pad [])))]⟩) (id:=0) (by
    have h3':¬ (b.len:Int)-1≤((0:Nat):Int)+b.len-2:=by omega
    simp -implicitDefEqProofs only [Int.natCast_zero,Int.zero_add] at h3' ⊢
    simp -implicitDefEqProofs [Z3h_L1,dn_cond,h3'])
   rw [st] at l1
   have l2:=Option.some.inj l1
   injection l2 with _ l3
   injection l3 with _ l4
   injection l4 with l5 l6
   injection l6 with _ l7
   injection l7 with _ l8
   injection l8 with _ l9
   injection l9 with l10 _
   have e5:(D.arr 64 .leaf (ints .u8 (pad (row a))))=(D.arr 64 .leaf (ints .u8 r.1)):=by injection l5
   have e6:(D.arr 64 .leaf (ints .u8 (pad [])))=(D.arr 64 .leaf (ints .u8 r.2)):=by injection l10
   rw [←e5,←e6]
   exact ⟨(a.len:Int)-1,dn_stop (by simp -implicitDefEqProofs [Z3h_L1,dn_cond,h4])⟩
 obtain ⟨n,lz⟩:=lz
 refine ask_of hT rfl ?_
 obtain ⟨r1,r2⟩:=r
 simp only at lz ⊢
 generalize pad (row a)=PA at *
 generalize pad (row b)=PB at *
 simp -implicitDefEqProofs [Z3h,Z3h_B,e1,e2,e3,w1,hbx,hbx',hbx2,hbx3,lz]
end Pe

namespace Pe
open Go Gq
variable {T:Nat→Option Fn} {A:Oracle}
def K_sMod (O:Oracle):Prop:=∀(p:Int) [IsP p] (a b:Fp p),b≠0→a.len≤64→b.len≤64 →
 ask O F3p [(D.int .i64 p),(D.arr 64 .leaf (ints .u8 (pad (row a)))),(D.arr 64 .leaf (ints .u8 (pad (row b))))]=some (D.arr 64 .leaf (ints .u8 (pad (row (a%b)))))
theorem k_sMod (hT:T F3p=some Z3p) (hd:K_sDivide (den T A)):K_sMod (den T A):=by
 intro p i a b hb h1 h2
 have e:=hd p a b hb h1 h2
 refine ask_of hT rfl ?_
 simp -implicitDefEqProofs [Z3p,Z3p_B,e]
theorem cf_upd (f:Nat→Int) (m i:Nat) (l:List Int) (j:Nat):cf (upd f m i l) j=if i≤j∧j<i+m∧j<l.length then f j else cf l j:=by
 unfold cf
 rw [List.getD_eq_getElem?_getD,List.getD_eq_getElem?_getD,upd_get]
 split <;> rfl
theorem l_sUp0 {O:Oracle} {p:Int} {a:List Int} {mm z:List Int} {n:Nat} {top:Int} (hal:a.length=64) (hn:n<64):∀(k i:Nat) (cur:List Int),i+k=n→1≤i→cur.length=64 →
 dn O 0 (.loop Z40_L0) ⟨[(0,(.d (.int .i64 p))),(4,.ptr 0 []),(5,.ptr 1 []),(6,.ptr 2 []),(7,(.d (.int .i64 n))),(8,(.d (.int .i64 top))),(9,.ptr 3 []),(10,(.d (.int .i64 i)))],[.box false (D.arr 64 .leaf (ints .u8 a)),.box false (D.arr 64 .leaf (ints .u8 mm)),.box false (D.arr 64 .leaf (ints .u8 z)),.box false (D.arr 64 .leaf (ints .u8 cur))]⟩ =
  some (.exit 0,⟨[(0,(.d (.int .i64 p))),(4,.ptr 0 []),(5,.ptr 1 []),(6,.ptr 2 []),(7,(.d (.int .i64 n))),(8,(.d (.int .i64 top))),(9,.ptr 3 []),(10,(.d (.int .i64 n))),(26,(.d (.bool false)))],[.box false (D.arr 64 .leaf (ints .u8 a)),.box false (D.arr 64 .leaf (ints .u8 mm)),.box false (D.arr 64 .leaf (ints .u8 z)),.box false (D.arr 64 .leaf (ints .u8 (upd (fun j=>cf a (j-1)) k i cur)))]⟩)
 | 0,i,cur,hi,h1,hc=>by
  obtain rfl:i=n:=by omega
  exact dn_stop (by simp -implicitDefEqProofs [Z40_L0,dn_cond,upd])
 | k+1,i,cur,hi,h1,hc=>by
  have hlt:i<n:=by omega
  have hi1:i-1<a.length:=by omega
  have hi2:i-1<64:=by omega
  have hi64:i<64:=by omega
  have hic:i<cur.length:=by omega
  have hx:a[i-1]=cf a (i-1):=(cf_lt hi1).symm
  have w1:IntKind.i64.wrap ((i:Int)-1)=((i-1:Nat):Int):=(w64 (x:=(i:Int)-1) (by omega)).trans (by omega)
  have w4:IntKind.i64.wrap ((i:Int)+1)=((i+1:Nat):Int):=(w64 (x:=(i:Int)+1) (by omega)).trans (by omega)
  refine dn_round ?_ (l_sUp0 hal hn k (i+1) (cur.set i (cf a (i-1))) (by omega) (by omega) (by simpa using hc))
  simp -implicitDefEqProofs [Z40_L0,dn_cond,hlt,hi1,hi2,hi64,hic,hx,w1,w4]
theorem l_sUp1 {O:Oracle} {p q:Int} [IsP p] {b z out:List Int} {n:Nat} {hol:Blk} (hh:hol=.hole) (hb:Can p b) (hbl:b.length=64) (hq:0≤q∧q<p) (hn:n<64) (ho:Can p out):∀(k i:Nat) (cur:List Int),i+k=n→cur.length=64→(∀j,i≤j→cf cur j=cf out j) →
 dn O 0 (.loop Z40_L1) ⟨[(0,(.d (.int .i64 p))),(5,.ptr 1 []),(6,.ptr 2 []),(7,(.d (.int .i64 n))),(9,.ptr 3 []),(11,(.d (.int .i64 q))),(12,(.d (.int .i64 i)))],[hol,.box false (D.arr 64 .leaf (ints .u8 b)),.box false (D.arr 64 .leaf (ints .u8 z)),.box false (D.arr 64 .leaf (ints .u8 cur))]⟩ =
  some (.exit 2,⟨[(0,(.d (.int .i64 p))),(5,.ptr 1 []),(6,.ptr 2 []),(7,(.d (.int .i64 n))),(9,.ptr 3 []),(11,(.d (.int .i64 q))),(12,(.d (.int .i64 n))),(47,(.d (.bool false)))],[hol,.box false (D.arr 64 .leaf (ints .u8 b)),.box false (D.arr 64 .leaf (ints .u8 z)),.box false (D.arr 64 .leaf (ints .u8 (upd (fun j=>(cf out j-q*cf b j)%p) k i cur)))]⟩)
 | 0,i,cur,hi,hc,hs=>by
  subst hh
  obtain rfl:i=n:=by omega
  exact dn_stop (by simp -implicitDefEqProofs [Z40_L1,dn_cond,upd])
 | k+1,i,cur,hi,hc,hs=>by
  have hp:=IsP.pos (p:=p)
  have hp7:=IsP.le (p:=p)
  have hp0:p≠0:=by omega
  have hlt:i<n:=by omega
  have hi64:i<64:=by omega
  have hic:i<cur.length:=by omega
  have hib:i<b.length:=by omega
  have hx:cur[i]=cf out i:=by rw [←cf_lt hic]; exact hs i (Nat.le_refl i)
  have hy:b[i]=cf b i:=(cf_lt hib).symm
  have gc:=ho.le hp i
  have gb:=hb.le hp i
  have gm:=mul_small (x:=q) (y:=cf b i) (b:=10) (c:=10) (by omega) (by omega) (by omega)
  have w3:IntKind.i64.wrap (cf out i)=cf out i:=w64 (by omega)
  have w5:IntKind.i64.wrap (cf b i)=cf b i:=w64 (by omega)
  have w6:IntKind.i64.wrap (q*cf b i)=q*cf b i:=w64 (by omega)
  have w7:IntKind.i64.wrap (cf out i-q*cf b i)=cf out i-q*cf b i:=w64 (by omega)
  have hin:=tmod_in (n:=cf out i-q*cf b i) hp
  have w9:IntKind.i64.wrap ((cf out i-q*cf b i).tmod p+p)=(cf out i-q*cf b i).tmod p+p:=w64 (by omega)
  have w10:((cf out i-q*cf b i).tmod p+p).tmod p=(cf out i-q*cf b i)%p:=tmod_tmod hp
  have hlin:0≤(cf out i-q*cf b i)%p∧(cf out i-q*cf b i)%p<p:=⟨Int.emod_nonneg _ (by omega),Int.emod_lt_of_pos _ hp⟩
  have w11:IntKind.u8.wrap ((cf out i-q*cf b i)%p)=(cf out i-q*cf b i)%p:=w8 (by omega)
  have w4:IntKind.i64.wrap ((i:Int)+1)=((i+1:Nat):Int):=(w64 (x:=(i:Int)+1) (by omega)).trans (by omega)
  refine dn_round ?_ (l_sUp1 hh hb hbl hq hn ho k (i+1) (cur.set i ((cf out i-q*cf b i)%p)) (by omega) (by simpa using hc) (fun j hj=>by rw [cf_set,if_neg (by omega)]; exact hs j (by omega)))
  subst hh
  simp -implicitDefEqProofs [Z40_L1,dn_cond,hlt,hi64,hic,hib,hx,hy,w3,w5,w6,w7,w9,w10,w11,w4,hp0]
def K_sUp (O:Oracle):Prop:=∀(p:Int) [IsP p] (a m:Fp p),m≠0→a.len<m.len→m.len≤64 →
 ask O F40 [(D.int .i64 p),(D.arr 64 .leaf (ints .u8 (pad (row a)))),(D.arr 64 .leaf (ints .u8 (pad (row m))))]=some (D.arr 64 .leaf (ints .u8 (pad (row (Pol.X*a%m)))))
theorem k_sUp (hT:T F40=some Z40) (hd:K_sDeg (den T A)) (hinv:K_sInverse (den T A)):K_sUp (den T A):=by
 intro p i a m hm hal hml
 have hp:=IsP.ge (p:=p)
 have hp7:=IsP.le (p:=p)
 have e1:=hd p m hml
 refine ask_of hT rfl ?_
 by_cases h1:m.len=1
 ·have ha:a=0:=Pol.len_zero_iff.1 (by omega)
  subst ha
  rw [Gq.mul_zero,Pol.zero_mod hm,row_zero]
  rw [h1] at e1
  simp -implicitDefEqProofs [Z40,Z40_B,dn_cond,e1]
 ·have hm0:=Pol.len_pos hm
  obtain ⟨n,hn⟩:∃n,m.len=n+2:=⟨m.len-2,by omega⟩
  have e1':ask (den T A) F3g [(D.arr 64 .leaf (ints .u8 (pad (row m))))]=some (D.int .i64 ((n+1:Nat))):=by rw [e1,hn]; congr 2; omega
  have hr:=rep_in m.ld
  have hld:rep m.ld≠0:=fun h0=>Pol.ld_ne hm (rep_eq_zero.1 h0)
  have e3:=hinv p (rep m.ld) (by omega) hr.2
  have hin:=inv_in p (rep m.ld)
  have hpa:a.len≤64:=by omega
  have hax:(pad (row a))[n]? = some (rep (a.c n)):=by rw [pad_get _ _ (by omega),row_cf]
  have hmx:(pad (row m))[n+1]? = some (rep m.ld):=by
   rw [pad_get _ _ (by omega),row_cf]
   unfold Pol.ld
   rw [hn]; rfl
  have ha0:=rep_in (a.c n)
  have w0:IntKind.i64.wrap ((n:Int)+1-1)=(n:Int):=(w64 (x:=(n:Int)+1-1) (by omega)).trans (by omega)
  have w0':IntKind.i64.wrap (n:Int)=(n:Int):=w64 (by omega)
  have w1:IntKind.i64.wrap (rep (a.c n))=rep (a.c n):=w64 (by omega)
  have w2:IntKind.i64.wrap (inv p (rep m.ld))=inv p (rep m.ld):=w64 (by omega)
  have gm:=mul_small (x:=rep (a.c n)) (y:=inv p (rep m.ld)) (b:=10) (c:=10) (by omega) (by omega) (by omega)
  have w3:IntKind.i64.wrap (rep (a.c n)*inv p (rep m.ld))=rep (a.c n)*inv p (rep m.ld):=w64 (by omega)
  have w4:(rep (a.c n)*inv p (rep m.ld)).tmod p=rep (a.c n)*inv p (rep m.ld)%p:=Int.tmod_eq_emod_of_nonneg (Int.mul_nonneg ha0.1 hin.1)
  have hq:0≤rep (a.c n)*inv p (rep m.ld)%p∧rep (a.c n)*inv p (rep m.ld)%p<p:=⟨Int.emod_nonneg _ (by omega),Int.emod_lt_of_pos _ (by omega)⟩
  have hqz:zp p (rep (a.c n)*inv p (rep m.ld)%p)=a.c n*Fd.inv m.ld:=by
   rw [zp_mod,zp_mul,zp_rep,finv_rep _ (Pol.ld_ne hm)]
  generalize rep (a.c n)*inv p (rep m.ld)%p=q at *
  have l0:=l_sUp0 (O:=den T A) (p:=p) (a:=pad (row a)) (mm:=pad (row m)) (z:=pad []) (n:=n+1) (top:=rep (a.c n)) (pad_length _) (by omega) n 1 (pad []) (by omega) (Nat.le_refl 1) (pad_length _)
  have hz:∀j,cf (pad []) j=0:=fun j=>by rw [pad_cf (by simp),cf_ge (by simp)]
  have c0:∀j,cf (upd (fun j=>cf (pad (row a)) (j-1)) n 1 (pad [])) j=if 1≤j∧j<n+1 then rep (a.c (j-1)) else 0:=fun j=>by
   rw [cf_upd,hz,pad_length]
   by_cases h:1≤j∧j<n+1
   ·rw [if_pos (by omega),if_pos h,pad_row_cf hpa]
   ·rw [if_neg (by omega),if_neg h]
  have hlen0:(upd (fun j=>cf (pad (row a)) (j-1)) n 1 (pad [])).length=64:=by rw [upd_length,pad_length]
  generalize upd (fun j=>cf (pad (row a)) (j-1)) n 1 (pad [])=out at *
  have hcan0:Can p out:=Can.of_cf fun j _=>by rw [c0]; split; exact rep_in _; omega
  have l1:=l_sUp1 (O:=den T A) (p:=p) (q:=q) (b:=pad (row m)) (z:=pad []) (out:=out) (n:=n+1) rfl (pad_can m) (pad_length _) hq (by omega) hcan0 (n+1) 0 out (by omega) hlen0 (fun _ _=>rfl)
  have hres:upd (fun j=>(cf out j-q*cf (pad (row m)) j)%p) (n+1) 0 out=pad (row (Pol.X*a%m)):=by
   have hlenR:(upd (fun j=>(cf out j-q*cf (pad (row m)) j)%p) (n+1) 0 out).length=64:=by rw [upd_length,hlen0]
   have hcR:∀j,cf (upd (fun j=>(cf out j-q*cf (pad (row m)) j)%p) (n+1) 0 out) j=if j<n+1 then (cf out j-q*rep (m.c j))%p else 0:=fun j=>by
    rw [cf_upd,hlen0]
    by_cases h:j<n+1
    ·rw [if_pos (by omega),if_pos h,pad_row_cf hml]
    ·rw [if_neg (by omega),if_neg h,c0,if_neg (by omega)]
   have hcanR:Can p (upd (fun j=>(cf out j-q*cf (pad (row m)) j)%p) (n+1) 0 out):=Can.of_cf fun j _=>by
    rw [hcR]; split
    ·exact ⟨Int.emod_nonneg _ (by omega),Int.emod_lt_of_pos _ (by omega)⟩
    ·omega
   rw [pad_of hcanR hlenR]
   congr 2
   symm
   refine (Pol.div_mod_eq (q:=Pol.C (zp p q)) ?_ ?_).2
   ·refine Pol.ext fun j=>?_
    rw [Pol.c_add,Pol.c_Cmul,Pol.c_Xmul,polOf_c,hcR]
    rcases Nat.lt_trichotomy j (n+1) with h | h | h
    ·rw [if_pos h,zp_mod,zp_sub,zp_mul,zp_rep,c0]
     by_cases hj:j=0
     ·subst hj
      rw [if_pos rfl,if_neg (by omega),zp_zero]
      exact ring_of [zp p q,m.c 0] rfl
     ·rw [if_neg hj,if_pos (by omega),zp_rep]
      exact ring_of [zp p q,m.c j,a.c (j-1)] rfl
    ·subst h
     rw [if_neg (by omega),if_neg (by omega),zp_zero,Gq.add_zero,hqz]
     have e:m.c (n+1)=m.ld:=by unfold Pol.ld; rw [hn]; rfl
     rw [e,Gq.mul_assoc,Gq.mul_comm (Fd.inv m.ld),Fd.mul_inv _ (Pol.ld_ne hm),Gq.mul_one]; rfl
    ·rw [if_neg (by omega),if_neg (by omega),zp_zero,m.lt_len j (by omega),Gq.mul_zero,Gq.add_zero,a.lt_len (j-1) (by omega)]
   ·have:(polOf p (upd (fun j=>(cf out j-q*cf (pad (row m)) j)%p) (n+1) 0 out)).lt (n+1):=fun j hj=>by
     rw [polOf_c,hcR,if_neg (by omega)]; rfl
    have:=Pol.len_le this
    omega
  rw [hres] at l1
  have e0:((0:Nat):Int)=0:=rfl
  have e11:((1:Nat):Int)=1:=rfl
  have en:((n+1:Nat):Int)=(n:Int)+1:=by omega
  rw [e0,en] at l1
  rw [e11,en] at l0
  rw [en] at e1'
  have hp0:p≠0:=by omega
  have hn64:n<64:=by omega
  have hn65:n+1<64:=by omega
  have t1:¬ (n:Int)+1=0:=by omega
  have t2:(0:Int)≤(n:Int)+1:=by omega
  have t3:((n:Int)+1).toNat=n+1:=by omega
  generalize pad (row (Pol.X*a%m))=R at *
  generalize pad (row a)=PA at *
  generalize pad (row m)=PM at *
  simp -implicitDefEqProofs [Z40,Z40_B,dn_cond,e1',e3,hax,hmx,w0',w1,w2,w3,w4,l0,l1,hn64,hn65,t1,t2,t3,hp0]
def tailP {p:Int} (b:Fp p) (i:Nat):Fp p:=⟨fun j=>b.c (i+j),b.len,fun j hj=>b.lt_len _ (by omega)⟩
theorem tailP_zero {p:Int} (b:Fp p):tailP b 0=b:=Pol.ext fun j=>by show b.c (0+j)=b.c j; rw [Nat.zero_add]
theorem tailP_top {p:Int} (b:Fp p):tailP b b.len=0:=Pol.ext fun j=>b.lt_len _ (by omega)
theorem tailP_step {p:Int} (b:Fp p) (i:Nat):tailP b i=Pol.X*tailP b (i+1)+Pol.C (b.c i):=Pol.ext fun j=>by
 rw [Pol.c_add,Pol.c_Xmul,Pol.c_C]
 show b.c (i+j)=(if j=0 then 0 else b.c (i+1+(j-1)))+if j=0 then b.c i else 0
 by_cases h:j=0
 ·subst h; rw [if_pos rfl,if_pos rfl,Gq.zero_add]; rfl
 ·rw [if_neg h,if_neg h,Gq.add_zero,show i+1+(j-1)=i+j by omega]
theorem l_sMulMod {O:Oracle} (hu:K_sUp O) (ha:K_sAdd O) (hmo:K_sMod O) {p:Int} [IsP p] {a b m:Fp p} {z:List Int} (hm:m≠0) (hml:m.len≤64) (hal:a.len≤64) (hbl:b.len≤64):∀(n:Nat),n≤b.len →
 dn O 0 (.loop Z3r_L0) ⟨[(0,(.d (.int .i64 p))),(5,.ptr 0 []),(6,.ptr 1 []),(7,.ptr 2 []),(8,.ptr 3 []),(9,.ptr 4 []),(10,(.d (.int .i64 ((n:Int)-1))))],[.box false (D.arr 64 .leaf (ints .u8 (pad (row a)))),.box false (D.arr 64 .leaf (ints .u8 (pad (row b)))),.box false (D.arr 64 .leaf (ints .u8 (pad (row m)))),.box false (D.arr 64 .leaf (ints .u8 z)),.box false (D.arr 64 .leaf (ints .u8 (pad (row (a*tailP b n%m)))))]⟩ =
  some (.exit 0,⟨[(0,(.d (.int .i64 p))),(5,.ptr 0 []),(6,.ptr 1 []),(7,.ptr 2 []),(8,.ptr 3 []),(9,.ptr 4 []),(10,(.d (.int .i64 (-1)))),(15,(.d (.bool false)))],[.box false (D.arr 64 .leaf (ints .u8 (pad (row a)))),.box false (D.arr 64 .leaf (ints .u8 (pad (row b)))),.box false (D.arr 64 .leaf (ints .u8 (pad (row m)))),.box false (D.arr 64 .leaf (ints .u8 z)),.box false (D.arr 64 .leaf (ints .u8 (pad (row (a*b%m)))))]⟩)
 | 0,_=>by
  rw [tailP_zero]
  exact dn_stop (by simp -implicitDefEqProofs [Z3r_L0,dn_cond])
 | n+1,hn=>by
  have hp:=IsP.pos (p:=p)
  have hp7:=IsP.le (p:=p)
  have hlr:=Pol.len_mod (a*tailP b (n+1)) hm
  have hr:=rep_in (b.c n)
  have e1:=hu p (a*tailP b (n+1)%m) m hm hlr hml
  have hl2:=Pol.len_mod (Pol.X*(a*tailP b (n+1)%m)) hm
  have e2:=ha p (rep (b.c n)) (Pol.X*(a*tailP b (n+1)%m)%m) a (by omega) (by omega) (by omega) hal
  rw [zp_rep] at e2
  have hl3:=Pol.len_add_le (a:=Pol.X*(a*tailP b (n+1)%m)%m) (b:=Pol.C (b.c n)*a) (n:=64) (by omega) (Nat.le_trans (Pol.len_le (Pol.lt_Cmul _ a.lt_len)) hal)
  have e3:=hmo p (Pol.X*(a*tailP b (n+1)%m)%m+Pol.C (b.c n)*a) m hm hl3 hml
  have e4:(Pol.X*(a*tailP b (n+1)%m)%m+Pol.C (b.c n)*a)%m=a*tailP b n%m:=by
   rw [tailP_step b n,Pol.mod_eq_iff hm,Quo.mk_add,Pol.mk_mod,Quo.mk_mul,Pol.mk_mod,←Quo.mk_mul,←Quo.mk_add]
   congr 1
   exact ring_of [Pol.X,a,tailP b (n+1),Pol.C (b.c n)] rfl
  rw [e4] at e3
  have t0:(((n+1:Nat):Int)-1)=(n:Int):=by omega
  rw [t0]
  have hn64:n<64:=by omega
  have hx:(pad (row b))[n]? = some (rep (b.c n)):=by rw [pad_get _ _ hn64,row_cf]
  have w1:IntKind.i64.wrap (rep (b.c n))=rep (b.c n):=w64 (by omega)
  have w2:IntKind.i64.wrap ((n:Int)-1)=(n:Int)-1:=w64 (by omega)
  refine dn_round ?_ (l_sMulMod hu ha hmo hm hml hal hbl n (by omega))
  generalize pad (row (a*tailP b n%m))=R at *
  generalize pad (row (a*tailP b (n+1)%m))=R1 at *
  generalize pad (row (Pol.X*(a*tailP b (n+1)%m)%m+Pol.C (b.c n)*a))=R2 at *
  generalize pad (row (Pol.X*(a*tailP b (n+1)%m)%m))=R3 at *
  generalize pad (row a)=PA at *
  generalize pad (row b)=PB at *
  generalize pad (row m)=PM at *
  simp -implicitDefEqProofs [Z3r_L0,dn_cond,e1,e2,e3,hn64,hx,w1,w2]
def K_sMulMod (O:Oracle):Prop:=∀(p:Int) [IsP p] (a b m:Fp p),m≠0→m.len≤64→a.len≤64→b.len≤64 →
 ask O F3r [(D.int .i64 p),(D.arr 64 .leaf (ints .u8 (pad (row a)))),(D.arr 64 .leaf (ints .u8 (pad (row b)))),(D.arr 64 .leaf (ints .u8 (pad (row m))))]=some (D.arr 64 .leaf (ints .u8 (pad (row (a*b%m)))))
theorem k_sMulMod (hT:T F3r=some Z3r) (hd:K_sDeg (den T A)) (hu:K_sUp (den T A)) (ha:K_sAdd (den T A)) (hmo:K_sMod (den T A)):K_sMulMod (den T A):=by
 intro p i a b m hm hml hal hbl
 have e1:=hd p b hbl
 have e2:=l_sMulMod (O:=den T A) (z:=pad []) hu ha hmo hm hml hal hbl b.len (Nat.le_refl _)
 rw [tailP_top,Gq.mul_zero,Pol.zero_mod hm,row_zero] at e2
 refine ask_of hT rfl ?_
 generalize pad (row (a*b%m))=R at *
 generalize pad (row a)=PA at *
 generalize pad (row b)=PB at *
 generalize pad (row m)=PM at *
 simp -implicitDefEqProofs [Z3r,Z3r_B,e1,e2]
theorem l_sPow {O:Oracle} (hmm:K_sMulMod O) {p:Int} [IsP p] {m:Fp p} {z:List Int} {hol:Blk} (hh:hol=.hole) (hm:m≠0) (hml:m.len≤64):∀(n:Nat) (k:Int) (out base:Fp p),0≤k→k.toNat<2^n→k<4611686018427387904→out.len<m.len→base.len<m.len→∃base':List Int,
 dn O 0 (.loop Z3w_L0) ⟨[(0,(.d (.int .i64 p))),(2,(.d (.int .i64 k))),(7,.ptr 1 []),(8,.ptr 2 []),(9,.ptr 3 []),(10,.ptr 4 [])],[hol,.box false (D.arr 64 .leaf (ints .u8 (pad (row m)))),.box false (D.arr 64 .leaf (ints .u8 z)),.box false (D.arr 64 .leaf (ints .u8 (pad (row out)))),.box false (D.arr 64 .leaf (ints .u8 (pad (row base))))]⟩ =
  some (.exit 0,⟨[(0,(.d (.int .i64 p))),(2,(.d (.int .i64 0))),(7,.ptr 1 []),(8,.ptr 2 []),(9,.ptr 3 []),(10,.ptr 4 []),(20,(.d (.bool false)))],[hol,.box false (D.arr 64 .leaf (ints .u8 (pad (row m)))),.box false (D.arr 64 .leaf (ints .u8 z)),.box false (D.arr 64 .leaf (ints .u8 (pad (row (out*pw base k.toNat%m))))),.box false (D.arr 64 .leaf (ints .u8 base'))]⟩):=by
 intro n
 induction n with
 | zero=>
  intro k out base hk hn _ ho hb
  obtain rfl:k=0:=by simp at hn; omega
  refine ⟨pad (row base),?_⟩
  have e:out*pw base (0:Int).toNat%m=out:=by
   show out*1%m=out
   rw [Gq.mul_one,Pol.mod_small ho]
  rw [e]
  subst hh
  exact dn_stop (by simp -implicitDefEqProofs [Z3w_L0,dn_cond])
 | succ n ih=>
  intro k out base hk hn hkm ho hb
  by_cases h0:k=0
  ·subst h0
   refine ⟨pad (row base),?_⟩
   have e:out*pw base (0:Int).toNat%m=out:=by
    show out*1%m=out
    rw [Gq.mul_one,Pol.mod_small ho]
   rw [e]
   subst hh
   exact dn_stop (by simp -implicitDefEqProofs [Z3w_L0,dn_cond])
  ·have hkp:0<k:=by omega
   have t1:=hmm p out base m hm hml (by omega) (by omega)
   have t2:=hmm p base base m hm hml (by omega) (by omega)
   have s:=Pol.bin_step (out:=out) (base:=base) hm k.toNat (by omega)
   have hdiv:(k/2).toNat=k.toNat/2:=by omega
   obtain ⟨b',e⟩:=ih (k/2) (if k.toNat%2=1 then out*base%m else out) (base*base%m) (by omega) (by rw [Nat.pow_succ] at hn; omega) (by omega) (by split; exact Pol.len_mod _ hm; exact ho) (Pol.len_mod _ hm)
   rw [hdiv,s] at e
   refine ⟨b',dn_round ?_ e⟩
   subst hh
   have w1:IntKind.i64.wrap (k.tdiv 2)=k/2:=by rw [Int.tdiv_eq_ediv_of_nonneg hk,w64 (by omega)]
   have w2:k.tmod 2=k%2:=Int.tmod_eq_emod_of_nonneg hk
   by_cases hodd:k%2=1
   ·rw [if_pos (show k.toNat%2=1 by omega)]
    generalize pad (row (out*base%m))=R1 at *
    generalize pad (row (base*base%m))=R2 at *
    generalize pad (row out)=R3 at *
    generalize pad (row base)=R4 at *
    generalize pad (row m)=R5 at *
    simp -implicitDefEqProofs [Z3w_L0,dn_cond,hkp,t1,t2,w1,w2,hodd]
   ·rw [if_neg (show ¬ k.toNat%2=1 by omega)]
    generalize pad (row (base*base%m))=R2 at *
    generalize pad (row out)=R3 at *
    generalize pad (row base)=R4 at *
    generalize pad (row m)=R5 at *
    simp -implicitDefEqProofs [Z3w_L0,dn_cond,hkp,t2,w1,w2,hodd]
def K_sPowMod (O:Oracle):Prop:=∀(p:Int) [IsP p] (a:Fp p) (k:Int) (m:Fp p),m≠0→a.len≤64→m.len≤64→0≤k→k<4611686018427387904 →
 ask O F3w [(D.int .i64 p),(D.arr 64 .leaf (ints .u8 (pad (row a)))),(D.int .i64 k),(D.arr 64 .leaf (ints .u8 (pad (row m))))]=some (D.arr 64 .leaf (ints .u8 (pad (row (pw a k.toNat%m)))))
theorem k_sPowMod (hT:T F3w=some Z3w) (h1:K_sOne (den T A)) (hmo:K_sMod (den T A)) (hmm:K_sMulMod (den T A)):K_sPowMod (den T A):=by
 intro p i a k m hm hal hml hk hkm
 have e1:=h1 p
 have e2:=hmo p 1 m hm (by rw [Pol.len_one]; omega) hml
 have e3:=hmo p a m hm hal hml
 obtain ⟨b',e⟩:=l_sPow (O:=den T A) hmm (z:=pad []) (hol:=.hole) rfl hm hml 62 k (1%m) (a%m) hk (by omega) hkm (Pol.len_mod _ hm) (Pol.len_mod _ hm)
 have e4:1%m*pw (a%m) k.toNat%m=pw a k.toNat%m:=by
  rw [Pol.mul_mod_left _ _ hm,Gq.one_mul,Pol.pow_mod _ hm]
 rw [e4] at e
 refine ask_of hT rfl ?_
 generalize pad (row (pw a k.toNat%m))=R at *
 generalize pad (row (1%m))=R1 at *
 generalize pad (row (a%m))=R2 at *
 generalize pad (row (1:Fp p))=R3 at *
 generalize pad (row a)=PA at *
 generalize pad (row m)=PM at *
 simp -implicitDefEqProofs [Z3w,Z3w_B,e1,e2,e3,e]
end Pe

namespace Pe
open Go Gq
section
variable {p:Int} [IsP p]
noncomputable def frW (m:Fp p) (k:Nat):Fp p:=pw Pol.X (p.toNat^k)%m-Pol.X
theorem frW_dv {m q:Fp p} (_hm:m≠0) (hq:Dv q m) (k:Nat):Dv q (frW m k)↔Dv q (frT p k):=by
 have h1:frT p k=frW m k+pw Pol.X (p.toNat^k)/m*m:=by
  have h:=Pol.div_mod (pw Pol.X (p.toNat^k)) m
  show pw Pol.X (p.toNat^k)-Pol.X=pw Pol.X (p.toNat^k)%m-Pol.X+pw Pol.X (p.toNat^k)/m*m
  generalize pw Pol.X (p.toNat^k)%m=R at *
  generalize pw Pol.X (p.toNat^k)/m=Q at *
  rw [h]
  exact ring_of [Q,m,R,Pol.X] rfl
 have h2:Dv q (pw Pol.X (p.toNat^k)/m*m):=hq.mul_left _
 constructor
 ·intro h; rw [h1]; exact h.add h2
 ·intro h
  have:=h.sub h2
  rw [h1] at this
  have e:frW m k+pw Pol.X (p.toNat^k)/m*m-pw Pol.X (p.toNat^k)/m*m=frW m k:=ring_of [frW m k,pw Pol.X (p.toNat^k)/m,m] rfl
  rwa [e] at this
theorem irr_test {m:Fp p} (h2:2≤m.len) (h13:m.len≤13):(∀k,1≤k→2*k≤m.len-1→(Pol.gcd m (frW m k)).len=1)↔Irr m:=by
 have hm:m≠0:=fun h=>by rw [h,Pol.len_zero] at h2; omega
 have small:∀d,d≤12→p^d<1000000000000:=fun d hd=>by
  have h1:=ipow_mono (p:=p) (by have:=IsP.pos (p:=p); omega) hd
  have h7:=ppow_le (p:=p) (n:=12) (by omega)
  omega
 constructor
 ·intro h
  refine irr_of_noSmall (n:=(m.len-1)/2+1) (fun q hq hd=>?_) h2 (by omega)
  rcases Nat.lt_or_ge ((m.len-1)/2+1) q.len with g | g
  ·omega
  ·exfalso
   have hl:=hq.len
   have h1:=h (q.len-1) (by omega) (by omega)
   have h3:Dv q (frT p (q.len-1)):=irr_frT hq (by omega) (small _ (by omega))
   have h4:=Pol.dv_gcd (.inl hm) hd ((frW_dv hm hd _).2 h3)
   have h5:=h4.len (fun h0=>by rw [h0,Pol.len_zero] at h1; omega)
   omega
 ·intro hi k hk hk2
  by_cases hd:Dv m (frW m k)
  ·have h3:=(frW_dv hm (Dv.refl m) k).1 hd
   have:=irr_frT_le hi (d:=m.len-1) (by omega) (small _ (by omega)) hk h3
   omega
  ·obtain ⟨u,v,e⟩:=hi.coprime hd
   have h1:=Pol.gcd_dv_left (a:=m) (b:=frW m k) (.inl hm)
   have h3:=Pol.gcd_dv_right (a:=m) (b:=frW m k) (.inl hm)
   have h4:Dv (Pol.gcd m (frW m k)) 1:=by
    rw [←e]
    exact (h1.mul_left u).add (h3.mul_left v)
   have h5:=h4.len Pol.one_ne
   rw [Pol.len_one] at h5
   have h6:=Pol.len_pos (Pol.gcd_monic (a:=m) (b:=frW m k) (.inl hm)).2
   omega
theorem fac_irr {m:Fp p} (hi:Irr m) (hm:Monic m):IsFac m [(m,1)] where
 ok:=⟨fun x hx=>by simp only [List.mem_singleton] at hx; subst hx; exact ⟨hi,hm,Nat.le_refl 1⟩,List.pairwise_singleton _ _⟩
 sorted:=List.pairwise_singleton _ _
 eq:=by
  rw [hm.1,Pol.C_one,Gq.one_mul]
  show m=pw m 1*1
  rw [pw_1,Gq.mul_one]
theorem irr_fac {m:Fp p} {L:Facs p} (hm:Monic m) (h:IsFac m L):(∃q,L=[(q,1)])↔Irr m:=by
 constructor
 ·rintro ⟨q,rfl⟩
  have e:=h.eq
  rw [hm.1,Pol.C_one,Gq.one_mul] at e
  have e2:prodF [(q,1)]=q:=by
   show pw q 1*1=q
   rw [pw_1,Gq.mul_one]
  rw [e2] at e
  rw [e]
  exact (h.ok.irr (q,1) (by simp)).1
 ·intro hi
  exact ⟨m,h.unique hm.2 (fac_irr hi hm)⟩
end
end Pe

namespace Pe
open Go Gq
variable {T:Nat→Option Fn} {A:Oracle}
section
variable {p:Int}
def lowP (a:Fp p) (i:Nat):Fp p:=⟨fun n=>if n<i then a.c n else 0,i,fun n hn=>if_neg (by omega)⟩
theorem lowP_c (a:Fp p) (i n:Nat):(lowP a i).c n=if n<i then a.c n else 0:=rfl
theorem lowP_zero (a:Fp p):lowP a 0=0:=Pol.ext fun n=>by rw [lowP_c,if_neg (by omega)]; rfl
theorem lowP_top (a:Fp p):lowP a a.len=a:=Pol.ext fun n=>by
 rw [lowP_c]
 split
 ·rfl
 ·rename_i h; exact (a.lt_len n (by omega)).symm
end
section
variable {p:Int} [IsP p]
theorem mo_c (k:Zp p) (n i:Nat):(Pol.mo k n).c i=if i=n then k else 0:=rfl
theorem lowP_succ (a:Fp p) (i:Nat):lowP a (i+1)=lowP a i+Pol.mo (a.c i) i:=Pol.ext fun n=>by
 rw [Pol.c_add,lowP_c,lowP_c,mo_c]
 by_cases h:n=i
 ·subst h; rw [if_pos (by omega),if_neg (by omega),if_pos rfl,Gq.zero_add]
 ·rw [if_neg h,Gq.add_zero]
  by_cases h2:n<i
  ·rw [if_pos (by omega),if_pos h2]
  ·rw [if_neg (by omega),if_neg h2]
theorem mo_zero (n:Nat):(Pol.mo 0 n:Fp p)=0:=Pol.ext fun i=>by rw [mo_c]; split <;> rfl
theorem mo_mo (k l:Zp p) (n m:Nat):(Pol.mo k n*Pol.mo l m:Fp p)=Pol.mo (k*l) (n+m):=Pol.ext fun i=>by
 rw [c_momul',mo_c,mo_c]
 by_cases h:n≤i
 ·rw [if_pos h]
  by_cases h2:i-n=m
  ·rw [if_pos h2,if_pos (by omega)]
  ·rw [if_neg h2,if_neg (by omega),Gq.mul_zero]
 ·rw [if_neg h,if_neg (by omega)]
theorem polOf_add_set {cur:List Int} {k:Nat} (h:k<cur.length) (t:Int):polOf p (cur.set k ((cf cur k+t)%p))=polOf p cur+Pol.mo (zp p t) k:=Pol.ext fun j=>by
 rw [Pol.c_add,polOf_c,polOf_c,cf_set,mo_c]
 by_cases h1:j=k
 ·subst h1
  rw [if_pos ⟨rfl,h⟩,if_pos rfl,zp_mod,zp_add]
 ·rw [if_neg (by omega),if_neg h1,Gq.add_zero]
end
theorem l_sTm0 {O:Oracle} {p:Int} [IsP p] {a b:Fp p} {z:List Int} {n i:Nat} (hn:n<64) (hi:i<a.len) (hal:a.len≤64) (hbl:b.len≤64) (hab:a.len+b.len≤65) (hb1:0<b.len) (hai:a.c i≠0) {P:Fp p} {vn:V} (hvn:vn.refs=[]):∀(m j:Nat) (cur:List Int),j+m=b.len→cur.length=64→Can p cur→polOf p cur=P+Pol.mo (a.c i) i*lowP b j→∃cur':List Int,cur'.length=64∧Can p cur'∧polOf p cur'=P+Pol.mo (a.c i) i*b ∧
 dn O 0 (.loop Z3z_L0) ⟨[(0,(.d (.int .i64 p))),(4,.ptr 0 []),(5,.ptr 1 []),(6,.ptr 2 []),(8,vn),(9,(.d (.int .i64 (((b.len-1:Nat):Int))))),(10,.ptr 3 []),(11,(.d (.int .i64 i))),(12,(.d (.int .i64 j)))],[.box false (D.arr 64 .leaf (ints .u8 (pad (row a)))),.box false (D.arr 64 .leaf (ints .u8 (pad (row b)))),.box false (D.arr 64 .leaf (ints .u8 z)),.box false (D.arr 64 .leaf (ints .u8 cur))]⟩ =
  some (.exit 2,⟨[(0,(.d (.int .i64 p))),(4,.ptr 0 []),(5,.ptr 1 []),(6,.ptr 2 []),(8,vn),(9,(.d (.int .i64 (((b.len-1:Nat):Int))))),(10,.ptr 3 []),(11,(.d (.int .i64 i))),(12,(.d (.int .i64 b.len))),(43,(.d (.bool false)))],[.box false (D.arr 64 .leaf (ints .u8 (pad (row a)))),.box false (D.arr 64 .leaf (ints .u8 (pad (row b)))),.box false (D.arr 64 .leaf (ints .u8 z)),.box false (D.arr 64 .leaf (ints .u8 cur'))]⟩)
 | 0,j,cur,hj,hc,hcan,he=>by
  obtain rfl:j=b.len:=by omega
  rw [lowP_top] at he
  have hlt:¬ (b.len:Int)≤((b.len-1:Nat):Int):=by omega
  refine ⟨cur,hc,hcan,he,dn_stop ?_⟩
  generalize ((b.len-1:Nat):Int)=m1 at *
  generalize pad (row a)=PA at *
  generalize pad (row b)=PB at *
  simp -implicitDefEqProofs [Z3z_L0,dn_cond,hlt,hvn]
 | m+1,j,cur,hj,hc,hcan,he=>by
  have hp:=IsP.pos (p:=p)
  have hp7:=IsP.le (p:=p)
  have hp0:p≠0:=by omega
  have hlt:(j:Int)≤((b.len-1:Nat):Int):=by omega
  have hi64:i<64:=by omega
  have hj64:j<64:=by omega
  have hij:i+j<64:=by omega
  have hs0:(0:Int)≤(i:Int)+j:=by omega
  have hs1:((i:Int)+j).toNat=i+j:=by omega
  have hx:(pad (row a))[i]? = some (rep (a.c i)):=by rw [pad_get _ _ hi64,row_cf]
  have hy:(pad (row b))[j]? = some (rep (b.c j)):=by rw [pad_get _ _ hj64,row_cf]
  have hx0:rep (a.c i)≠0:=fun h=>hai (rep_eq_zero.1 h)
  have hr1:=rep_in (a.c i)
  have hr2:=rep_in (b.c j)
  have hkc:i+j<cur.length:=by omega
  have hw:cur[i+j]=cf cur (i+j):=(cf_lt hkc).symm
  have gc:=hcan.le hp (i+j)
  have gm:=mul_small (x:=rep (a.c i)) (y:=rep (b.c j)) (b:=10) (c:=10) (by omega) (by omega) (by omega)
  have gm0:=Int.mul_nonneg hr1.1 hr2.1
  have w0:IntKind.i64.wrap ((i:Int)+j)=((i+j:Nat):Int):=(w64 (x:=(i:Int)+j) (by omega)).trans (by omega)
  have w1:IntKind.i64.wrap (rep (a.c i))=rep (a.c i):=w64 (by omega)
  have w2:IntKind.i64.wrap (rep (b.c j))=rep (b.c j):=w64 (by omega)
  have w3:IntKind.i64.wrap (cf cur (i+j))=cf cur (i+j):=w64 (by omega)
  have w4:IntKind.i64.wrap (rep (a.c i)*rep (b.c j))=rep (a.c i)*rep (b.c j):=w64 (by omega)
  have w5:IntKind.i64.wrap (cf cur (i+j)+rep (a.c i)*rep (b.c j))=cf cur (i+j)+rep (a.c i)*rep (b.c j):=w64 (by omega)
  have w6:(cf cur (i+j)+rep (a.c i)*rep (b.c j)).tmod p=(cf cur (i+j)+rep (a.c i)*rep (b.c j))%p:=Int.tmod_eq_emod_of_nonneg (by omega)
  have hin:=Int.emod_nonneg (cf cur (i+j)+rep (a.c i)*rep (b.c j)) hp0
  have hin2:=Int.emod_lt_of_pos (cf cur (i+j)+rep (a.c i)*rep (b.c j)) hp
  have w7:IntKind.u8.wrap ((cf cur (i+j)+rep (a.c i)*rep (b.c j))%p)=(cf cur (i+j)+rep (a.c i)*rep (b.c j))%p:=w8 (by omega)
  have w8':IntKind.i64.wrap ((j:Int)+1)=((j+1:Nat):Int):=(w64 (x:=(j:Int)+1) (by omega)).trans (by omega)
  have hnew:polOf p (cur.set (i+j) ((cf cur (i+j)+rep (a.c i)*rep (b.c j))%p))=P+Pol.mo (a.c i) i*lowP b (j+1):=by
   rw [polOf_add_set hkc,he,zp_mul,zp_rep,zp_rep,lowP_succ,Gq.mul_add,mo_mo,Gq.add_assoc]
  have hcan':Can p (cur.set (i+j) ((cf cur (i+j)+rep (a.c i)*rep (b.c j))%p)):=fun x hx=>by
   rcases List.mem_or_eq_of_mem_set hx with h | rfl
   ·exact hcan x h
   ·exact ⟨hin,hin2⟩
  obtain ⟨cur',g1,g2,g3,g4⟩:=l_sTm0 (O:=O) (z:=z) hn hi hal hbl hab hb1 hai hvn m (j+1) (cur.set (i+j) ((cf cur (i+j)+rep (a.c i)*rep (b.c j))%p)) (by omega) (by rw [List.length_set]; exact hc) hcan' hnew
  have hs:ints .u8 (cur.set (i+j) ((cf cur (i+j)+rep (a.c i)*rep (b.c j))%p))=(ints .u8 cur).set (i+j) (D.int .u8 ((cf cur (i+j)+rep (a.c i)*rep (b.c j))%p)):=by unfold ints; rw [List.map_set]
  rw [hs] at g4
  refine ⟨cur',g1,g2,g3,dn_round ?_ g4⟩
  generalize (cf cur (i+j)+rep (a.c i)*rep (b.c j))%p=W at *
  generalize ((b.len-1:Nat):Int)=m1 at *
  generalize pad (row a)=PA at *
  generalize pad (row b)=PB at *
  simp -implicitDefEqProofs [Z3z_L0,dn_cond,hlt,hi64,hj64,hij,hs0,hs1,hx,hy,hx0,hc,hw,w0,w1,w2,w3,w4,w5,w6,w7,w8',hp0,hvn]
theorem l_sTm1 {O:Oracle} {p:Int} [IsP p] {a b:Fp p} {z:List Int} (hal:a.len≤64) (hbl:b.len≤64) (hab:a.len+b.len≤65) (ha1:0<a.len) (hb1:0<b.len):∀(m i:Nat) (cur:List Int),i+m=a.len→cur.length=64→Can p cur→polOf p cur=lowP a i*b→∃cur':List Int,cur'.length=64∧Can p cur'∧polOf p cur'=a*b ∧
 dn O 0 (.loop Z3z_L1) ⟨[(0,(.d (.int .i64 p))),(4,.ptr 0 []),(5,.ptr 1 []),(6,.ptr 2 []),(8,(.d (.int .i64 (((a.len-1:Nat):Int))))),(9,(.d (.int .i64 (((b.len-1:Nat):Int))))),(10,.ptr 3 []),(11,(.d (.int .i64 i)))],[.box false (D.arr 64 .leaf (ints .u8 (pad (row a)))),.box false (D.arr 64 .leaf (ints .u8 (pad (row b)))),.box false (D.arr 64 .leaf (ints .u8 z)),.box false (D.arr 64 .leaf (ints .u8 cur))]⟩ =
  some (.exit 0,⟨[(0,(.d (.int .i64 p))),(4,.ptr 0 []),(5,.ptr 1 []),(6,.ptr 2 []),(8,(.d (.int .i64 (((a.len-1:Nat):Int))))),(9,(.d (.int .i64 (((b.len-1:Nat):Int))))),(10,.ptr 3 []),(11,(.d (.int .i64 a.len))),(32,(.d (.bool false)))],[.box false (D.arr 64 .leaf (ints .u8 (pad (row a)))),.box false (D.arr 64 .leaf (ints .u8 (pad (row b)))),.box false (D.arr 64 .leaf (ints .u8 z)),.box false (D.arr 64 .leaf (ints .u8 cur'))]⟩)
 | 0,i,cur,hi,hc,hcan,he=>by
  obtain rfl:i=a.len:=by omega
  rw [lowP_top] at he
  have hlt:¬ (a.len:Int)≤((a.len-1:Nat):Int):=by omega
  refine ⟨cur,hc,hcan,he,dn_stop ?_⟩
  generalize ((b.len-1:Nat):Int)=m1 at *
  generalize ((a.len-1:Nat):Int)=n1 at *
  generalize pad (row a)=PA at *
  generalize pad (row b)=PB at *
  simp -implicitDefEqProofs [Z3z_L1,dn_cond,hlt]
 | m+1,i,cur,hi,hc,hcan,he=>by
  have hlt:(i:Int)≤((a.len-1:Nat):Int):=by omega
  have hi64:i<64:=by omega
  have w8':IntKind.i64.wrap ((i:Int)+1)=((i+1:Nat):Int):=(w64 (x:=(i:Int)+1) (by omega)).trans (by omega)
  have hx:(pad (row a))[i]? = some (rep (a.c i)):=by rw [pad_get _ _ hi64,row_cf]
  by_cases hai:a.c i=0
  ·have hr:rep (a.c i)=0:=rep_eq_zero.2 hai
   have he':polOf p cur=lowP a (i+1)*b:=by rw [lowP_succ,hai,mo_zero,Gq.add_zero]; exact he
   obtain ⟨cur',g1,g2,g3,g4⟩:=l_sTm1 (O:=O) (z:=z) hal hbl hab ha1 hb1 m (i+1) cur (by omega) hc hcan he'
   rw [hr] at hx
   have hin:dn O 0 (.loop Z3z_L0) ⟨[(0,(.d (.int .i64 p))),(4,.ptr 0 []),(5,.ptr 1 []),(6,.ptr 2 []),(8,(.d (.int .i64 (((a.len-1:Nat):Int))))),(9,(.d (.int .i64 (((b.len-1:Nat):Int))))),(10,.ptr 3 []),(11,(.d (.int .i64 i))),(12,(.d (.int .i64 0)))],[.box false (D.arr 64 .leaf (ints .u8 (pad (row a)))),.box false (D.arr 64 .leaf (ints .u8 (pad (row b)))),.box false (D.arr 64 .leaf (ints .u8 z)),.box false (D.arr 64 .leaf (ints .u8 cur))]⟩ =
    some (.exit 2,⟨[(0,(.d (.int .i64 p))),(4,.ptr 0 []),(5,.ptr 1 []),(6,.ptr 2 []),(8,(.d (.int .i64 (((a.len-1:Nat):Int))))),(9,(.d (.int .i64 (((b.len-1:Nat):Int))))),(10,.ptr 3 []),(11,(.d (.int .i64 i))),(12,(.d (.int .i64 0))),(43,(.d (.bool false)))],[.box false (D.arr 64 .leaf (ints .u8 (pad (row a)))),.box false (D.arr 64 .leaf (ints .u8 (pad (row b)))),.box false (D.arr 64 .leaf (ints .u8 z)),.box false (D.arr 64 .leaf (ints .u8 cur))]⟩):=by
    refine dn_stop ?_
    generalize b.len-1=m1 at *
    generalize ((a.len-1:Nat):Int)=n1 at *
    generalize pad (row a)=PA at *
    generalize pad (row b)=PB at *
    simp -implicitDefEqProofs [Z3z_L0,dn_cond,hi64,hx]
   refine ⟨cur',g1,g2,g3,dn_round ?_ g4⟩
   generalize ((b.len-1:Nat):Int)=m1 at *
   generalize ((a.len-1:Nat):Int)=n1 at *
   generalize pad (row a)=PA at *
   generalize pad (row b)=PB at *
   simp -implicitDefEqProofs [Z3z_L1,dn_cond,hlt,hin,w8']
  ·obtain ⟨cur1,k1,k2,k3,k4⟩:=l_sTm0 (O:=O) (z:=z) (n:=0) (i:=i) (by omega) (by omega) hal hbl hab hb1 hai (P:=lowP a i*b) (vn:=(.d (.int .i64 (((a.len-1:Nat):Int))))) rfl b.len 0 cur (Nat.zero_add _) hc hcan (by rw [lowP_zero,Gq.mul_zero,Gq.add_zero]; exact he)
   have e00:((0:Nat):Int)=0:=rfl
   rw [e00] at k4
   have he':polOf p cur1=lowP a (i+1)*b:=by
    rw [k3,lowP_succ]
    exact ring_of [lowP a i,b,Pol.mo (a.c i) i] rfl
   obtain ⟨cur',g1,g2,g3,g4⟩:=l_sTm1 (O:=O) (z:=z) hal hbl hab ha1 hb1 m (i+1) cur1 (by omega) k1 k2 he'
   refine ⟨cur',g1,g2,g3,dn_round ?_ g4⟩
   generalize ((b.len-1:Nat):Int)=m1 at *
   generalize ((a.len-1:Nat):Int)=n1 at *
   generalize pad (row a)=PA at *
   generalize pad (row b)=PB at *
   simp -implicitDefEqProofs [Z3z_L1,dn_cond,hlt,k4,w8']
def K_sTimes (O:Oracle):Prop:=∀(p:Int) [IsP p] (a b:Fp p),a.len≤64→b.len≤64→(a*b).len≤64 →
 ask O F3z [(D.int .i64 p),(D.arr 64 .leaf (ints .u8 (pad (row a)))),(D.arr 64 .leaf (ints .u8 (pad (row b))))]=some (.tup [(D.arr 64 .leaf (ints .u8 (pad (row (a*b))))),(D.bool true)])
theorem k_sTimes (hT:T F3z=some Z3z) (hd:K_sDeg (den T A)):K_sTimes (den T A):=by
 intro p i a b hal hbl hab
 have e1:=hd p a hal
 have e2:=hd p b hbl
 refine ask_of hT rfl ?_
 by_cases ha:a=0
 ·subst ha
  rw [Gq.zero_mul,row_zero]
  rw [Pol.len_zero,row_zero] at e1
  generalize pad (row b)=PB at *
  simp -implicitDefEqProofs [Z3z,Z3z_B,dn_cond,e1,e2,List.replicate]
 ·have ha1:=Pol.len_pos ha
  by_cases hb:b=0
  ·subst hb
   rw [Gq.mul_zero,row_zero]
   rw [Pol.len_zero,row_zero] at e2
   have ha2:¬ ((a.len:Int)-1<0):=by omega
   generalize pad (row a)=PA at *
   simp -implicitDefEqProofs [Z3z,Z3z_B,dn_cond,e1,e2,ha2,List.replicate]
  ·have hb1:=Pol.len_pos hb
   have hm:=Pol.len_mul ha hb
   rw [show ((a.len:Int)-1)=((a.len-1:Nat):Int) by omega] at e1
   rw [show ((b.len:Int)-1)=((b.len-1:Nat):Int) by omega] at e2
   have w1:IntKind.i64.wrap (((a.len-1:Nat):Int)+((b.len-1:Nat):Int))=((a.len-1+(b.len-1):Nat):Int):=(w64 (by omega)).trans (by omega)
   have w2:¬ ((63:Int)<((a.len-1+(b.len-1):Nat):Int)):=by omega
   obtain ⟨cur',g1,g2,g3,g4⟩:=l_sTm1 (O:=den T A) (z:=pad []) hal hbl (by omega) ha1 hb1 a.len 0 (pad []) (Nat.zero_add _) (pad_length _) (by
    have:=pad_can (0:Fp p); rwa [row_zero] at this) (by
    rw [lowP_zero,Gq.zero_mul]
    have:=polOf_pad (p:=p) (a:=0) (by rw [Pol.len_zero]; omega)
    rwa [row_zero] at this)
   have e00:((0:Nat):Int)=0:=rfl
   rw [e00] at g4
   have hcur:cur'=pad (row (a*b)):=by rw [pad_of g2 g1,g3]
   rw [hcur] at g4
   have n1:¬ (((a.len-1:Nat):Int)<0):=by omega
   have n2:¬ (((b.len-1:Nat):Int)<0):=by omega
   generalize ((a.len-1+(b.len-1):Nat):Int)=s1 at *
   generalize ((b.len-1:Nat):Int)=m1 at *
   generalize ((a.len-1:Nat):Int)=k1 at *
   generalize pad (row (a*b))=PR at *
   generalize pad (row a)=PA at *
   generalize pad (row b)=PB at *
   simp -implicitDefEqProofs [Z3z,Z3z_B,dn_cond,e1,e2,w1,w2,n1,n2,g4,List.replicate]
structure BzS {p:Int} [IsP p] (A B a b u x v y:Fp p):Prop where
 i:Pol.BzI A B a b u x v y
 la:a.len≤64
 lb:b.len≤64
 lu:u.len≤64
 lv:v.len≤64
 ne:a≠0
theorem BzS.step {p:Int} [IsP p] {A B a b u x v y:Fp p} (h:BzS A B a b u x v y) (hA:A.len≤64) (hB:B.len≤64) (hb:b≠0) :
 BzS A B b (a%b) x (u-a/b*x) y (v-a/b*y)∧x.len≤64∧y.len≤64∧(a/b).len≤64∧(a/b*x).len≤64∧(a/b*y).len≤64∧(a%b).len≤64:=by
 have h1:=h.i.lx
 have h2:=h.i.ly
 have h3:=Pol.len_pos h.ne
 have h4:=Pol.len_pos hb
 have h5:=Pol.len_div_le a hb
 have h6:=Pol.len_mod_le a hb
 obtain ⟨h7,h8⟩:=h.i.qlen hb
 have h9:=h.la
 have hx:x.len≤64:=by omega
 have hy:y.len≤64:=by omega
 exact ⟨⟨h.i.step hb,h.lb,by omega,hx,hy,hb⟩,hx,hy,by omega,by omega,by omega,by omega⟩
theorem r_sBez {O:Oracle} (hdg:K_sDeg O) (hd:K_sDivide O) (ht:K_sTimes O) (ha:K_sAdd O) {p:Int} [IsP p] {z:List Int} {a b u x v y:Fp p} (h0:b≠0) (ha':a.len≤64) (hb:b.len≤64) (hu:u.len≤64) (hv:v.len≤64) (s1:x.len≤64) (s2:y.len≤64) (s3:(a/b).len≤64) (s4:(a/b*x).len≤64) (s5:(a/b*y).len≤64) :
 dn O 0 Z3d_L0 ⟨[(0,(.d (.int .i64 p))),(4,.ptr 0 []),(5,.ptr 1 []),(6,.ptr 2 []),(7,.ptr 3 []),(8,.ptr 4 []),(9,.ptr 5 []),(10,.ptr 6 []),(11,.ptr 7 []),(12,.ptr 8 [])],[.box false (D.arr 64 .leaf (ints .u8 (pad (row a)))),.box false (D.arr 64 .leaf (ints .u8 (pad (row b)))),.box false (D.arr 64 .leaf (ints .u8 z)),.box false (D.arr 64 .leaf (ints .u8 z)),.box false (D.arr 64 .leaf (ints .u8 z)),.box false (D.arr 64 .leaf (ints .u8 (pad (row u)))),.box false (D.arr 64 .leaf (ints .u8 (pad (row x)))),.box false (D.arr 64 .leaf (ints .u8 (pad (row v)))),.box false (D.arr 64 .leaf (ints .u8 (pad (row y)))),.hole,.hole,.hole,.hole,.hole,.hole]⟩ =
  some (.normal,⟨[(0,(.d (.int .i64 p))),(4,.ptr 0 []),(5,.ptr 1 []),(6,.ptr 2 []),(7,.ptr 3 []),(8,.ptr 4 []),(9,.ptr 5 []),(10,.ptr 6 []),(11,.ptr 7 []),(12,.ptr 8 [])],[.box false (D.arr 64 .leaf (ints .u8 (pad (row b)))),.box false (D.arr 64 .leaf (ints .u8 (pad (row (a%b))))),.box false (D.arr 64 .leaf (ints .u8 z)),.box false (D.arr 64 .leaf (ints .u8 z)),.box false (D.arr 64 .leaf (ints .u8 z)),.box false (D.arr 64 .leaf (ints .u8 (pad (row x)))),.box false (D.arr 64 .leaf (ints .u8 (pad (row (u-a/b*x))))),.box false (D.arr 64 .leaf (ints .u8 (pad (row y)))),.box false (D.arr 64 .leaf (ints .u8 (pad (row (v-a/b*y))))),.hole,.hole,.hole,.hole,.hole,.hole]⟩):=by
 have hp:=Pol.len_pos h0
 have e0:=hdg p b hb
 have e1:=hd p a b h0 ha' hb
 have e2:=ht p (a/b) x s3 s1 s4
 have e3:=ha p (-1) u (a/b*x) (by omega) (by omega) hu s4
 have e4:=ht p (a/b) y s3 s2 s5
 have e5:=ha p (-1) v (a/b*y) (by omega) (by omega) hv s5
 rw [sub_comb] at e3 e5
 have hge:¬ ((b.len:Int)-1<0):=by omega
 have hge2:(0:Int)≤(b.len:Int)-1:=by omega
 have hge3:(1:Int)≤(b.len:Int):=by omega
 generalize pad (row (u-a/b*x))=Pux at *
 generalize pad (row (v-a/b*y))=Pvy at *
 generalize pad (row (a/b*x))=Pqx at *
 generalize pad (row (a/b*y))=Pqy at *
 generalize pad (row (a/b))=Pq at *
 generalize pad (row (a%b))=Pr at *
 generalize pad (row a)=Pa at *
 generalize pad (row b)=Pb at *
 generalize pad (row u)=Pu at *
 generalize pad (row x)=Px at *
 generalize pad (row v)=Pv at *
 generalize pad (row y)=Py at *
 simp -implicitDefEqProofs [Z3d_L0,dn_cond,hge3,e0,e1,e2,e3,e4,e5]
theorem l_sBez {O:Oracle} (hdg:K_sDeg O) (hd:K_sDivide O) (ht:K_sTimes O) (ha:K_sAdd O) {p:Int} [IsP p] {A B:Fp p} {z:List Int} (hA:A.len≤64) (hB:B.len≤64):∀(n:Nat) (a b u x v y:Fp p),b.len≤n→BzS A B a b u x v y→∃x' y':List Int,(Pol.bz n a b u x v y).1≠0∧(Pol.bz n a b u x v y).1.len≤64∧(Pol.bz n a b u x v y).2.1.len≤64∧(Pol.bz n a b u x v y).2.2.len≤64 ∧
 dn O 0 (.loop Z3d_L0) ⟨[(0,(.d (.int .i64 p))),(4,.ptr 0 []),(5,.ptr 1 []),(6,.ptr 2 []),(7,.ptr 3 []),(8,.ptr 4 []),(9,.ptr 5 []),(10,.ptr 6 []),(11,.ptr 7 []),(12,.ptr 8 [])],[.box false (D.arr 64 .leaf (ints .u8 (pad (row a)))),.box false (D.arr 64 .leaf (ints .u8 (pad (row b)))),.box false (D.arr 64 .leaf (ints .u8 z)),.box false (D.arr 64 .leaf (ints .u8 z)),.box false (D.arr 64 .leaf (ints .u8 z)),.box false (D.arr 64 .leaf (ints .u8 (pad (row u)))),.box false (D.arr 64 .leaf (ints .u8 (pad (row x)))),.box false (D.arr 64 .leaf (ints .u8 (pad (row v)))),.box false (D.arr 64 .leaf (ints .u8 (pad (row y)))),.hole,.hole,.hole,.hole,.hole,.hole]⟩ =
  some (.exit 0,⟨[(0,(.d (.int .i64 p))),(4,.ptr 0 []),(5,.ptr 1 []),(6,.ptr 2 []),(7,.ptr 3 []),(8,.ptr 4 []),(9,.ptr 5 []),(10,.ptr 6 []),(11,.ptr 7 []),(12,.ptr 8 []),(28,(.d (.bool false)))],[.box false (D.arr 64 .leaf (ints .u8 (pad (row (Pol.bz n a b u x v y).1)))),.box false (D.arr 64 .leaf (ints .u8 (pad []))),.box false (D.arr 64 .leaf (ints .u8 z)),.box false (D.arr 64 .leaf (ints .u8 z)),.box false (D.arr 64 .leaf (ints .u8 z)),.box false (D.arr 64 .leaf (ints .u8 (pad (row (Pol.bz n a b u x v y).2.1)))),.box false (D.arr 64 .leaf (ints .u8 x')),.box false (D.arr 64 .leaf (ints .u8 (pad (row (Pol.bz n a b u x v y).2.2)))),.box false (D.arr 64 .leaf (ints .u8 y')),.hole,.hole,.hole,.hole,.hole,.hole]⟩):=by
 intro n
 have stop:∀(a u x v y:Fp p),dn O 0 (.loop Z3d_L0) ⟨[(0,(.d (.int .i64 p))),(4,.ptr 0 []),(5,.ptr 1 []),(6,.ptr 2 []),(7,.ptr 3 []),(8,.ptr 4 []),(9,.ptr 5 []),(10,.ptr 6 []),(11,.ptr 7 []),(12,.ptr 8 [])],[.box false (D.arr 64 .leaf (ints .u8 (pad (row a)))),.box false (D.arr 64 .leaf (ints .u8 (pad (row (0:Fp p))))),.box false (D.arr 64 .leaf (ints .u8 z)),.box false (D.arr 64 .leaf (ints .u8 z)),.box false (D.arr 64 .leaf (ints .u8 z)),.box false (D.arr 64 .leaf (ints .u8 (pad (row u)))),.box false (D.arr 64 .leaf (ints .u8 (pad (row x)))),.box false (D.arr 64 .leaf (ints .u8 (pad (row v)))),.box false (D.arr 64 .leaf (ints .u8 (pad (row y)))),.hole,.hole,.hole,.hole,.hole,.hole]⟩ =
  some (.exit 0,⟨[(0,(.d (.int .i64 p))),(4,.ptr 0 []),(5,.ptr 1 []),(6,.ptr 2 []),(7,.ptr 3 []),(8,.ptr 4 []),(9,.ptr 5 []),(10,.ptr 6 []),(11,.ptr 7 []),(12,.ptr 8 []),(28,(.d (.bool false)))],[.box false (D.arr 64 .leaf (ints .u8 (pad (row a)))),.box false (D.arr 64 .leaf (ints .u8 (pad []))),.box false (D.arr 64 .leaf (ints .u8 z)),.box false (D.arr 64 .leaf (ints .u8 z)),.box false (D.arr 64 .leaf (ints .u8 z)),.box false (D.arr 64 .leaf (ints .u8 (pad (row u)))),.box false (D.arr 64 .leaf (ints .u8 (pad (row x)))),.box false (D.arr 64 .leaf (ints .u8 (pad (row v)))),.box false (D.arr 64 .leaf (ints .u8 (pad (row y)))),.hole,.hole,.hole,.hole,.hole,.hole]⟩):=by
  intro a u x v y
  have e:=hdg p 0 (by rw [Pol.len_zero]; omega)
  rw [row_zero,Pol.len_zero] at e
  rw [row_zero]
  refine dn_stop ?_
  generalize pad (row a)=Pa
  generalize pad (row u)=Pu
  generalize pad (row x)=Px
  generalize pad (row v)=Pv
  generalize pad (row y)=Py
  simp -implicitDefEqProofs [Z3d_L0,dn_cond,e]
 induction n with
 | zero=>
  intro a b u x v y hn hs
  obtain rfl:=Pol.len_zero_iff.1 (show b.len=0 by omega)
  exact ⟨_,_,hs.ne,hs.la,hs.lu,hs.lv,stop a u x v y⟩
 | succ n ih=>
  intro a b u x v y hn hs
  unfold Pol.bz
  by_cases h0:b=0
  ·subst h0
   rw [if_pos rfl]
   exact ⟨_,_,hs.ne,hs.la,hs.lu,hs.lv,stop a u x v y⟩
  ·rw [if_neg h0]
   obtain ⟨s0,s1,s2,s3,s4,s5,s6⟩:=hs.step hA hB h0
   have hl:=Pol.len_mod a h0
   have hp:=Pol.len_pos h0
   obtain ⟨x',y',g1,g2,g3,g4,e⟩:=ih b (a%b) x (u-a/b*x) y (v-a/b*y) (by omega) s0
   exact ⟨x',y',g1,g2,g3,g4,dn_round (r_sBez hdg hd ht ha h0 hs.la hs.lb hs.lu hs.lv s1 s2 s3 s4 s5) e⟩
theorem l_sBezI {O:Oracle} (hdg:K_sDeg O) (hd:K_sDivide O) (ht:K_sTimes O) (ha:K_sAdd O) {p:Int} [IsP p] {a b:Fp p} {z:List Int} (h:a≠0∨b≠0) (hal:a.len≤64) (hbl:b.len≤64):∃x' y':List Int,(Pol.bz b.len a b 1 0 0 1).1≠0∧(Pol.bz b.len a b 1 0 0 1).1.len≤64∧(Pol.bz b.len a b 1 0 0 1).2.1.len≤64∧(Pol.bz b.len a b 1 0 0 1).2.2.len≤64 ∧
 dn O 0 (.loop Z3d_L0) ⟨[(0,(.d (.int .i64 p))),(4,.ptr 0 []),(5,.ptr 1 []),(6,.ptr 2 []),(7,.ptr 3 []),(8,.ptr 4 []),(9,.ptr 5 []),(10,.ptr 6 []),(11,.ptr 7 []),(12,.ptr 8 [])],[.box false (D.arr 64 .leaf (ints .u8 (pad (row a)))),.box false (D.arr 64 .leaf (ints .u8 (pad (row b)))),.box false (D.arr 64 .leaf (ints .u8 z)),.box false (D.arr 64 .leaf (ints .u8 z)),.box false (D.arr 64 .leaf (ints .u8 z)),.box false (D.arr 64 .leaf (ints .u8 (pad (row (1:Fp p))))),.box false (D.arr 64 .leaf (ints .u8 (pad (row (0:Fp p))))),.box false (D.arr 64 .leaf (ints .u8 (pad (row (0:Fp p))))),.box false (D.arr 64 .leaf (ints .u8 (pad (row (1:Fp p))))),.hole,.hole,.hole,.hole,.hole,.hole]⟩ =
  some (.exit 0,⟨[(0,(.d (.int .i64 p))),(4,.ptr 0 []),(5,.ptr 1 []),(6,.ptr 2 []),(7,.ptr 3 []),(8,.ptr 4 []),(9,.ptr 5 []),(10,.ptr 6 []),(11,.ptr 7 []),(12,.ptr 8 []),(28,(.d (.bool false)))],[.box false (D.arr 64 .leaf (ints .u8 (pad (row (Pol.bz b.len a b 1 0 0 1).1)))),.box false (D.arr 64 .leaf (ints .u8 (pad []))),.box false (D.arr 64 .leaf (ints .u8 z)),.box false (D.arr 64 .leaf (ints .u8 z)),.box false (D.arr 64 .leaf (ints .u8 z)),.box false (D.arr 64 .leaf (ints .u8 (pad (row (Pol.bz b.len a b 1 0 0 1).2.1)))),.box false (D.arr 64 .leaf (ints .u8 x')),.box false (D.arr 64 .leaf (ints .u8 (pad (row (Pol.bz b.len a b 1 0 0 1).2.2)))),.box false (D.arr 64 .leaf (ints .u8 y')),.hole,.hole,.hole,.hole,.hole,.hole]⟩):=by
 by_cases h0:a=0
 ·subst h0
  have hb:=h.resolve_left (fun h=>h rfl)
  have hp:=Pol.len_pos hb
  obtain ⟨k,hk⟩:∃k,b.len=k+1:=⟨b.len-1,by omega⟩
  have h1:(1:Fp p).len=1:=Pol.len_one
  have hz:(0:Fp p).len=0:=Pol.len_zero
  have hq:(0:Fp p)/b=0:=(Pol.div_mod_eq (a:=(0:Fp p)) (b:=b) (q:=0) (r:=0) (by rw [Gq.zero_mul,Gq.zero_add]) (by omega)).1
  have hs0:∀c:Fp p,c-0=c:=fun c=>by rw [Gq.sub_eq,Gq.neg_zero,Gq.add_zero]
  have hr:(0:Fp p)%b=0:=Pol.zero_mod hb
  have e:=r_sBez (z:=z) hdg hd ht ha (a:=0) (b:=b) (u:=1) (x:=0) (v:=0) (y:=1) hb (by omega) hbl (by omega) (by omega) (by omega) (by omega) (by rw [hq]; omega) (by rw [hq,Gq.zero_mul]; omega) (by rw [hq,Gq.zero_mul]; omega)
  rw [hk]
  unfold Pol.bz
  rw [if_neg hb]
  rw [hq,hr,Gq.zero_mul,Gq.zero_mul,hs0,hs0] at e ⊢
  have hi:Pol.BzI (0:Fp p) b b 0 0 1 1 0:=⟨by rw [Gq.zero_mul,Gq.zero_add,Gq.one_mul],by rw [Gq.mul_zero,Gq.zero_mul,Gq.add_zero],.inr (by omega),.inl hz,.inl hz,.inr (by omega),.inl hb⟩
  obtain ⟨x',y',g1,g2,g3,g4,e2⟩:=l_sBez (O:=O) (z:=z) hdg hd ht ha (A:=0) (B:=b) (by omega) hbl k b 0 0 1 1 0 (by omega) ⟨hi,hbl,by omega,by omega,by omega,hb⟩
  exact ⟨x',y',g1,g2,g3,g4,dn_round e e2⟩
 ·exact l_sBez (O:=O) (z:=z) hdg hd ht ha hal hbl b.len a b 1 0 0 1 (Nat.le_refl _) ⟨Pol.BzI.init (.inl h0),hal,hbl,by rw [Pol.len_one]; omega,by rw [Pol.len_zero]; omega,h0⟩
def K_sBezout (O:Oracle):Prop:=∀(p:Int) [IsP p] (a b:Fp p),a≠0∨b≠0→a.len≤64→b.len≤64 →
 ask O F3d [(D.int .i64 p),(D.arr 64 .leaf (ints .u8 (pad (row a)))),(D.arr 64 .leaf (ints .u8 (pad (row b))))]=some (.tup [(D.arr 64 .leaf (ints .u8 (pad (row (Pol.bezout a b).1)))),(D.arr 64 .leaf (ints .u8 (pad (row (Pol.bezout a b).2.1)))),(D.arr 64 .leaf (ints .u8 (pad (row (Pol.bezout a b).2.2))))])
theorem k_sBezout (hT:T F3d=some Z3d) (h1:K_sOne (den T A)) (hdg:K_sDeg (den T A)) (hd:K_sDivide (den T A)) (ht:K_sTimes (den T A)) (ha:K_sAdd (den T A)) (hinv:K_sInverse (den T A)):K_sBezout (den T A):=by
 intro p i a b h0 hal hbl
 have hp:=IsP.ge (p:=p)
 have hp7:=IsP.le (p:=p)
 have e1:=h1 p
 obtain ⟨x',y',g1,g2,g3,g4,e2⟩:=l_sBezI (O:=den T A) (z:=pad []) hdg hd ht ha h0 hal hbl
 unfold Pol.bezout
 have heu:Pol.eu a b=Pol.bz b.len a b 1 0 0 1:=rfl
 rw [heu]
 generalize Pol.bz b.len a b 1 0 0 1=R at *
 obtain ⟨d,u,v⟩:=R
 simp only at g1 g2 g3 g4 e2 ⊢
 rw [row_zero] at e2
 have hd1:=Pol.len_pos g1
 have e3:=hdg p d g2
 rw [show ((d.len:Int)-1)=((d.len-1:Nat):Int) by omega] at e3
 have hi64:d.len-1<64:=by omega
 have hx:(pad (row d))[d.len-1]? = some (rep d.ld):=by rw [pad_get _ _ hi64,row_cf]; rfl
 have hr:=rep_in d.ld
 have hr0:rep d.ld≠0:=fun h=>Pol.ld_ne g1 (rep_eq_zero.1 h)
 have hin:=inv_in p (rep d.ld)
 have e4:=hinv p (rep d.ld) (by omega) hr.2
 have w1:IntKind.i64.wrap (inv p (rep d.ld))=inv p (rep d.ld):=w64 (by omega)
 have z0:(0:Fp p).len≤64:=by rw [Pol.len_zero]; omega
 have e5:=ha p (inv p (rep d.ld)) 0 d (by omega) (by omega) z0 g2
 have e6:=ha p (inv p (rep d.ld)) 0 u (by omega) (by omega) z0 g3
 have e7:=ha p (inv p (rep d.ld)) 0 v (by omega) (by omega) z0 g4
 rw [finv_rep _ (Pol.ld_ne g1),Gq.zero_add,row_zero] at e5 e6 e7
 refine ask_of hT rfl ?_
 generalize pad (row (Pol.C (Fd.inv d.ld)*d))=P1 at *
 generalize pad (row (Pol.C (Fd.inv d.ld)*u))=P2 at *
 generalize pad (row (Pol.C (Fd.inv d.ld)*v))=P3 at *
 generalize pad (row d)=Pd at *
 generalize pad (row u)=Pu at *
 generalize pad (row v)=Pv at *
 generalize pad (row a)=Pa at *
 generalize pad (row b)=Pb at *
 generalize pad (row (1:Fp p))=P0 at *
 generalize d.len-1=n1 at *
 simp -implicitDefEqProofs [Z3d,Z3d_B,e1,e2,e3,e4,e5,e6,e7,hi64,hx,w1,List.replicate]
def K_sGcd (O:Oracle):Prop:=∀(p:Int) [IsP p] (a b:Fp p),a≠0→a.len≤64→b.len≤64 →
 ask O F3k [(D.int .i64 p),(D.arr 64 .leaf (ints .u8 (pad (row a)))),(D.arr 64 .leaf (ints .u8 (pad (row b))))]=some (D.arr 64 .leaf (ints .u8 (pad (row (Pol.gcd a b)))))
theorem k_sGcd (hT:T F3k=some Z3k) (hdg:K_sDeg (den T A)) (hb:K_sBezout (den T A)):K_sGcd (den T A):=by
 intro p i a b h0 hal hbl
 have e1:=hdg p a hal
 have e2:=hb p a b (.inl h0) hal hbl
 have hp:=Pol.len_pos h0
 have hge:¬ ((a.len:Int)-1<0):=by omega
 refine ask_of hT rfl ?_
 unfold Pol.gcd
 generalize pad (row (Pol.bezout a b).1)=P1 at *
 generalize pad (row (Pol.bezout a b).2.1)=P2 at *
 generalize pad (row (Pol.bezout a b).2.2)=P3 at *
 generalize pad (row a)=Pa at *
 generalize pad (row b)=Pb at *
 generalize (a.len:Int)-1=n1 at *
 simp -implicitDefEqProofs [Z3k,Z3k_B,dn_cond,e1,e2,hge,List.replicate]
def K_sT (O:Oracle):Prop:=∀(p:Int) [IsP p],ask O F3y []=some (D.arr 64 .leaf (ints .u8 (pad (row (Pol.X:Fp p)))))
theorem k_sT (hT:T F3y=some Z3y):K_sT (den T A):=by
 intro p i
 have e:((pad []).set 0 0).set 1 1=pad [0,1]:=by decide +kernel
 have h0:(pad [])[0]? = some 0:=by decide +kernel
 have h1:(pad [])[1]? = some 0:=by decide +kernel
 rw [row_X]
 refine ask_of hT rfl ?_
 simp -implicitDefEqProofs [Z3y,Z3y_B,e,h0,h1]
open Classical in
theorem l_sIrr {O:Oracle} (hdg:K_sDeg O) (hpw:K_sPowMod O) (hg:K_sGcd O) (ha:K_sAdd O) (ht:K_sT O) {p:Int} [IsP p] {m:Fp p} (hm:m≠0) (hml:m.len≤13) {n:Nat} (hn:n+1=m.len):∀(f k:Nat),1≤k→k+f=n/2+1→∃P':List Int,
 dn O 0 (.loop Z3n_L0) ⟨[(0,(.d (.int .i64 p))),(3,.ptr 0 []),(5,(.d (.int .i64 n))),(6,.ptr 1 []),(7,(.d (.int .i64 k)))],[.box false (D.arr 64 .leaf (ints .u8 (pad (row m)))),.box false (D.arr 64 .leaf (ints .u8 (pad (row (pw Pol.X (p.toNat^(k-1))%m)))))]⟩ =
  if ∀k',k≤k'→2*k'≤n→(Pol.gcd m (frW m k')).len=1 then some (.exit 0,⟨[(0,(.d (.int .i64 p))),(3,.ptr 0 []),(5,(.d (.int .i64 n))),(6,.ptr 1 []),(7,(.d (.int .i64 (((n/2+1:Nat):Int))))),(19,(.d (.bool false)))],[.box false (D.arr 64 .leaf (ints .u8 (pad (row m)))),.box false (D.arr 64 .leaf (ints .u8 P'))]⟩)
  else some (.ret,⟨[(4,(.d (.bool false)))],[.hole,.hole]⟩)
 | 0,k,hk,hf=>by
  obtain rfl:k=n/2+1:=by omega
  refine ⟨pad (row (pw Pol.X (p.toNat^(n/2+1-1))%m)),?_⟩
  rw [if_pos (fun k' h1 h2=>by omega)]
  have w1:IntKind.i64.wrap (2*((n/2+1:Nat):Int))=2*((n/2+1:Nat):Int):=w64 (by omega)
  have hlt:¬ (2*((n/2+1:Nat):Int)≤n):=by omega
  refine dn_stop ?_
  generalize ((n/2+1:Nat):Int)=k1 at *
  generalize pad (row (pw Pol.X (p.toNat^(n/2+1-1))%m))=P1 at *
  generalize pad (row m)=Pm at *
  simp -implicitDefEqProofs [Z3n_L0,dn_cond,w1,hlt]
 | f+1,k,hk,hf=>by
  have hp:=IsP.pos (p:=p)
  have hp7:=IsP.le (p:=p)
  have w1:IntKind.i64.wrap (2*(k:Int))=2*(k:Int):=w64 (by omega)
  have hlt:2*(k:Int)≤n:=by omega
  have w4:IntKind.i64.wrap ((k:Int)+1)=((k+1:Nat):Int):=(w64 (x:=(k:Int)+1) (by omega)).trans (by omega)
  have hl1:=Pol.len_mod (pw Pol.X (p.toNat^(k-1))) hm
  have hl2:=Pol.len_mod (pw Pol.X (p.toNat^k)) hm
  have e1:=hpw p (pw Pol.X (p.toNat^(k-1))%m) p m hm (by omega) (by omega) (by omega) (by omega)
  have e2:pw (pw Pol.X (p.toNat^(k-1))%m) p.toNat%m=pw Pol.X (p.toNat^k)%m:=by
   rw [Pol.pow_mod _ hm,pw_pw,←Nat.pow_succ,show (k-1).succ=k by omega]
  rw [e2] at e1
  have e3:=ht p
  have hX:(Pol.X:Fp p).len≤64:=by rw [Pol.len_X]; omega
  have e4:=ha p (-1) (pw Pol.X (p.toNat^k)%m) Pol.X (by omega) (by omega) (by omega) hX
  rw [sub_comb] at e4
  have e4':pw Pol.X (p.toNat^k)%m-Pol.X=frW m k:=rfl
  rw [e4'] at e4
  have hl3:(frW m k).len≤64:=Pol.len_sub_le (by omega) hX
  have e5:=hg p m (frW m k) hm (by omega) hl3
  have hgm:=Pol.gcd_monic (a:=m) (b:=frW m k) (.inl hm)
  have hgl:=(Pol.gcd_dv_left (a:=m) (b:=frW m k) (.inl hm)).len hm
  have e6:=hdg p (Pol.gcd m (frW m k)) (by omega)
  have hg1:=Pol.len_pos hgm.2
  by_cases hc:(Pol.gcd m (frW m k)).len=1
  ·obtain ⟨P',ih⟩:=l_sIrr hdg hpw hg ha ht hm hml hn f (k+1) (by omega) (by omega)
   rw [show k+1-1=k by omega] at ih
   refine ⟨P',?_⟩
   have hiff:(∀k',k≤k'→2*k'≤n→(Pol.gcd m (frW m k')).len=1)↔∀k',k+1≤k'→2*k'≤n→(Pol.gcd m (frW m k')).len=1:=by
    constructor
    ·intro h k' h1 h2; exact h k' (by omega) h2
    ·intro h k' h1 h2
     by_cases hkk:k'=k
     ·rw [hkk]; exact hc
     ·exact h k' (by omega) h2
   rw [propext hiff]
   refine dn_round ?_ ih
   rw [hc] at e6
   have e7:((1:Nat):Int)-1=0:=rfl
   rw [e7] at e6
   generalize pad (row (Pol.gcd m (frW m k)))=Pg at *
   generalize pad (row (frW m k))=Pw at *
   generalize pad (row (pw Pol.X (p.toNat^k)%m))=P2 at *
   generalize pad (row (pw Pol.X (p.toNat^(k-1))%m))=P1 at *
   generalize pad (row (Pol.X:Fp p))=PX at *
   generalize pad (row m)=Pm at *
   simp -implicitDefEqProofs [Z3n_L0,dn_cond,w1,hlt,e1,e3,e4,e5,e6,w4]
  ·refine ⟨pad [],?_⟩
   rw [if_neg (fun h=>hc (h k (Nat.le_refl k) (by omega)))]
   have hne:¬ (((Pol.gcd m (frW m k)).len:Int)-1=0):=by omega
   refine dn_back ?_
   generalize ((Pol.gcd m (frW m k)).len:Int)-1=g1 at *
   generalize pad (row (Pol.gcd m (frW m k)))=Pg at *
   generalize pad (row (frW m k))=Pw at *
   generalize pad (row (pw Pol.X (p.toNat^k)%m))=P2 at *
   generalize pad (row (pw Pol.X (p.toNat^(k-1))%m))=P1 at *
   generalize pad (row (Pol.X:Fp p))=PX at *
   generalize pad (row m)=Pm at *
   simp -implicitDefEqProofs [Z3n_L0,dn_cond,w1,hlt,e1,e3,e4,e5,e6,hne]
open Classical in
def K_sIrr (O:Oracle):Prop:=∀(p:Int) [IsP p] (m:Fp p),m≠0→m.len≤13→ask O F3n [(D.int .i64 p),(D.arr 64 .leaf (ints .u8 (pad (row m))))]=some (D.bool (decide (Irr m)))
open Classical in
theorem k_sIrr (hT:T F3n=some Z3n) (hdg:K_sDeg (den T A)) (hmo:K_sMod (den T A)) (hpw:K_sPowMod (den T A)) (hg:K_sGcd (den T A)) (ha:K_sAdd (den T A)) (ht:K_sT (den T A)):K_sIrr (den T A):=by
 intro p i m hm hml
 have e1:=hdg p m (by omega)
 have e2:=ht p
 have e3:=hmo p Pol.X m hm (by rw [Pol.len_X]; omega) (by omega)
 have h1:=Pol.len_pos hm
 refine ask_of hT rfl ?_
 by_cases h2:2≤m.len
 ·obtain ⟨P',e4⟩:=l_sIrr (O:=den T A) hdg hpw hg ha ht hm hml (n:=m.len-1) (by omega) ((m.len-1)/2) 1 (Nat.le_refl 1) (by omega)
  have e5:pw (Pol.X:Fp p) (p.toNat^(1-1))=Pol.X:=by rw [Nat.sub_self,Nat.pow_zero,pw_1]
  rw [e5,irr_test h2 hml] at e4
  rw [show ((m.len:Int)-1)=((m.len-1:Nat):Int) by omega] at e1
  have hlt:¬ (((m.len-1:Nat):Int)<1):=by omega
  have e01:((1:Nat):Int)=1:=rfl
  rw [e01] at e4
  by_cases hi:Irr m
  ·rw [if_pos hi] at e4
   rw [decide_eq_true hi]
   generalize (((m.len-1)/2+1:Nat):Int)=k1 at *
   generalize ((m.len-1:Nat):Int)=n1 at *
   generalize pad (row (Pol.X%m))=P1 at *
   generalize pad (row (Pol.X:Fp p))=PX at *
   generalize pad (row m)=Pm at *
   simp -implicitDefEqProofs [Z3n,Z3n_B,dn_cond,e1,e2,e3,e4,hlt,List.replicate]
  ·rw [if_neg hi] at e4
   rw [decide_eq_false hi]
   generalize ((m.len-1:Nat):Int)=n1 at *
   generalize pad (row (Pol.X%m))=P1 at *
   generalize pad (row (Pol.X:Fp p))=PX at *
   generalize pad (row m)=Pm at *
   simp -implicitDefEqProofs [Z3n,Z3n_B,dn_cond,e1,e2,e3,e4,hlt,List.replicate]
 ·have hl:m.len=1:=by omega
  rw [hl] at e1
  have e7:((1:Nat):Int)-1=0:=rfl
  rw [e7] at e1
  rw [decide_eq_false (fun h:Irr m=>h2 h.len)]
  generalize pad (row (Pol.X%m))=P1 at *
  generalize pad (row (Pol.X:Fp p))=PX at *
  generalize pad (row m)=Pm at *
  simp -implicitDefEqProofs [Z3n,Z3n_B,dn_cond,e1,e2,e3,List.replicate]
end Pe

namespace Pe
open Go Gq
variable {T:Nat→Option Fn} {A:Oracle}
def puts:List Int→Nat→List Int→List Int
 | [],_,cur=>cur
 | d::ds,i,cur=>puts ds (i+1) (cur.set i d)
theorem puts_length:∀(ds:List Int) (i:Nat) (cur:List Int),(puts ds i cur).length=cur.length
 | [],_,_=>rfl
 | d::ds,i,cur=>by rw [puts,puts_length,List.length_set]
theorem puts_cf:∀(ds:List Int) (i:Nat) (cur:List Int) (j:Nat),i+ds.length≤cur.length→cf (puts ds i cur) j=if i≤j∧j<i+ds.length then cf ds (j-i) else cf cur j
 | [],i,cur,j,_=>by rw [puts,if_neg (by rintro ⟨h1,h2⟩; rw [List.length_nil] at h2; omega)]
 | d::ds,i,cur,j,h=>by
  simp at h
  rw [puts,puts_cf ds (i+1) _ j (by rw [List.length_set]; omega),cf_set,List.length_cons]
  by_cases h1:j=i
  ·subst h1
   rw [if_neg (by omega),if_pos ⟨rfl,by omega⟩,if_pos (by omega),Nat.sub_self]; rfl
  ·by_cases h2:i+1≤j∧j<i+1+ds.length
   ·rw [if_pos h2,if_pos (by omega)]
    obtain ⟨k,hk⟩:∃k,j-i=k+1:=⟨j-i-1,by omega⟩
    rw [hk,show j-(i+1)=k by omega]
    simp [cf]
   ·rw [if_neg h2,if_neg (by omega),if_neg (by omega)]
theorem puts_pad {ds:List Int} (h:ds.length≤64):puts ds 0 (pad [])=pad ds:=by
 symm
 apply pad_eq (by rw [puts_length,pad_length])
 intro i hi
 rw [puts_cf _ _ _ _ (by rw [pad_length]; omega)]
 by_cases h1:i<ds.length
 ·rw [if_pos (by omega),Nat.sub_zero]
 ·rw [if_neg (by omega),pad_cf (by simp),cf_ge (by omega),cf_ge (by simp)]
theorem l_sOf {O:Oracle} {p:Int} [IsP p] {z:List Int}:∀(f:Nat) (n:Int) (i:Nat) (cur:List Int),0≤n→n<2^f→n<9223372036854775807→i+f≤64→cur.length=64→∃i':Nat,
 dn O 0 (.loop Z3t_L0) ⟨[(0,(.d (.int .i64 p))),(1,(.d (.int .i64 n))),(4,.ptr 0 []),(5,.ptr 1 []),(6,(.d (.int .i64 i)))],[.box false (D.arr 64 .leaf (ints .u8 z)),.box false (D.arr 64 .leaf (ints .u8 cur))]⟩ =
  some (.exit 0,⟨[(0,(.d (.int .i64 p))),(1,(.d (.int .i64 0))),(4,.ptr 0 []),(5,.ptr 1 []),(6,(.d (.int .i64 i'))),(9,(.d (.bool false)))],[.box false (D.arr 64 .leaf (ints .u8 z)),.box false (D.arr 64 .leaf (ints .u8 (puts (dgs p f n) i cur)))]⟩)
 | 0,n,i,cur,h0,hn,hm,hi,hc=>by
  obtain rfl:n=0:=by simp at hn; omega
  exact ⟨i,dn_stop (by simp -implicitDefEqProofs [Z3t_L0,dn_cond,dgs,puts])⟩
 | f+1,n,i,cur,h0,hn,hm,hi,hc=>by
  have hp:=IsP.ge (p:=p)
  have hp7:=IsP.le (p:=p)
  by_cases hz:n=0
  ·subst hz
   refine ⟨i,?_⟩
   rw [dgs,if_pos (Int.le_refl 0),puts]
   exact dn_stop (by simp -implicitDefEqProofs [Z3t_L0,dn_cond])
  ·have hd:n/p<2^f:=by
    apply Int.ediv_lt_of_lt_mul (by omega)
    have:(2:Int)^(f+1)=2^f*2:=Int.pow_succ _ _
    have h2:(2:Int)^f*2≤2^f*p:=Int.mul_le_mul_of_nonneg_left hp (Int.pow_nonneg (by omega))
    omega
   have hdn:0≤n/p:=Int.ediv_nonneg (by omega) (by omega)
   have hdl:n/p≤n:=Int.ediv_le_self _ h0
   obtain ⟨i',e⟩:=l_sOf (O:=O) (p:=p) (z:=z) f (n/p) (i+1) (cur.set i (n%p)) hdn hd (by omega) (by omega) (by simpa using hc)
   have hpos:0<n:=by omega
   have hr:0≤n%p∧n%p<p:=⟨Int.emod_nonneg _ (by omega),Int.emod_lt_of_pos _ (by omega)⟩
   have w1:IntKind.i64.wrap (n.tdiv p)=n/p:=by rw [Int.tdiv_eq_ediv_of_nonneg h0,w64 (by omega)]
   have w2:n.tmod p=n%p:=Int.tmod_eq_emod_of_nonneg h0
   have w3:IntKind.u8.wrap (n%p)=n%p:=w8 (by omega)
   have w4:IntKind.i64.wrap ((i:Int)+1)=((i+1:Nat):Int):=(w64 (x:=(i:Int)+1) (by omega)).trans (by omega)
   have hp0:p≠0:=by omega
   have hi64:i<64:=by omega
   have hic:i<cur.length:=by omega
   refine ⟨i',?_⟩
   rw [dgs,if_neg (by omega),puts]
   refine dn_round ?_ e
   simp -implicitDefEqProofs [Z3t_L0,dn_cond,hpos,w1,w2,w3,w4,hp0,hi64,hic]
def K_sOf (O:Oracle):Prop:=∀(p:Int) [IsP p] (n:Int),0≤n→n<4611686018427387904→ask O F3t [(D.int .i64 p),(D.int .i64 n)]=some (D.arr 64 .leaf (ints .u8 (pad (row (numP p n)))))
theorem k_sOf (hT:T F3t=some Z3t):K_sOf (den T A):=by
 intro p i n h0 hn
 obtain ⟨i',e⟩:=l_sOf (O:=den T A) (p:=p) (z:=pad []) 64 n 0 (pad []) h0 (by omega) (by omega) (by omega) (pad_length _)
 rw [puts_pad (dgs_le p 64 n),←row_numP (by omega)] at e
 have e0:((0:Nat):Int)=0:=rfl
 rw [e0] at e
 refine ask_of hT rfl ?_
 generalize pad (row (numP p n))=R at *
 simp -implicitDefEqProofs [Z3t,Z3t_B,e]
theorem beqs_ints (k:IntKind):∀{l m:List Int},l.length=m.length→D.beqs .int (ints k l) (ints k m)=some (decide (l=m))
 | [],[],_=>by simp [D.beqs,ints]
 | x::l,y::m,h=>by
  have e:D.beqs .int (ints k (x::l)) (ints k (y::m))=(D.beq .int (.int k x) (.int k y)).bind fun b=>if b then D.beqs .int (ints k l) (ints k m) else some false:=rfl
  rw [e]
  have e2:D.beq .int (.int k x) (.int k y)=some (decide (x=y)):=by simp [D.beq]
  rw [e2,Option.bind_some,beqs_ints k (by simpa using h)]
  by_cases h1:x=y
  ·subst h1; simp
  ·simp [h1]
theorem beq_P {l m:List Int} (hl:l.length=64) (hm:m.length=64):D.beq (.arr 64 .leaf .int) (D.arr 64 .leaf (ints .u8 l)) (D.arr 64 .leaf (ints .u8 m))=some (decide (l=m)):=by
 have e:D.beq (.arr 64 .leaf .int) (D.arr 64 .leaf (ints .u8 l)) (D.arr 64 .leaf (ints .u8 m))=if 64=64∧64=64∧Sh.beq .leaf .leaf∧Sh.beq .leaf .leaf then D.beqs .int (ints .u8 l) (ints .u8 m) else none:=rfl
 rw [e,if_pos ⟨rfl,rfl,rfl,rfl⟩,beqs_ints _ (by omega)]
theorem pad_row_inj {p:Int} {a b:Fp p} (ha:a.len≤64) (hb:b.len≤64):pad (row a)=pad (row b)↔a=b:=by
 constructor
 ·intro h
  rw [←polOf_pad ha,h,polOf_pad hb]
 ·rintro rfl; rfl
section
variable {p:Int} [IsP p]
structure SInv (a0:Fp p) (k:Int) (a:Fp p) (out:Facs p):Prop where
 ne:a≠0
 eq:a0=a*prodF out
 ok:FacOk out
 so:out.Pairwise fun x y=>numOf x.1<numOf y.1
 lt:∀x∈out,numOf x.1<k
 ge:∀q,Irr q→Monic q→Dv q a→k≤numOf q
 ln:out.length+a.len≤13
structure SEnd (a0 a:Fp p) (out:Facs p):Prop where
 ne:a≠0
 eq:a0=a*prodF out
 ok:FacOk out
 so:out.Pairwise fun x y=>numOf x.1<numOf y.1
 irr:2≤a.len→Irr a∧∀x∈out,numOf x.1<numOf (mon a)
 ln:out.length+a.len≤13
theorem mon_irr_dv {q a:Fp p} (hq:Irr q) (h:Dv q a):Dv (mon q) a:=(mon_dv hq.ne).2 h
theorem SInv.small {a0 a:Fp p} {n:Nat} {k:Int} {out:Facs p} (h:SInv a0 k a out) (_hn:n≤12) (hk:p^n≤k):NoSmall n a:=by
 intro q hq hd
 have h1:=h.ge _ hq.mon (mon_monic hq.ne) (mon_irr_dv hq hd)
 have h2:=numOf_in (mon q)
 rw [mon_len hq.ne] at h2
 apply Classical.byContradiction
 intro hx
 have:=ipow_mono (p:=p) (by have:=IsP.pos (p:=p); omega) (show q.len≤n by omega)
 omega
theorem SInv.step {a0 a:Fp p} {n:Nat} {k:Int} {out:Facs p} (h:SInv a0 k a out) (hn1:1≤n) (hn:n≤12) (hk:p^n≤k) (hk2:k<2*p^n) {j:Nat} {r:Fp p} (h1:a=r*pw (numP p k) j) (h2:¬ Dv (numP p k) r) :
 SInv a0 (k+1) r (if j=0 then out else out++[(numP p k,j)]):=by
 obtain ⟨m1,m2⟩:=numP_monic hn hk hk2
 have hb:=ppow_le (p:=p) hn
 have hpos:=ppow_pos (p:=p) n
 have hnum:numOf (numP p k)=k:=numOf_numP ⟨by omega,by omega⟩
 have hr0:r≠0:=fun h0=>h.ne (by rw [h1,h0,Gq.zero_mul])
 have ge':∀q,Irr q→Monic q→Dv q r→k+1≤numOf q:=by
  intro q hq hm hd
  have g1:=h.ge q hq hm (by rw [h1]; exact hd.mul_right _)
  have g2:numOf q≠k:=fun e=>by
   have:q=numP p k:=numOf_inj (by rw [e,hnum])
   exact h2 (this▸hd)
  omega
 by_cases hj:j=0
 ·subst hj
  rw [if_pos rfl]
  rw [pw,Gq.mul_one] at h1
  subst h1
  exact ⟨h.ne,h.eq,h.ok,h.so,fun x hx=>by have:=h.lt x hx; omega,ge',h.ln⟩
 ·rw [if_neg hj]
  have hda:Dv (numP p k) a:=by
   obtain ⟨i,rfl⟩:∃i,j=i+1:=⟨j-1,by omega⟩
   rw [h1,pw]
   exact ((Dv.refl _).mul_left _).mul_left _
  have hi:Irr (numP p k):=by
   refine Irr.of_dv (by omega) fun u hu=>?_
   have hul:=hu.len m1.2
   have hu0:u≠0:=fun h0=>by
    obtain ⟨c,hc⟩:=hu
    exact m1.2 (by rw [hc,h0,Gq.zero_mul])
   have hup:=Pol.len_pos hu0
   by_cases hu1:u.len=1
   ·exact .inl hu1
   ·right
    obtain ⟨q,q1,q2,q3⟩:=irr_ex u.len u (Nat.le_refl _) (by omega)
    have g1:=h.ge q q1 q2 ((q3.trans hu).trans hda)
    have g2:=q3.len hu0
    apply Classical.byContradiction
    intro hx
    have g3:=numOf_len (a:=q) (b:=numP p k) (by omega)
    omega
  have hlt:r.len<a.len:=by
   obtain ⟨i,rfl⟩:∃i,j=i+1:=⟨j-1,by omega⟩
   have hi0:=pw_ne hi.ne i
   have l1:=Pol.len_mul hi0 hi.ne
   have l2:=Pol.len_mul hr0 (Pol.mul_ne hi0 hi.ne)
   have l3:=Pol.len_pos hi0
   rw [h1,pw]; omega
  refine ⟨hr0,?_,h.ok.snoc hi m1 (by omega) fun x hx e=>?_,?_,?_,ge',?_⟩
  ·rw [h.eq,prodF_snoc]
   conv=>lhs; rw [h1]
   exact ring_of [r,pw (numP p k) j,prodF out] rfl
  ·have:=h.lt x hx
   rw [e,hnum] at this; omega
  ·rw [List.pairwise_append]
   refine ⟨h.so,List.pairwise_singleton _ _,fun x hx y hy=>?_⟩
   simp at hy; subst hy
   have:=h.lt x hx
   rw [hnum]; exact this
  ·intro x hx
   rcases List.mem_append.1 hx with hx | hx
   ·have:=h.lt x hx; omega
   ·simp at hx; subst hx; rw [hnum]; omega
  ·have:=h.ln
   simp; omega
theorem SInv.next {a0 a:Fp p} {n:Nat} {out:Facs p} (h:SInv a0 (2*p^n) a out) (hn:n≤11):SInv a0 (p^(n+1)) a out:=by
 refine ⟨h.ne,h.eq,h.ok,h.so,fun x hx=>?_,fun q hq hm hd=>?_,h.ln⟩
 ·have:=h.lt x hx
  have:=ppow_succ (p:=p) n
  omega
 ·have h1:=h.ge q hq hm hd
  have hq0:=Pol.len_pos hm.2
  rcases Nat.lt_or_ge (n+1) q.len with h2 | h2
  ·obtain ⟨d,hd'⟩:∃d,q.len=d+1:=⟨q.len-1,by omega⟩
   have hl:=hd.len h.ne
   have hln:=h.ln
   have h3:=numOf_monic (n:=d) (by omega) hm hd'
   have:=ipow_mono (p:=p) (by have:=IsP.pos (p:=p); omega) (show n+1≤d by omega)
   omega
  ·exfalso
   obtain ⟨d,hd'⟩:∃d,q.len=d+1:=⟨q.len-1,by omega⟩
   have h3:=numOf_monic (n:=d) (by omega) hm hd'
   have:=ipow_mono (p:=p) (by have:=IsP.pos (p:=p); omega) (show d≤n by omega)
   omega
theorem SInv.init {a:Fp p} (ha:a≠0) (hl:a.len≤13):SInv a (p^1) a []:=
 ⟨ha,(Gq.mul_one a).symm,⟨by simp,.nil⟩,.nil,by simp,fun q hq hm _=>by
  have h1:=hq.len
  obtain ⟨d,hd'⟩:∃d,q.len=d+1:=⟨q.len-1,by omega⟩
  by_cases hd12:d≤12
  ·have h3:=numOf_monic (n:=d) hd12 hm hd'
   have:=ipow_mono (p:=p) (by have:=IsP.pos (p:=p); omega) (show 1≤d by omega)
   omega
  ·have h4:=numOf_len (a:=numP p (p^1)) (b:=q) (by
    have:=(numP_monic (p:=p) (n:=1) (by omega) (Int.le_refl _) (by have:=ppow_pos (p:=p) 1; omega)).2
    omega)
   have h5:numOf (numP p (p^1))=p^1:=numOf_numP ⟨Int.le_of_lt (ppow_pos 1),by have:=ppow_le (p:=p) (n:=1) (by omega); omega⟩
   omega,by simpa using hl⟩
theorem SEnd.fac {a0 a:Fp p} {out:Facs p} (h:SEnd a0 a out) (h0:a0≠0):Pe.fac a0=if 2≤a.len then out++[(mon a,1)] else out:=by
 apply fac_eq h0
 have hP:=prodF_monic h.ok
 have hld:a0.ld=a.ld:=by rw [h.eq,Pol.ld_mul h.ne hP.2,hP.1,Gq.mul_one]
 split
 ·rename_i hl
  obtain ⟨hi,hx⟩:=h.irr hl
  refine ⟨h.ok.snoc hi.mon (mon_monic h.ne) (Nat.le_refl 1) fun x hx' e=>?_,?_,?_⟩
  ·have:=hx x hx'
   rw [e] at this; omega
  ·rw [List.pairwise_append]
   refine ⟨h.so,List.pairwise_singleton _ _,fun x hx' y hy=>?_⟩
   simp at hy; subst hy; exact hx x hx'
  ·rw [prodF_snoc,hld]
   show a0=Pol.C a.ld*(prodF out*pw (mon a) 1)
   rw [pw_1,h.eq]
   conv=>lhs; rw [eq_mon h.ne]
   exact ring_of [Pol.C a.ld,mon a,prodF out] rfl
 ·rename_i hl
  have hp:=Pol.len_pos h.ne
  obtain ⟨c,hc,rfl⟩:=unit_of_len (show a.len=1 by omega)
  refine ⟨h.ok,h.so,?_⟩
  rw [hld,Pol.ld_C hc]; exact h.eq
end
end Pe

namespace Pe
open Go Gq
variable {T:Nat→Option Fn} {A:Oracle}
section
variable {p:Int} [IsP p]
end
end Pe


namespace Pe
open Go Gq
variable {T:Nat→Option Fn} {A:Oracle}
section
variable {p:Int} [IsP p]
end
theorem l_sPower {O:Oracle} {p:Int} [IsP p]:∀(n:Nat) (out:Int),n≤12→0<out→out*p^n≤1000000000000000 →
 dn O 0 (.loop Z43_L0) ⟨[(0,(.d (.int .i64 p))),(1,(.d (.int .i64 n))),(5,(.d (.int .i64 out)))],[]⟩ =
  some (.exit 0,⟨[(0,(.d (.int .i64 p))),(1,(.d (.int .i64 0))),(5,(.d (.int .i64 (out*p^n)))),(7,(.d (.bool false)))],[]⟩)
 | 0,out,_,h1,h2=>by
  rw [Int.pow_zero,Int.mul_one]
  exact dn_stop (by simp -implicitDefEqProofs [Z43_L0,dn_cond])
 | n+1,out,hn,h1,h2=>by
  have hp:=IsP.pos (p:=p)
  have e:out*p^(n+1)=out*p*p^n:=by rw [Int.pow_succ,Int.mul_assoc,Int.mul_comm p]
  have h3:1≤p^n:=ppow_pos n
  have h4:0<out*p:=Int.mul_pos h1 hp
  have h5:out*p*1≤out*p*p^n:=Int.mul_le_mul_of_nonneg_left h3 (by omega)
  rw [e] at h2 ⊢
  have h0:(0:Int)<(n:Int)+1:=by omega
  have w1:IntKind.i64.wrap (out*p)=out*p:=w64 (by omega)
  have w2:IntKind.i64.wrap (n:Int)=n:=w64 (by omega)
  refine dn_round ?_ (l_sPower n (out*p) (by omega) h4 h2)
  simp -implicitDefEqProofs [Z43_L0,dn_cond,h0,w1,w2]
def K_sPower (O:Oracle):Prop:=∀(p:Int) [IsP p] (n:Nat),n≤12→ask O F43 [(D.int .i64 p),(D.int .i64 n)]=some (D.int .i64 (p^n))
theorem k_sPower (hT:T F43=some Z43):K_sPower (den T A):=by
 intro p i n hn
 have hb:=ppow_le (p:=p) hn
 have e:=l_sPower (O:=den T A) (p:=p) n 1 hn (by omega) (by omega)
 rw [Int.one_mul] at e
 refine ask_of hT rfl ?_
 simp -implicitDefEqProofs [Z43,Z43_B,e]
section
variable {p:Int} [IsP p]
end
end Pe

namespace Pe
open Go Gq
variable {T:Nat→Option Fn} {A:Oracle}
end Pe

namespace Pe
open Go Gq
variable {T:Nat→Option Fn} {A:Oracle}
end Pe


namespace Pe
open Go Gq
variable {T:Nat→Option Fn} {A:Oracle}
open Classical in
def K_isIrr (O:Oracle):Prop:=∀(p:Int) [IsP p] (a:Fp p),a.len≤13→ask O F1i [(D.int .i64 p),(D.sl .leaf (ints .i64 (row a)))]=some (D.bool (decide (Monic a∧Irr a)))
open Classical in
theorem k_isIrr (hT:T F1i=some Z1i) (hld:C_lead (den T A)) (hdg:C_degree (den T A)) (hf:K_fac (den T A)):K_isIrr (den T A):=by
 intro p i a hal
 have e1:=hld (row a) (by rw [row_length]; omega)
 rw [ld_row] at e1
 have e2:=hdg (row a) (by rw [row_length]; omega)
 rw [row_length] at e2
 refine ask_of hT rfl ?_
 by_cases h1:a.ld=1
 ·have h1':=(rep_one_iff a.ld).2 h1
  have hM:=(monic_iff a).2 h1
  rw [h1'] at e1
  by_cases h2:2≤a.len
  ·obtain ⟨f1,f2,e3⟩:=hf p a hM.2 hal
   have hiff:=irr_fac hM f1
   have hlt:¬ ((a.len:Int)-1<1):=by omega
   have hlt2:¬ ((a.len:Int)<2):=by omega
   have hlt3:(2:Int)≤a.len:=by omega
   have key:(∃q,fac a=[(q,1)])↔(Monic a∧Irr a):=⟨fun h=>⟨hM,hiff.1 h⟩,fun h=>hiff.2 h.2⟩
   generalize fac a=L at *
   cases L with
   | nil=>
    rw [decide_eq_false (fun h0=>by obtain ⟨q,h⟩:=key.2 h0; cases h)]
    simp -implicitDefEqProofs [Z1i,Z1i_B,dn_cond,e1,e2,e3,hlt]
   | cons x L=>
    cases L with
    | nil=>
     obtain ⟨q,k⟩:=x
     by_cases hk:k=1
     ·subst hk
      rw [decide_eq_true (key.1 ⟨q,rfl⟩)]
      simp -implicitDefEqProofs [Z1i,Z1i_B,dn_cond,e1,e2,e3,hlt,facD]
     ·rw [decide_eq_false (fun h0=>by obtain ⟨q',h⟩:=key.2 h0; simp at h; exact hk h.2)]
      have hk':¬ ((k:Int)=1):=by omega
      simp -implicitDefEqProofs [Z1i,Z1i_B,dn_cond,e1,e2,e3,hlt,facD,hk']
    | cons y L=>
     rw [decide_eq_false (fun h0=>by obtain ⟨q',h⟩:=key.2 h0; simp at h)]
     have hk':¬ (((L.length:Int)+1+1)=1):=by omega
     simp -implicitDefEqProofs [Z1i,Z1i_B,dn_cond,e1,e2,e3,hlt,hk']
  ·have hlt:((a.len:Int)-1<1):=by omega
   have hlt2:((a.len:Int)<2):=by omega
   rw [decide_eq_false (fun h=>h2 h.2.len)]
   simp -implicitDefEqProofs [Z1i,Z1i_B,dn_cond,e1,e2,hlt]
 ·have h1':=mt (rep_one_iff a.ld).1 h1
  rw [decide_eq_false (fun h=>h1 h.1.1)]
  simp -implicitDefEqProofs [Z1i,Z1i_B,dn_cond,e1,h1']
def C_IsPoly (O:Oracle):Prop:=∀(p:Int) (l:List Int),Bytes l→l.length=64→ask O Fh [(D.int .i64 p),(D.arr 64 .leaf (ints .u8 l))]=some (D.bool (isP p&&isPl p l))
theorem c_IsPoly (hT:T Fh=some Zh) (hp:C_isPrime (den T A)) (hi:C_isPoly (den T A)):C_IsPoly (den T A):=by
 intro p l hb hl
 have e1:=hp p
 have e2:=hi p l hb hl
 refine ask_of hT rfl ?_
 by_cases h:isP p=true
 ·simp -implicitDefEqProofs [Zh,Zh_B,e1,e2,h]
 ·simp -implicitDefEqProofs [Zh,Zh_B,e1,h]
structure Fld {p:Int} [IsP p] (m:Fp p):Prop where
 mon:Monic m
 two:2≤m.len
 five:m.len≤5
 irr:Irr m
def IsFld (p:Int) (l:List Int):Prop:=∃(_:IsP p) (m:Fp p),l=pad (row m)∧Fld m
theorem isFld_bad {p:Int} {l:List Int} (h:isP p=true→isPl p l=false):¬ IsFld p l:=by
 rintro ⟨ip,m,rfl,hm⟩
 have:=h isP_true
 rw [isPl_row] at this
 cases this
theorem isFld_good {p:Int} [IsP p] {a:Fp p} (hl:a.len≤64):IsFld p (pad (row a))↔Fld a:=by
 constructor
 ·rintro ⟨ip,m,e,hm⟩
  have hml:=hm.five
  rw [(pad_row_inj hl (by omega)).1 e]
  exact hm
 ·intro h; exact ⟨_,a,rfl,h⟩
open Classical in
def C_isField (O:Oracle):Prop:=∀(p:Int) (l:List Int),Bytes l→l.length=64→ask O F12 [(D.int .i64 p),(D.arr 64 .leaf (ints .u8 l))]=some (D.bool (decide (IsFld p l)))
open Classical in
theorem c_isField (hT:T F12=some Z12) (hro:C_rowOf (den T A)) (hip:C_IsPoly (den T A)) (hdg:C_degree (den T A)) (hwi:C_within (den T A)) (hir:K_isIrr (den T A)):C_isField (den T A):=by
 intro p l hb hl
 have e1:=hro l hb hl
 have e2:=hip p l hb hl
 refine ask_of hT rfl ?_
 rcases arg1 p hb hl with ⟨h1,h2⟩ | ⟨ip,a,hal,rfl⟩
 ·have h3:(isP p&&isPl p l)=false:=by
   cases hx:isP p
   ·rfl
   ·rw [h2 hx]; rfl
  rw [decide_eq_false (isFld_bad h2)]
  rw [h3] at e2
  simp -implicitDefEqProofs [Z12,Z12_B,e1,e2]
 ·rw [isP_true,isPl_row] at e2
  rw [trim_pad a hal] at e1
  have e3:=hdg (row a) (by rw [row_length]; omega)
  rw [row_length] at e3
  have e4:=hwi ((a.len:Int)-1) 1 4
  by_cases h:2≤a.len∧a.len≤5
  ·have h3:decide ((1:Int)≤(a.len:Int)-1∧(a.len:Int)-1≤4)=true:=decide_eq_true (by omega)
   rw [h3] at e4
   have e5:=hir p a (by omega)
   have h6:decide (IsFld p (pad (row a)))=decide (Monic a∧Irr a):=decide_eq_decide.2 ((isFld_good hal).trans ⟨fun g=>⟨g.mon,g.irr⟩,fun g=>⟨g.1,h.1,h.2,g.2⟩⟩)
   rw [h6]
   generalize decide (Monic a∧Irr a)=b at *
   generalize pad (row a)=Pa at *
   simp -implicitDefEqProofs [Z12,Z12_B,e1,e2,e3,e4,e5]
  ·have h3:decide ((1:Int)≤(a.len:Int)-1∧(a.len:Int)-1≤4)=false:=decide_eq_false (by omega)
   rw [h3] at e4
   rw [decide_eq_false (fun g=>h ⟨((isFld_good hal).1 g).two,((isFld_good hal).1 g).five⟩)]
   generalize pad (row a)=Pa at *
   simp -implicitDefEqProofs [Z12,Z12_B,e1,e2,e3,e4]
def IsRes {p:Int} [IsP p] (m:Fp p) (l:List Int):Prop:=∃a:Fp p,a.len<m.len∧l=pad (row a)
noncomputable abbrev fldD {p:Int} (m:Fp p):D:=.st [.leaf,.leaf] [.int .i64 p,(D.sl .leaf (ints .i64 (row m)))]
open Classical in
def C_isRes (O:Oracle):Prop:=∀(p:Int) [IsP p] (m:Fp p) (l:List Int),m.len≤64→Bytes l→l.length=64→ask O Fx [fldD m,(D.arr 64 .leaf (ints .u8 l))]=some (D.bool (decide (IsRes m l)))
theorem isRes_iff {p:Int} [IsP p] {m a:Fp p} (hm:m.len≤64) (ha:a.len≤64):IsRes m (pad (row a))↔a.len<m.len:=by
 constructor
 ·rintro ⟨b,h1,h2⟩
  rw [(pad_row_inj ha (by omega)).1 h2]; exact h1
 ·intro h; exact ⟨a,h,rfl⟩
open Classical in
theorem c_isRes (hT:T Fx=some Zx) (hi:C_isPoly (den T A)) (hro:C_rowOf (den T A)) (hdg:C_degree (den T A)):C_isRes (den T A):=by
 intro p ip m l hm hb hl
 have e1:=hi p l hb hl
 refine ask_of hT rfl ?_
 by_cases h:isPl p l=true
 ·obtain ⟨a,hal,rfl⟩:=row_of_isPl hb hl h
  rw [h] at e1
  have e2:=hro _ hb hl
  rw [trim_pad a hal] at e2
  have e3:=hdg (row a) (by rw [row_length]; omega)
  rw [row_length] at e3
  have e4:=hdg (row m) (by rw [row_length]; omega)
  rw [row_length] at e4
  have h5:decide ((a.len:Int)-1<(m.len:Int)-1)=decide (IsRes m (pad (row a))):=decide_eq_decide.2 ((show _↔a.len<m.len by omega).trans (isRes_iff hm hal).symm)
  rw [←h5]
  generalize pad (row a)=Pa at *
  simp -implicitDefEqProofs [Zx,Zx_B,e1,e2,e3,e4]
 ·rw [decide_eq_false (fun ⟨a,h1,h2⟩=>h (by rw [h2]; exact isPl_row))]
  have h':isPl p l=false:=by simpa using h
  rw [h'] at e1
  simp -implicitDefEqProofs [Zx,Zx_B,e1]
def K_fieldOf (O:Oracle):Prop:=∀(p:Int) [IsP p] (m:Fp p),m.len≤64→ask O Ft [(D.int .i64 p),(D.arr 64 .leaf (ints .u8 (pad (row m))))]=some (fldD m)
theorem k_fieldOf (hT:T Ft=some Zt) (hro:K_rowOf (den T A)):K_fieldOf (den T A):=by
 intro p ip m hm
 have e1:=hro p m hm
 refine ask_of hT rfl ?_
 generalize pad (row m)=Pm at *
 simp -implicitDefEqProofs [Zt,Zt_B,e1,List.replicate]
end Pe

namespace Pe
open Go Gq
variable {T:Nat→Option Fn} {A:Oracle}
abbrev drSh:List Sh:=[.leaf,.arr 64 .leaf,.arr 64 .leaf,.arr 64 .leaf]
abbrev drD (n:Int) (u v w:List Int):D:=.st drSh [(D.int .i64 n),(D.arr 64 .leaf (ints .u8 u)),(D.arr 64 .leaf (ints .u8 v)),(D.arr 64 .leaf (ints .u8 w))]
def IsDr (n:Int) (u v w:List Int):Prop:=∃(_:IsP n) (m g d:Fp n),u=pad (row m)∧v=pad (row g)∧w=pad (row d)∧Fld m∧g.len<m.len∧d.len<m.len∧d≠0
theorem isDr_iff {p:Int} [IsP p] {m:Fp p} (hm:Fld m) {v w:List Int}:IsDr p (pad (row m)) v w↔IsRes m v∧IsRes m w∧w≠pad []:=by
 have h5:=hm.five
 constructor
 ·rintro ⟨ip,m',g,d,e1,rfl,rfl,h1,h2,h3,h4⟩
  have h6:=h1.five
  obtain rfl:=(pad_row_inj (by omega) (by omega)).1 e1
  refine ⟨⟨g,h2,rfl⟩,⟨d,h3,rfl⟩,fun h=>h4 ?_⟩
  rw [←row_zero (p:=p)] at h
  exact (pad_row_inj (by omega) (by rw [Pol.len_zero]; omega)).1 h
 ·rintro ⟨⟨g,h2,rfl⟩,⟨d,h3,rfl⟩,h4⟩
  exact ⟨_,m,g,d,rfl,rfl,rfl,hm,h2,h3,fun h=>h4 (by rw [h,row_zero])⟩
theorem isDr_fld {n:Int} {u v w:List Int} (h:IsDr n u v w):IsFld n u:=by
 obtain ⟨ip,m,g,d,e1,_,_,h1,_⟩:=h
 exact ⟨ip,m,e1,h1⟩
open Classical in
def C_IsDr (O:Oracle) (F:Nat):Prop:=∀(n:Int) (u v w:List Int),Bytes u→u.length=64→Bytes v→v.length=64→Bytes w→w.length=64→ask O F [drD n u v w]=some (D.bool (decide (IsDr n u v w)))
open Classical in
theorem c_IsDr (hT:T Ff=some Zf) (hif:C_isField (den T A)) (hfo:K_fieldOf (den T A)) (hir:C_isRes (den T A)):C_IsDr (den T A) Ff:=by
 intro n u v w bu gu bv gv bw gw
 have e1:=hif n u bu gu
 refine ask_of hT rfl ?_
 by_cases hf:IsFld n u
 ·rw [decide_eq_true hf] at e1
  obtain ⟨ip,m,rfl,hm⟩:=hf
  have h5:=hm.five
  have e2:=hfo n m (by omega)
  have e3:=hir n m v (by omega) bv gv
  have e4:=hir n m w (by omega) bw gw
  have e5:=beq_P gw (pad_length [])
  have h6:decide (IsDr n (pad (row m)) v w)=(decide (IsRes m v)&&decide (IsRes m w) && !decide (w=pad [])):=by
   have h7:decide (IsDr n (pad (row m)) v w)=decide (IsRes m v∧IsRes m w∧w≠pad []):=decide_eq_decide.2 (isDr_iff hm)
   rw [h7]
   by_cases h1:IsRes m v <;> by_cases h2:IsRes m w <;> by_cases h3:w=pad [] <;> simp [h1,h2,h3]
  rw [h6]
  generalize pad (row m)=Pm at *
  cases hb1:decide (IsRes m v) <;> cases hb2:decide (IsRes m w) <;> rw [hb1] at e3 <;> rw [hb2] at e4 <;> simp -implicitDefEqProofs [Zf,Zf_B,dn_cond,e1,e2,e3,e4,e5,List.replicate]
 ·rw [decide_eq_false hf] at e1
  rw [decide_eq_false (fun h=>hf (isDr_fld h))]
  simp -implicitDefEqProofs [Zf,Zf_B,dn_cond,e1,List.replicate]
open Classical in
theorem c_sDr (hT:T F4c=some Z4c) (hc:C_sCode (den T A)) (hmo:K_sMonic (den T A)) (hdg:K_sDeg (den T A)) (hin:C_sIn (den T A)) (hir:K_sIrr (den T A)):C_IsDr (den T A) F4c:=by
 intro n u v w bu gu bv gv bw gw
 have e1:=hc n [u,v,w] (by intro x hx; simp at hx; rcases hx with rfl | rfl | rfl <;> exact ⟨by assumption,by assumption⟩) (by simp)
 rw [show List.map arr8 [u,v,w]=[(D.arr 64 .leaf (ints .u8 u)),(D.arr 64 .leaf (ints .u8 v)),(D.arr 64 .leaf (ints .u8 w))] from rfl] at e1
 refine ask_of hT rfl ?_
 by_cases hp:isP n=true∧isPl n u=true∧isPl n v=true∧isPl n w=true
 ·obtain ⟨p1,p2,p3,p4⟩:=hp
  have hcc:codeP n [u,v,w]=0:=by simp [codeP,p1,p2,p3,p4]
  rw [hcc] at e1
  have ip:=isP_of p1
  obtain ⟨m,hml,rfl⟩:=row_of_isPl bu gu p2
  obtain ⟨g,hgl,rfl⟩:=row_of_isPl bv gv p3
  obtain ⟨d,hdl,rfl⟩:=row_of_isPl bw gw p4
  have e2:=hmo n m hml
  have e3:=hdg n m hml
  have e4:=hdg n g hgl
  have e5:=hdg n d hdl
  have e6:=hin ((m.len:Int)-1) 1 4
  have t3:pad (row d)=pad []↔d=0:=by
   rw [←row_zero (p:=n),pad_row_inj hdl (by rw [Pol.len_zero]; omega)]
  have t4:decide (pad (row d)=pad [])=decide (d=0):=decide_eq_decide.2 t3
  have e8:=beq_P (pad_length (row d)) (pad_length [])
  rw [t4] at e8
  by_cases hM:Monic m
  ·rw [decide_eq_true hM] at e2
   by_cases h:2≤m.len∧m.len≤5
   ·have h3:decide ((1:Int)≤(m.len:Int)-1∧(m.len:Int)-1≤4)=true:=decide_eq_true (by omega)
    rw [h3] at e6
    have e7:=hir n m hM.2 (by omega)
    by_cases hI:Irr m
    ·rw [decide_eq_true hI] at e7
     have hF:Fld m:=⟨hM,h.1,h.2,hI⟩
     have h8:decide (IsDr n (pad (row m)) (pad (row g)) (pad (row d)))=(decide ((g.len:Int)-1<(m.len:Int)-1)&&decide ((d.len:Int)-1<(m.len:Int)-1) && !decide (d=0)):=by
      have h7:decide (IsDr n (pad (row m)) (pad (row g)) (pad (row d)))=decide (g.len<m.len∧d.len<m.len∧d≠0):=decide_eq_decide.2 ((isDr_iff hF).trans (by
       rw [isRes_iff (by omega) hgl,isRes_iff (by omega) hdl]
       rw [Ne,t3]))
      rw [h7]
      have t1:((g.len:Int)-1<(m.len:Int)-1)↔g.len<m.len:=by omega
      have t2:((d.len:Int)-1<(m.len:Int)-1)↔d.len<m.len:=by omega
      have t5:decide ((g.len:Int)-1<(m.len:Int)-1)=decide (g.len<m.len):=decide_eq_decide.2 t1
      have t6:decide ((d.len:Int)-1<(m.len:Int)-1)=decide (d.len<m.len):=decide_eq_decide.2 t2
      rw [t5,t6]
      by_cases x1:g.len<m.len <;> by_cases x2:d.len<m.len <;> by_cases x3:d=0 <;> simp [x1,x2,x3]
     rw [h8]
     generalize (m.len:Int)-1=m1 at *
     generalize (g.len:Int)-1=g1 at *
     generalize (d.len:Int)-1=d1 at *
     generalize decide (d=0)=bz at *
     generalize pad (row m)=Pm at *
     generalize pad (row g)=Pg at *
     generalize pad (row d)=Pd at *
     cases hb1:decide (g1<m1) <;> cases hb2:decide (d1<m1) <;> simp -implicitDefEqProofs [Z4c,Z4c_B,dn_cond,e1,e2,e3,e4,e5,e6,e7,e8,hb1,hb2,List.replicate]
    ·rw [decide_eq_false hI] at e7
     rw [decide_eq_false (fun hd=>hI ((isFld_good hml).1 (isDr_fld hd)).irr)]
     generalize (m.len:Int)-1=m1 at *
     generalize pad (row m)=Pm at *
     generalize pad (row g)=Pg at *
     generalize pad (row d)=Pd at *
     simp -implicitDefEqProofs [Z4c,Z4c_B,dn_cond,e1,e2,e3,e6,e7,List.replicate]
   ·have h3:decide ((1:Int)≤(m.len:Int)-1∧(m.len:Int)-1≤4)=false:=decide_eq_false (by omega)
    rw [h3] at e6
    rw [decide_eq_false (fun hd=>h ⟨((isFld_good hml).1 (isDr_fld hd)).two,((isFld_good hml).1 (isDr_fld hd)).five⟩)]
    generalize (m.len:Int)-1=m1 at *
    generalize pad (row m)=Pm at *
    generalize pad (row g)=Pg at *
    generalize pad (row d)=Pd at *
    simp -implicitDefEqProofs [Z4c,Z4c_B,dn_cond,e1,e2,e3,e6,List.replicate]
  ·rw [decide_eq_false hM] at e2
   rw [decide_eq_false (fun hd=>hM ((isFld_good hml).1 (isDr_fld hd)).mon)]
   generalize pad (row m)=Pm at *
   generalize pad (row g)=Pg at *
   generalize pad (row d)=Pd at *
   simp -implicitDefEqProofs [Z4c,Z4c_B,dn_cond,e1,e2,List.replicate]
 ·have hcc:codeP n [u,v,w]=1:=by
   unfold codeP
   rw [if_neg]
   rintro ⟨h1,h2⟩
   simp at h2
   exact hp ⟨h1,h2⟩
  rw [hcc] at e1
  rw [decide_eq_false (by
   rintro ⟨ip,m,g,d,rfl,rfl,rfl,_⟩
   exact hp ⟨isP_true,isPl_row,isPl_row,isPl_row⟩)]
  simp -implicitDefEqProofs [Z4c,Z4c_B,dn_cond,e1,List.replicate]
open Classical in
noncomputable def codeDr (n:Int) (u v w:List Int) (ls:List (List Int)):Int:=if IsDr n u v w∧ls.all (isPl n)=true then 0 else 1
def C_drCode (O:Oracle) (F:Nat):Prop:=∀(n:Int) (u v w:List Int) (ls:List (List Int)),Bytes u→u.length=64→Bytes v→v.length=64→Bytes w→w.length=64→Arrs ls→ls.length<2000000 →
 ask O F [drD n u v w,.sl (.arr 64 .leaf) (ls.map arr8)]=some (D.int .i64 (codeDr n u v w ls))
theorem fn_drPoly {n:Int} {u v w:List Int} {ls:List (List Int)} (h:Arrs ls) (hT1:T Fs=some Zs) (hi:C_isPoly (den T A)):FnBool (den T A) Fs [] [.ip (drD n u v w)] (ls.map arr8) fun x=>isPl n x.nums:=by
 refine ⟨fun x hx=>by simp at hx,fun x hx=>by simp at hx; subst hx; rfl,fun x hx=>?_,fun x hx=>?_⟩
 ·obtain ⟨n,_,rfl⟩:=List.mem_map.1 hx; rfl
 ·obtain ⟨l,hn,rfl⟩:=List.mem_map.1 hx
  have e:=hi n l (h l hn).2 (h l hn).1
  have e2:=nums_arr8 l
  refine ask_of hT1 rfl ?_
  simp -implicitDefEqProofs [Zs,Zs_B,e,e2]
open Classical in
theorem c_drCode (hT:T Fr=some Zr) (hT1:T Fs=some Zs) (hd:C_IsDr (den T A) Ff) (hi:C_isPoly (den T A)) (ha:C_allOf (den T A) Fm (.arr 64 .leaf)):C_drCode (den T A) Fr:=by
 intro n u v w ls bu gu bv gv bw gw h hl
 have e:=ha _ _ _ _ _ (fn_drPoly (n:=n) (u:=u) (v:=v) (w:=w) h hT1 hi) (fun x hx=>by obtain ⟨n,_,rfl⟩:=List.mem_map.1 hx; rfl) (by simpa using hl)
 rw [all_arrs] at e
 have e1:=hd n u v w bu gu bv gv bw gw
 unfold codeDr
 refine ask_of hT rfl ?_
 by_cases h1:IsDr n u v w
 ·rw [decide_eq_true h1] at e1
  cases h2:ls.all (isPl n)
  ·rw [h2] at e
   rw [if_neg (by simp)]
   simp -implicitDefEqProofs [Zr,Zr_B,e1,e,dn_cond]
  ·rw [h2] at e
   rw [if_pos ⟨h1,rfl⟩]
   simp -implicitDefEqProofs [Zr,Zr_B,e1,e,dn_cond]
 ·rw [decide_eq_false h1] at e1
  rw [if_neg (fun h=>h1 h.1)]
  simp -implicitDefEqProofs [Zr,Zr_B,e1,dn_cond]
open Classical in
theorem c_sDrCode (hT:T F48=some Z48) (hd:C_IsDr (den T A) F4c) (hc:C_sCode (den T A)):C_drCode (den T A) F48:=by
 intro n u v w ls bu gu bv gv bw gw h hl
 have e:=hc n ls h hl
 have e1:=hd n u v w bu gu bv gv bw gw
 unfold codeDr
 refine ask_of hT rfl ?_
 by_cases h1:IsDr n u v w
 ·rw [decide_eq_true h1] at e1
  have hp:isP n=true:=by obtain ⟨ip,_⟩:=h1; exact isP_true
  unfold codeP at e
  cases h2:ls.all (isPl n)
  ·rw [h2,if_neg (by simp)] at e
   rw [if_neg (by simp)]
   simp -implicitDefEqProofs [Z48,Z48_B,e1,e,dn_cond]
  ·rw [h2,if_pos ⟨hp,rfl⟩] at e
   rw [if_pos ⟨h1,rfl⟩]
   simp -implicitDefEqProofs [Z48,Z48_B,e1,e,dn_cond]
 ·rw [decide_eq_false h1] at e1
  rw [if_neg (fun h=>h1 h.1)]
  simp -implicitDefEqProofs [Z48,Z48_B,e1,dn_cond]
end Pe

namespace Pe
open Go Gq
variable {T:Nat→Option Fn} {A:Oracle}
section
variable {p:Int} [IsP p]
noncomputable def frIt (m:Fp p):Nat→Fp p→Fp p
 | 0,a=>a
 | k+1,a=>frIt m k (pw a p.toNat%m)
theorem frIt_len {m:Fp p} (hm:m≠0):∀(k:Nat) (a:Fp p),a.len<m.len→(frIt m k a).len<m.len
 | 0,_,h=>h
 | k+1,_a,_=>frIt_len hm k _ (Pol.len_mod _ hm)
theorem frIt_mk {m:Fp p}:∀(k:Nat) (a:Fp p),Quo.mk m (frIt m k a)=pw (Quo.mk m a) (p.toNat^k)
 | 0,a=>by rw [Nat.pow_zero,pw_1]; rfl
 | k+1,a=>by
  show Quo.mk m (frIt m k (pw a p.toNat%m))=_
  rw [frIt_mk k,Pol.mk_mod,Quo.mk_pow,pw_pw,Nat.pow_succ,Nat.mul_comm]
theorem frIt_mod {m:Fp p} (hm:Fld m) (k:Nat) {a:Fp p} (ha:a.len<m.len):frIt m (k%(m.len-1)) a=frIt m k a:=by
 have h2:=hm.two
 have h5:=hm.five
 have small:p^(m.len-1)<1000000000000:=by
  have h1:=ipow_mono (p:=p) (by have:=IsP.pos (p:=p); omega) (show m.len-1≤12 by omega)
  have h7:=ppow_le (p:=p) (n:=12) (by omega)
  omega
 have hd:∀x:Quo m,pw x (p.toNat^(m.len-1))=x:=fermat_all hm.irr (by omega) small
 have hq:∀(q:Nat) (x:Quo m),pw x (p.toNat^((m.len-1)*q))=x:=by
  intro q
  induction q with
  | zero=>intro x; rw [Nat.mul_zero,Nat.pow_zero,pw_1]
  | succ q ih=>intro x; rw [Nat.mul_succ,Nat.pow_add,←pw_pw,ih,hd]
 have h0:m≠0:=hm.mon.2
 have e:Quo.mk m (frIt m (k%(m.len-1)) a)=Quo.mk m (frIt m k a):=by
  rw [frIt_mk,frIt_mk]
  have hk:k=(m.len-1)*(k/(m.len-1))+k%(m.len-1):=(Nat.div_add_mod k (m.len-1)).symm
  have:p.toNat^k=p.toNat^((m.len-1)*(k/(m.len-1)))*p.toNat^(k%(m.len-1)):=by rw [←Nat.pow_add,←hk]
  rw [this,←pw_pw,hq]
 have e2:=(Pol.mod_eq_iff h0).2 e
 rwa [Pol.mod_small (frIt_len h0 _ _ ha),Pol.mod_small (frIt_len h0 _ _ ha)] at e2
noncomputable def invm (m a:Fp p):Fp p:=(Pol.bezout a m).2.1%m
theorem invm_len {m:Fp p} (hm:m≠0) (a:Fp p):(invm m a).len<m.len:=Pol.len_mod _ hm
theorem invm_ok {m a:Fp p} (hm:Fld m) (ha:a≠0) (hal:a.len<m.len):Quo.mk m (invm m a)*Quo.mk m a=1:=by
 have h0:m≠0:=hm.mon.2
 have e:=Pol.bezout_eq (a:=a) (b:=m) (.inl ha)
 have hg:Pol.gcd a m=1:=by
  have h1:=Pol.gcd_monic (a:=a) (b:=m) (.inl ha)
  have h2:=Pol.gcd_dv_left (a:=a) (b:=m) (.inl ha)
  have h3:=Pol.gcd_dv_right (a:=a) (b:=m) (.inl ha)
  refine h1.eq_one ?_
  rcases hm.irr.dv h3 with h | h
  ·exact h
  ·have:=h2.len ha
   omega
 rw [hg] at e
 unfold invm
 rw [Pol.mk_mod]
 have:Quo.mk m ((Pol.bezout a m).2.1*a+(Pol.bezout a m).2.2*m)=Quo.mk m 1:=by rw [e]
 rw [Quo.mk_add,Quo.mk_mul,Quo.mk_mul] at this
 have hm0:Quo.mk m m=0:=dv_iff_mk.1 (Dv.refl m)
 rw [hm0,Gq.mul_zero,Gq.add_zero] at this
 exact this
end
theorem prod_len {p:Int} [IsP p] {a b:Fp p} {n:Nat} (ha:a.len≤n) (hb:b.len≤n):(a*b).len≤2*n:=by
 by_cases h:a=0
 ·rw [h,Gq.zero_mul,Pol.len_zero]; omega
 ·by_cases h2:b=0
  ·rw [h2,Gq.mul_zero,Pol.len_zero]; omega
  ·have:=Pol.len_mul h h2; omega
def K_product (O:Oracle):Prop:=∀(p:Int) [IsP p] (m a b:Fp p),m≠0→m.len≤64→a.len≤1000→b.len≤1000→ask O F10 [fldD m,(D.sl .leaf (ints .i64 (row a))),(D.sl .leaf (ints .i64 (row b)))]=some (D.sl .leaf (ints .i64 (row (a*b%m))))
theorem k_product (hT:T F10=some Z10) (ht:K_times (den T A)) (hr:K_rest (den T A)):K_product (den T A):=by
 intro p ip m a b hm hml ha hb
 have e1:=ht p a b (by omega) (by omega)
 have hl:=prod_len (n:=1000) ha hb
 have e2:=hr p (a*b) m hm (by omega) (by omega)
 refine ask_of hT rfl ?_
 simp -implicitDefEqProofs [Z10,Z10_B,e1,e2]
theorem l_frob {O:Oracle} (hpw:K_power O) {p:Int} [IsP p] {m:Fp p} (hm:m≠0) (hml:m.len≤64) {n:Nat} (hn:n<1000000):∀(k i:Nat) (a:Fp p),i+k=n→a.len≤1000 →
 dn O 0 (.loop Zv_L0) ⟨[(1,(.d (.sl .leaf (ints .i64 (row a))))),(3,.ptr 0 []),(11,(.d (.int .i64 n))),(12,(.d (.int .i64 i)))],[.box false (fldD m)]⟩ =
  some (.exit 0,⟨[(1,(.d (.sl .leaf (ints .i64 (row (frIt m k a)))))),(3,.ptr 0 []),(11,(.d (.int .i64 n))),(12,(.d (.int .i64 n))),(13,(.d (.bool false)))],[.box false (fldD m)]⟩)
 | 0,i,a,hi,ha=>by
  obtain rfl:i=n:=by omega
  exact dn_stop (by simp -implicitDefEqProofs [Zv_L0,dn_cond,frIt])
 | k+1,i,a,hi,ha=>by
  have hp:=IsP.pos (p:=p)
  have hp7:=IsP.le (p:=p)
  have hlt:i<n:=by omega
  have w4:IntKind.i64.wrap ((i:Int)+1)=((i+1:Nat):Int):=(w64 (x:=(i:Int)+1) (by omega)).trans (by omega)
  have e1:=hpw p a p m hm (by omega) (by omega) (by omega) (by omega)
  have hl:=Pol.len_mod (pw a p.toNat) hm
  refine dn_round ?_ (l_frob hpw hm hml hn k (i+1) (pw a p.toNat%m) (by omega) (by omega))
  simp -implicitDefEqProofs [Zv_L0,dn_cond,hlt,e1,w4]
def K_frob (O:Oracle):Prop:=∀(p:Int) [IsP p] (m a:Fp p) (k:Nat),2≤m.len→m.len≤64→a.len≤1000→k<1000000→ask O Fv [fldD m,(D.sl .leaf (ints .i64 (row a))),(D.int .i64 k)]=some (D.sl .leaf (ints .i64 (row (frIt m (k%(m.len-1)) a))))
theorem k_frob (hT:T Fv=some Zv) (hpw:K_power (den T A)) (hdg:C_degree (den T A)):K_frob (den T A):=by
 intro p ip m a k h2 hml ha hk
 have hm:m≠0:=fun h=>by rw [h,Pol.len_zero] at h2; omega
 have e1:=hdg (row m) (by rw [row_length]; omega)
 rw [row_length,show ((m.len:Int)-1)=((m.len-1:Nat):Int) by omega] at e1
 have hlt:=Nat.mod_lt k (show 0<m.len-1 by omega)
 have e2:=l_frob (O:=den T A) hpw hm hml (n:=k%(m.len-1)) (by omega) (k%(m.len-1)) 0 a (Nat.zero_add _) ha
 have e00:((0:Nat):Int)=0:=rfl
 rw [e00] at e2
 have w1:(k:Int).tmod ((m.len-1:Nat):Int)=((k%(m.len-1):Nat):Int):=by rw [Int.tmod_eq_emod_of_nonneg (by omega)]; rfl
 have h0:((m.len-1:Nat):Int)≠0:=by omega
 refine ask_of hT rfl ?_
 generalize row (frIt m (k%(m.len-1)) a)=R at *
 generalize ((k%(m.len-1):Nat):Int)=n1 at *
 generalize ((m.len-1:Nat):Int)=m1 at *
 simp -implicitDefEqProofs [Zv,Zv_B,e1,e2,w1,h0]
def K_inverted (O:Oracle):Prop:=∀(p:Int) [IsP p] (m a:Fp p),m≠0→m.len≤64→a.len≤1000→ask O Fw [fldD m,(D.sl .leaf (ints .i64 (row a)))]=some (D.sl .leaf (ints .i64 (row (invm m a))))
theorem bez_small {p:Int} [IsP p] {a b:Fp p} (h:a≠0∨b≠0) (_ha:a.len≤1000) (hb:b.len≤1000):(Pol.bezout a b).2.1.len<5000:=by
 obtain ⟨x,y,hi,_,_⟩:=Pol.bz_spec b.len a b 1 0 0 1 (Nat.le_refl _) (Pol.BzI.init h)
 have h1:=hi.lu
 rw [Pol.len_zero] at h1
 have:(Pol.bezout a b).2.1.len≤(Pol.bz b.len a b 1 0 0 1).2.1.len:=Pol.len_le (Pol.lt_Cmul _ (Pol.lt_len _))
 omega
theorem k_inverted (hT:T Fw=some Zw) (hb:K_bezout (den T A)) (hr:K_rest (den T A)):K_inverted (den T A):=by
 intro p ip m a hm hml ha
 have e1:=hb p a m (.inr hm) (by omega) (by omega)
 have hl:=bez_small (a:=a) (b:=m) (.inr hm) ha (by omega)
 have e2:=hr p (Pol.bezout a m).2.1 m hm hl (by omega)
 have e3:(Pol.bezout a m).2.1%m=invm m a:=rfl
 rw [e3] at e2
 refine ask_of hT rfl ?_
 generalize row (invm m a)=R at *
 generalize row (Pol.bezout a m).1=R1 at *
 generalize row (Pol.bezout a m).2.1=R2 at *
 generalize row (Pol.bezout a m).2.2=R3 at *
 simp -implicitDefEqProofs [Zw,Zw_B,e1,e2]
def K_sInv2 (O:Oracle):Prop:=∀(p:Int) [IsP p] (m a:Fp p),m≠0→m.len≤63→a≠0→a.len<m.len→ask O F42 [(D.int .i64 p),(D.arr 64 .leaf (ints .u8 (pad (row a)))),(D.arr 64 .leaf (ints .u8 (pad (row m))))]=some (D.arr 64 .leaf (ints .u8 (pad (row (invm m a)))))
theorem bez_64 {p:Int} [IsP p] {a b:Fp p} (h:a≠0) (hb:b.len≤63):(Pol.bezout a b).2.1.len≤64:=by
 obtain ⟨x,y,hi,_,_⟩:=Pol.bz_spec b.len a b 1 0 0 1 (Nat.le_refl _) (Pol.BzI.init (.inl h))
 have h1:=hi.lu
 rw [Pol.len_zero] at h1
 have:(Pol.bezout a b).2.1.len≤(Pol.bz b.len a b 1 0 0 1).2.1.len:=Pol.len_le (Pol.lt_Cmul _ (Pol.lt_len _))
 omega
theorem k_sInv2 (hT:T F42=some Z42) (hmo:K_sMod (den T A)) (hb:K_sBezout (den T A)):K_sInv2 (den T A):=by
 intro p ip m a hm hml ha hal
 have e1:=hmo p a m hm (by omega) (by omega)
 rw [Pol.mod_small hal] at e1
 have e2:=hb p a m (.inl ha) (by omega) (by omega)
 have e3:=hmo p (Pol.bezout a m).2.1 m hm (bez_64 ha hml) (by omega)
 have e4:(Pol.bezout a m).2.1%m=invm m a:=rfl
 rw [e4] at e3
 refine ask_of hT rfl ?_
 generalize pad (row (invm m a))=R at *
 generalize pad (row (Pol.bezout a m).1)=R1 at *
 generalize pad (row (Pol.bezout a m).2.1)=R2 at *
 generalize pad (row (Pol.bezout a m).2.2)=R3 at *
 generalize pad (row a)=Pa at *
 generalize pad (row m)=Pm at *
 simp -implicitDefEqProofs [Z42,Z42_B,e1,e2,e3,List.replicate]
def K_sTimes6 (O:Oracle):Prop:=∀(p:Int) [IsP p] (m a b:Fp p) (v w:List Int),m≠0→m.len≤64→a.len≤64→b.len≤64→ask O F4h [drD p (pad (row m)) v w,(D.arr 64 .leaf (ints .u8 (pad (row a)))),(D.arr 64 .leaf (ints .u8 (pad (row b))))]=some (D.arr 64 .leaf (ints .u8 (pad (row (a*b%m)))))
theorem k_sTimes6 (hT:T F4h=some Z4h) (hmm:K_sMulMod (den T A)):K_sTimes6 (den T A):=by
 intro p ip m a b v w hm hml ha hb
 have e1:=hmm p a b m hm hml ha hb
 refine ask_of hT rfl ?_
 generalize pad (row (a*b%m))=R at *
 generalize pad (row a)=Pa at *
 generalize pad (row b)=Pb at *
 generalize pad (row m)=Pm at *
 simp -implicitDefEqProofs [Z4h,Z4h_B,e1,List.replicate]
theorem l_sUp6 {O:Oracle} (hpw:K_sPowMod O) {p:Int} [IsP p] {m:Fp p} {v w z:List Int} (hm:m≠0) (hml:m.len≤64):∀(k:Nat) (a:Fp p),k<1000000→a.len≤64 →
 dn O 0 (.loop Z4k_L0) ⟨[(2,(.d (.int .i64 k))),(3,.ptr 0 []),(4,.ptr 1 []),(6,.ptr 2 [])],[.box false (drD p (pad (row m)) v w),.box false (D.arr 64 .leaf (ints .u8 (pad (row a)))),.box false (D.arr 64 .leaf (ints .u8 z))]⟩ =
  some (.exit 0,⟨[(2,(.d (.int .i64 0))),(3,.ptr 0 []),(4,.ptr 1 []),(6,.ptr 2 []),(8,(.d (.bool false)))],[.box false (drD p (pad (row m)) v w),.box false (D.arr 64 .leaf (ints .u8 (pad (row (frIt m k a))))),.box false (D.arr 64 .leaf (ints .u8 z))]⟩)
 | 0,a,hk,ha=>by
  refine dn_stop ?_
  show _=some (_,(⟨_,[_,.box false (D.arr 64 .leaf (ints .u8 (pad (row a)))),_]⟩:St))
  generalize pad (row a)=Pa at *
  generalize pad (row m)=Pm at *
  simp -implicitDefEqProofs [Z4k_L0,dn_cond]
 | k+1,a,hk,ha=>by
  have hp:=IsP.pos (p:=p)
  have hp7:=IsP.le (p:=p)
  have w4:IntKind.i64.wrap (((k+1:Nat):Int)-1)=(k:Int):=(w64 (x:=((k+1:Nat):Int)-1) (by omega)).trans (by omega)
  have hlt:(0:Int)<((k+1:Nat):Int):=by omega
  have e1:=hpw p a p m hm ha hml (by omega) (by omega)
  have hl:=Pol.len_mod (pw a p.toNat) hm
  refine dn_round ?_ (l_sUp6 hpw hm hml k (pw a p.toNat%m) (by omega) (by omega))
  generalize ((k+1:Nat):Int)=k1 at *
  generalize pad (row (pw a p.toNat%m))=R at *
  generalize pad (row a)=Pa at *
  generalize pad (row m)=Pm at *
  simp -implicitDefEqProofs [Z4k_L0,dn_cond,hlt,e1,w4]
def K_sUp6 (O:Oracle):Prop:=∀(p:Int) [IsP p] (m a:Fp p) (v w:List Int) (k:Nat),m≠0→m.len≤64→a.len≤64→k<1000000→ask O F4k [drD p (pad (row m)) v w,(D.arr 64 .leaf (ints .u8 (pad (row a)))),(D.int .i64 k)]=some (D.arr 64 .leaf (ints .u8 (pad (row (frIt m k a)))))
theorem k_sUp6 (hT:T F4k=some Z4k) (hpw:K_sPowMod (den T A)):K_sUp6 (den T A):=by
 intro p ip m a v w k hm hml ha hk
 have e1:=l_sUp6 (O:=den T A) (v:=v) (w:=w) (z:=pad []) hpw hm hml k a hk ha
 refine ask_of hT rfl ?_
 generalize pad (row (frIt m k a))=R at *
 generalize pad (row a)=Pa at *
 generalize pad (row m)=Pm at *
 simp -implicitDefEqProofs [Z4k,Z4k_B,e1,List.replicate]
def K_drField (O:Oracle):Prop:=∀(p:Int) [IsP p] (m:Fp p) (v w:List Int),m.len≤64→ask O F8 [drD p (pad (row m)) v w]=some (fldD m)
theorem k_drField (hT:T F8=some Z8) (hfo:K_fieldOf (den T A)):K_drField (den T A):=by
 intro p ip m v w hml
 have e1:=hfo p m hml
 refine ask_of hT rfl ?_
 generalize pad (row m)=Pm at *
 simp -implicitDefEqProofs [Z8,Z8_B,e1,List.replicate]
end Pe

namespace Pe
open Go Gq
variable {T:Nat→Option Fn} {A:Oracle}
section
variable {p:Int} [IsP p]
theorem one_ne_quo {m:Fp p} (h2:2≤m.len):(1:Quo m)≠0:=fun h=>by
 have:Dv m 1:=dv_iff_mk.2 h
 have:=this.len Pol.one_ne
 rw [Pol.len_one] at this
 omega
theorem pw_res {m c:Fp p} (hm:Fld m) (hc:c≠0) (hcl:c.len<m.len) (k:Nat):pw c k%m≠0∧(pw c k%m).len<m.len:=by
 have h0:m≠0:=hm.mon.2
 refine ⟨fun h=>?_,Pol.len_mod _ h0⟩
 have h1:Quo.mk m (pw c k)=0:=by rw [←Pol.mk_mod,h]; rfl
 rw [Quo.mk_pow] at h1
 have h2:=invm_ok hm hc hcl
 have h3:pw (Quo.mk m (invm m c)*Quo.mk m c) k=0:=by rw [pw_mul,h1,Gq.mul_zero]
 rw [h2,pw_one] at h3
 exact one_ne_quo hm.two h3
theorem invm_pw {m c:Fp p} (hm:Fld m) (hc:c≠0) (hcl:c.len<m.len) (k:Nat):Quo.mk m (invm m (pw c k%m))=pw (Quo.mk m (invm m c)) k:=by
 obtain ⟨h1,h2⟩:=pw_res hm hc hcl k
 have e1:=invm_ok hm h1 h2
 rw [Pol.mk_mod,Quo.mk_pow] at e1
 have e2:=invm_ok hm hc hcl
 have e3:pw (Quo.mk m (invm m c)*Quo.mk m c) k=1:=by rw [e2,pw_one]
 rw [pw_mul] at e3
 generalize Quo.mk m (invm m (pw c k%m))=y at *
 generalize pw (Quo.mk m c) k=z at *
 generalize pw (Quo.mk m (invm m c)) k=x at *
 have e4:y*(x*z)=y:=by rw [e3,Gq.mul_one]
 have e5:y*(x*z)=(y*z)*x:=ring_of [y,x,z] rfl
 rw [e5,e1,Gq.one_mul] at e4
 exact e4.symm
theorem twist_eq {m c:Fp p} (hm:Fld m) (hc:c≠0) (hcl:c.len<m.len) (k:Nat) (g:Fp p):invm m (pw c k%m)*g%m=g*(pw (invm m c) k%m)%m:=by
 rw [Pol.mod_eq_iff hm.mon.2,Quo.mk_mul,Quo.mk_mul,invm_pw hm hc hcl,Pol.mk_mod,Quo.mk_pow,Gq.mul_comm]
end
noncomputable def twc {p:Int} [IsP p] (m c g:Fp p) (k:Nat):Fp p:=invm m (pw c k%m)*g%m
def K_twist (O:Oracle):Prop:=∀(p:Int) [IsP p] (m g d c:Fp p),Fld m→g.len<m.len→d.len<m.len→c≠0→c.len<m.len →
 ask O Fb [drD p (pad (row m)) (pad (row g)) (pad (row d)),(D.sl .leaf (ints .i64 (row c)))]=some (drD p (pad (row m)) (pad (row (twc m c g (p-1).toNat))) (pad (row (twc m c d (p*p-1).toNat))))
theorem k_twist (hT:T Fb=some Zb) (hfi:K_drField (den T A)) (hpw:K_power (den T A)) (hin:K_inverted (den T A)) (hro:K_rowOf (den T A)) (hpr:K_product (den T A)) (hpo:K_poly (den T A)):K_twist (den T A):=by
 intro p ip m g d c hm hg hd hc hcl
 have hp:=IsP.pos (p:=p)
 have hp7:=IsP.le (p:=p)
 have h0:m≠0:=hm.mon.2
 have h5:=hm.five
 have gm:=mul_small (x:=p) (y:=p) (b:=10) (c:=10) (by omega) (by omega) (by omega)
 have gm0:=Int.mul_nonneg (show 0≤p by omega) (show 0≤p by omega)
 have gp:1≤p*p:=by
  have:=Int.mul_pos hp hp; omega
 have w1:IntKind.i64.wrap (p-1)=p-1:=w64 (by omega)
 have w2:IntKind.i64.wrap (p*p)=p*p:=w64 (by omega)
 have w3:IntKind.i64.wrap (p*p-1)=p*p-1:=w64 (by omega)
 have e1:=hfi p m (pad (row g)) (pad (row d)) (by omega)
 have e2:=hpw p c (p-1) m h0 (by omega) (by omega) (by omega) (by omega)
 have e3:=hpw p c (p*p-1) m h0 (by omega) (by omega) (by omega) (by omega)
 have l2:=Pol.len_mod (pw c (p-1).toNat) h0
 have l3:=Pol.len_mod (pw c (p*p-1).toNat) h0
 have e4:=hin p m (pw c (p-1).toNat%m) h0 (by omega) (by omega)
 have e5:=hin p m (pw c (p*p-1).toNat%m) h0 (by omega) (by omega)
 have l4:=invm_len h0 (pw c (p-1).toNat%m)
 have l5:=invm_len h0 (pw c (p*p-1).toNat%m)
 have e6:=hro p g (by omega)
 have e7:=hro p d (by omega)
 have e8:=hpr p m (invm m (pw c (p-1).toNat%m)) g h0 (by omega) (by omega) (by omega)
 have e9:=hpr p m (invm m (pw c (p*p-1).toNat%m)) d h0 (by omega) (by omega) (by omega)
 have l8:=Pol.len_mod (invm m (pw c (p-1).toNat%m)*g) h0
 have l9:=Pol.len_mod (invm m (pw c (p*p-1).toNat%m)*d) h0
 have e10:=hpo p (invm m (pw c (p-1).toNat%m)*g%m) (by omega)
 have e11:=hpo p (invm m (pw c (p*p-1).toNat%m)*d%m) (by omega)
 refine ask_of hT rfl ?_
 unfold twc
 generalize pad (row (invm m (pw c (p-1).toNat%m)*g%m))=P1 at *
 generalize pad (row (invm m (pw c (p*p-1).toNat%m)*d%m))=P2 at *
 generalize row (invm m (pw c (p-1).toNat%m)*g%m)=R1 at *
 generalize row (invm m (pw c (p*p-1).toNat%m)*d%m)=R2 at *
 generalize row (invm m (pw c (p-1).toNat%m))=R3 at *
 generalize row (invm m (pw c (p*p-1).toNat%m))=R4 at *
 generalize row (pw c (p-1).toNat%m)=R5 at *
 generalize row (pw c (p*p-1).toNat%m)=R6 at *
 generalize pad (row m)=Pm at *
 generalize pad (row g)=Pg at *
 generalize pad (row d)=Pd at *
 simp -implicitDefEqProofs [Zb,Zb_B,w1,w2,w3,e1,e2,e3,e4,e5,e6,e7,e8,e9,e10,e11,List.replicate]
def K_sTwist (O:Oracle):Prop:=∀(p:Int) [IsP p] (m g d c:Fp p),Fld m→g.len<m.len→d.len<m.len→c≠0→c.len<m.len →
 ask O F4i [drD p (pad (row m)) (pad (row g)) (pad (row d)),(D.arr 64 .leaf (ints .u8 (pad (row c))))]=some (drD p (pad (row m)) (pad (row (twc m c g (p-1).toNat))) (pad (row (twc m c d (p*p-1).toNat))))
theorem k_sTwist (hT:T F4i=some Z4i) (hin:K_sInv2 (den T A)) (hpw:K_sPowMod (den T A)) (hti:K_sTimes6 (den T A)):K_sTwist (den T A):=by
 intro p ip m g d c hm hg hd hc hcl
 have hp:=IsP.pos (p:=p)
 have hp7:=IsP.le (p:=p)
 have h0:m≠0:=hm.mon.2
 have h5:=hm.five
 have gm:=mul_small (x:=p) (y:=p) (b:=10) (c:=10) (by omega) (by omega) (by omega)
 have gp:1≤p*p:=by
  have:=Int.mul_pos hp hp; omega
 have w1:IntKind.i64.wrap (p-1)=p-1:=w64 (by omega)
 have w2:IntKind.i64.wrap (p*p)=p*p:=w64 (by omega)
 have w3:IntKind.i64.wrap (p*p-1)=p*p-1:=w64 (by omega)
 have e1:=hin p m c h0 (by omega) hc hcl
 have l1:=invm_len h0 c
 have e2:=hpw p (invm m c) (p-1) m h0 (by omega) (by omega) (by omega) (by omega)
 have e3:=hpw p (invm m c) (p*p-1) m h0 (by omega) (by omega) (by omega) (by omega)
 have l2:=Pol.len_mod (pw (invm m c) (p-1).toNat) h0
 have l3:=Pol.len_mod (pw (invm m c) (p*p-1).toNat) h0
 have e4:=hti p m g (pw (invm m c) (p-1).toNat%m) (pad (row g)) (pad (row d)) h0 (by omega) (by omega) (by omega)
 have e5:=hti p m d (pw (invm m c) (p*p-1).toNat%m) (pad (row g)) (pad (row d)) h0 (by omega) (by omega) (by omega)
 rw [←twist_eq hm hc hcl] at e4 e5
 refine ask_of hT rfl ?_
 unfold twc
 generalize pad (row (invm m (pw c (p-1).toNat%m)*g%m))=P1 at *
 generalize pad (row (invm m (pw c (p*p-1).toNat%m)*d%m))=P2 at *
 generalize pad (row (pw (invm m c) (p-1).toNat%m))=P3 at *
 generalize pad (row (pw (invm m c) (p*p-1).toNat%m))=P4 at *
 generalize pad (row (invm m c))=P5 at *
 generalize pad (row m)=Pm at *
 generalize pad (row g)=Pg at *
 generalize pad (row d)=Pd at *
 generalize pad (row c)=Pc at *
 simp -implicitDefEqProofs [Z4i,Z4i_B,w1,w2,w3,e1,e2,e3,e4,e5,List.replicate]
end Pe



namespace Pe
open Go Gq
variable {T:Nat→Option Fn} {A:Oracle}
end Pe


namespace Pe
open Go Gq
variable {T:Nat→Option Fn} {A:Oracle}
abbrev drZ:D:=drD 0 (pad []) (pad []) (pad [])
open Classical in
noncomputable def twistD (n:Int) (u v w c:List Int):D:=
 if h:IsDr n u v w∧isPl n c=true then
  haveI:IsP n:=h.1.choose
  if (polOf n c:Fp n)≠0∧(polOf n c:Fp n).len<(polOf n u:Fp n).len then
   .tup [drD n u (pad (row (twc (polOf n u) (polOf n c) (polOf n v) (n-1).toNat))) (pad (row (twc (polOf n u) (polOf n c) (polOf n w) (n*n-1).toNat))),(D.int .i64 0)]
  else .tup [drZ,(D.int .i64 2)]
 else .tup [drZ,(D.int .i64 1)]
theorem twistD_bad {n:Int} {u v w c:List Int} (h:¬ (IsDr n u v w∧isPl n c=true)):twistD n u v w c=.tup [drZ,(D.int .i64 1)]:=by
 unfold twistD
 rw [dif_neg h]
open Classical in
theorem twistD_good {p:Int} [IsP p] {m g d c:Fp p} (h:IsDr p (pad (row m)) (pad (row g)) (pad (row d))) (hm:m.len≤64) (hg:g.len≤64) (hd:d.len≤64) (hc:c.len≤64) :
 twistD p (pad (row m)) (pad (row g)) (pad (row d)) (pad (row c))=if c≠0∧c.len<m.len then .tup [drD p (pad (row m)) (pad (row (twc m c g (p-1).toNat))) (pad (row (twc m c d (p*p-1).toNat))),(D.int .i64 0)] else .tup [drZ,(D.int .i64 2)]:=by
 unfold twistD
 rw [dif_pos ⟨h,isPl_row⟩,polOf_pad hm,polOf_pad hg,polOf_pad hd,polOf_pad hc]
theorem codeDr_one {n:Int} {u v w c:List Int} (h:¬ (IsDr n u v w∧isPl n c=true)):codeDr n u v w [c]=1:=by
 unfold codeDr
 rw [if_neg]
 rintro ⟨h1,h2⟩
 exact h ⟨h1,by simpa using h2⟩
theorem codeDr_zero {n:Int} {u v w c:List Int} (h1:IsDr n u v w) (h2:isPl n c=true):codeDr n u v w [c]=0:=by
 unfold codeDr
 rw [if_pos ⟨h1,by simpa using h2⟩]
def K_TwistOf (O:Oracle) (F:Nat):Prop:=∀(n:Int) (u v w c:List Int),Bytes u→u.length=64→Bytes v→v.length=64→Bytes w→w.length=64→Bytes c→c.length=64→ask O F [drD n u v w,(D.arr 64 .leaf (ints .u8 c))]=some (twistD n u v w c)
open Classical in
theorem k_TwistOf (hT:T Fj=some Zj) (hcd:C_drCode (den T A) Fr) (hfi:K_drField (den T A)) (hir:C_isRes (den T A)) (hro:K_rowOf (den T A)) (htw:K_twist (den T A)):K_TwistOf (den T A) Fj:=by
 intro n u v w c bu gu bv gv bw gw bc gc
 have e1:=hcd n u v w [c] bu gu bv gv bw gw (by intro x hx; simp at hx; subst hx; exact ⟨gc,bc⟩) (by simp)
 rw [show List.map arr8 [c]=[(D.arr 64 .leaf (ints .u8 c))] from rfl] at e1
 refine ask_of hT rfl ?_
 by_cases h:IsDr n u v w∧isPl n c=true
 ·obtain ⟨h1,h2⟩:=h
  rw [codeDr_zero h1 h2] at e1
  have h1':=h1
  obtain ⟨ip,m,g,d,rfl,rfl,rfl,hm,hg,hd,hd0⟩:=h1
  obtain ⟨a,hal,rfl⟩:=row_of_isPl bc gc h2
  have h5:=hm.five
  rw [twistD_good h1' (by omega) (by omega) (by omega) hal]
  have e2:=hfi n m (pad (row g)) (pad (row d)) (by omega)
  have e3:=hir n m (pad (row a)) (by omega) bc gc
  have t3:pad (row a)=pad []↔a=0:=by
   rw [←row_zero (p:=n),pad_row_inj hal (by rw [Pol.len_zero]; omega)]
  have e4:=beq_P (pad_length (row a)) (pad_length [])
  by_cases ha:a.len<m.len
  ·rw [decide_eq_true ((isRes_iff (by omega) hal).2 ha)] at e3
   by_cases h0:a=0
   ·rw [if_neg (fun h=>h.1 h0)]
    rw [decide_eq_true (t3.2 h0)] at e4
    generalize pad (row m)=Pm at *
    generalize pad (row g)=Pg at *
    generalize pad (row d)=Pd at *
    generalize pad (row a)=Pa at *
    simp -implicitDefEqProofs [Zj,Zj_B,dn_cond,e1,e2,e3,e4,List.replicate]
   ·rw [if_pos ⟨h0,ha⟩]
    rw [decide_eq_false (fun h=>h0 (t3.1 h))] at e4
    have e5:=hro n a hal
    have e6:=htw n m g d a hm hg hd h0 ha
    generalize pad (row (twc m a g (n-1).toNat))=P1 at *
    generalize pad (row (twc m a d (n*n-1).toNat))=P2 at *
    generalize pad (row m)=Pm at *
    generalize pad (row g)=Pg at *
    generalize pad (row d)=Pd at *
    generalize pad (row a)=Pa at *
    simp -implicitDefEqProofs [Zj,Zj_B,dn_cond,e1,e2,e3,e4,e5,e6,List.replicate]
  ·rw [decide_eq_false (fun h=>ha ((isRes_iff (by omega) hal).1 h))] at e3
   rw [if_neg (fun h=>ha h.2)]
   generalize pad (row m)=Pm at *
   generalize pad (row g)=Pg at *
   generalize pad (row d)=Pd at *
   generalize pad (row a)=Pa at *
   simp -implicitDefEqProofs [Zj,Zj_B,dn_cond,e1,e2,e3,List.replicate]
 ·rw [codeDr_one h] at e1
  rw [twistD_bad h]
  simp -implicitDefEqProofs [Zj,Zj_B,dn_cond,e1,List.replicate]
open Classical in
def K_sRes6 (O:Oracle):Prop:=∀(p:Int) [IsP p] (m c:Fp p) (v w:List Int),m.len≤64→c.len≤64→ask O F4e [drD p (pad (row m)) v w,(D.arr 64 .leaf (ints .u8 (pad (row c))))]=some (D.bool (decide (c≠0∧c.len<m.len)))
open Classical in
theorem k_sRes6 (hT:T F4e=some Z4e) (hdg:K_sDeg (den T A)):K_sRes6 (den T A):=by
 intro p ip m c v w hm hc
 have e1:=hdg p m hm
 have e2:=hdg p c hc
 have t3:pad (row c)=pad []↔c=0:=by
  rw [←row_zero (p:=p),pad_row_inj hc (by rw [Pol.len_zero]; omega)]
 have e4:=beq_P (pad_length (row c)) (pad_length [])
 refine ask_of hT rfl ?_
 by_cases h0:c=0
 ·rw [decide_eq_true (t3.2 h0)] at e4
  rw [decide_eq_false (fun h=>h.1 h0)]
  generalize pad (row m)=Pm at *
  generalize pad (row c)=Pc at *
  simp -implicitDefEqProofs [Z4e,Z4e_B,e4,List.replicate]
 ·rw [decide_eq_false (fun h=>h0 (t3.1 h))] at e4
  have h7:decide (c≠0∧c.len<m.len)=decide ((c.len:Int)-1<(m.len:Int)-1):=decide_eq_decide.2 (by
   constructor
   ·intro h; omega
   ·intro h; exact ⟨h0,by omega⟩)
  rw [h7]
  generalize (m.len:Int)-1=m1 at *
  generalize (c.len:Int)-1=c1 at *
  generalize pad (row m)=Pm at *
  generalize pad (row c)=Pc at *
  simp -implicitDefEqProofs [Z4e,Z4e_B,e1,e2,e4,List.replicate]
open Classical in
theorem k_sTwistOf (hT:T F3b=some Z3b) (hcd:C_drCode (den T A) F48) (hre:K_sRes6 (den T A)) (htw:K_sTwist (den T A)):K_TwistOf (den T A) F3b:=by
 intro n u v w c bu gu bv gv bw gw bc gc
 have e1:=hcd n u v w [c] bu gu bv gv bw gw (by intro x hx; simp at hx; subst hx; exact ⟨gc,bc⟩) (by simp)
 rw [show List.map arr8 [c]=[(D.arr 64 .leaf (ints .u8 c))] from rfl] at e1
 refine ask_of hT rfl ?_
 by_cases h:IsDr n u v w∧isPl n c=true
 ·obtain ⟨h1,h2⟩:=h
  rw [codeDr_zero h1 h2] at e1
  have h1':=h1
  obtain ⟨ip,m,g,d,rfl,rfl,rfl,hm,hg,hd,hd0⟩:=h1
  obtain ⟨a,hal,rfl⟩:=row_of_isPl bc gc h2
  have h5:=hm.five
  rw [twistD_good h1' (by omega) (by omega) (by omega) hal]
  have e2:=hre n m a (pad (row g)) (pad (row d)) (by omega) hal
  by_cases ha:a≠0∧a.len<m.len
  ·rw [decide_eq_true ha] at e2
   rw [if_pos ha]
   have e6:=htw n m g d a hm hg hd ha.1 ha.2
   generalize pad (row (twc m a g (n-1).toNat))=P1 at *
   generalize pad (row (twc m a d (n*n-1).toNat))=P2 at *
   generalize pad (row m)=Pm at *
   generalize pad (row g)=Pg at *
   generalize pad (row d)=Pd at *
   generalize pad (row a)=Pa at *
   simp -implicitDefEqProofs [Z3b,Z3b_B,dn_cond,e1,e2,e6,List.replicate]
  ·rw [decide_eq_false ha] at e2
   rw [if_neg ha]
   generalize pad (row m)=Pm at *
   generalize pad (row g)=Pg at *
   generalize pad (row d)=Pd at *
   generalize pad (row a)=Pa at *
   simp -implicitDefEqProofs [Z3b,Z3b_B,dn_cond,e1,e2,List.replicate]
 ·rw [codeDr_one h] at e1
  rw [twistD_bad h]
  simp -implicitDefEqProofs [Z3b,Z3b_B,dn_cond,e1,List.replicate]
theorem twistD_form (n:Int) {u v w c:List Int} (gu:u.length=64):∃(n':Int) (u' v' w':List Int) (k:Int),twistD n u v w c=.tup [drD n' u' v' w',(D.int .i64 k)]∧u'.length=64∧v'.length=64∧w'.length=64:=by
 unfold twistD
 split
 ·split
  ·exact ⟨_,_,_,_,_,rfl,gu,pad_length _,pad_length _⟩
  ·exact ⟨_,_,_,_,_,rfl,pad_length _,pad_length _,pad_length _⟩
 ·exact ⟨_,_,_,_,_,rfl,pad_length _,pad_length _,pad_length _⟩
end Pe

namespace Pe
open Go Gq
variable {T:Nat→Option Fn} {A:Oracle}
noncomputable abbrev skD {p:Int} (a:List (Fp p)):D:=.sl .leaf (a.map fun c=>(D.sl .leaf (ints .i64 (row c))))
section
variable {p:Int} [IsP p]
noncomputable def svI (m x:Fp p):Nat→List (Fp p)→Fp p→Fp p
 | _,[],out=>out
 | i,c::cs,out=>svI m x (i+1) cs (out+c*frIt m (i%(m.len-1)) x%m)
theorem svI_len {m x:Fp p} (hm:m≠0):∀(i:Nat) (a:List (Fp p)) (out:Fp p),out.len<m.len→(svI m x i a out).len<m.len
 | _,[],_,h=>h
 | i,c::cs,out,h=>svI_len hm (i+1) cs _ (by
  have h1:=Pol.len_mod (c*frIt m (i%(m.len-1)) x) hm
  have:=Pol.len_add_le (a:=out) (b:=c*frIt m (i%(m.len-1)) x%m) (n:=m.len-1) (by omega) (by omega)
  omega)
noncomputable def sv6 (m g d x:Fp p):Fp p:=Pol.X%m*x%m+g*frIt m 1 x%m+d*frIt m 2 x%m
theorem svI_6 {m g d x:Fp p} (hm:Fld m) (hx:x.len<m.len):svI m x 0 [Pol.X%m,g,d] 0=sv6 m g d x:=by
 show 0+Pol.X%m*frIt m (0%(m.len-1)) x%m+g*frIt m (1%(m.len-1)) x%m+d*frIt m (2%(m.len-1)) x%m=_
 rw [frIt_mod hm 0 hx,frIt_mod hm 1 hx,frIt_mod hm 2 hx,Gq.zero_add]
 rfl
theorem sv6_len {m g d x:Fp p} (hm:m≠0):(sv6 m g d x).len<m.len:=by
 have h1:=Pol.len_mod (Pol.X%m*x) hm
 have h2:=Pol.len_mod (g*frIt m 1 x) hm
 have h3:=Pol.len_mod (d*frIt m 2 x) hm
 have h4:=Pol.len_add_le (a:=Pol.X%m*x%m) (b:=g*frIt m 1 x%m) (n:=m.len-1) (by omega) (by omega)
 have h5:=Pol.len_add_le (a:=Pol.X%m*x%m+g*frIt m 1 x%m) (b:=d*frIt m 2 x%m) (n:=m.len-1) h4 (by omega)
 unfold sv6
 omega
noncomputable def dvL (m g d:Fp p):List (Zp p)→Fp p→Fp p→Fp p
 | [],out,_=>out
 | c::cs,out,now=>dvL m g d cs (out+Pol.C c*now) (sv6 m g d now)
theorem dvL_len {m g d:Fp p} (hm:m≠0):∀(cs:List (Zp p)) (out now:Fp p),out.len<m.len→now.len<m.len→(dvL m g d cs out now).len<m.len
 | [],_,_,h,_=>h
 | c::cs,out,now,h,h2=>dvL_len hm cs _ _ (by
  have:=Pol.len_add_le (a:=out) (b:=Pol.C c*now) (n:=m.len-1) (by omega) (Nat.le_trans (Pol.len_le (Pol.lt_Cmul _ now.lt_len)) (by omega))
  omega) (sv6_len hm)
end
section
variable {p:Int}
noncomputable def tlC (a:Fp p) (i:Nat):List (Zp p):=(List.range' i (a.len-i)).map a.c
theorem tlC_end (a:Fp p):tlC a a.len=[]:=by unfold tlC; rw [Nat.sub_self]; rfl
theorem tlC_cons (a:Fp p) {i:Nat} (h:i<a.len):tlC a i=a.c i::tlC a (i+1):=by
 unfold tlC
 rw [show a.len-i=(a.len-(i+1))+1 by omega,List.range'_succ,List.map_cons]
end
theorem l_value {O:Oracle} (hfr:K_frob O) (hpr:K_product O) (hco:K_combine2 O) {p:Int} [IsP p] {m x:Fp p} {a:List (Fp p)} (h2:2≤m.len) (hml:m.len≤64) (hx:x.len≤1000) (ha:a.length<100000) (hal:∀c∈a,c.len≤1000):∀(k i:Nat) (out:Fp p),i+k=a.length→out.len≤64 →
 dn O 0 (.loop Z11_L0) ⟨[(2,(.d (.sl .leaf (ints .i64 (row x))))),(3,.ptr 0 []),(7,(.d (.sl .leaf (ints .i64 (row out))))),(10,.d (skD a)),(11,(.d (.int .i64 a.length))),(12,(.d (.int .i64 i)))],[.box false (fldD m)]⟩ =
  some (.exit 0,⟨[(2,(.d (.sl .leaf (ints .i64 (row x))))),(3,.ptr 0 []),(7,(.d (.sl .leaf (ints .i64 (row (svI m x i (a.drop i) out)))))),(10,.d (skD a)),(11,(.d (.int .i64 a.length))),(12,(.d (.int .i64 a.length))),(13,(.d (.bool false)))],[.box false (fldD m)]⟩)
 | 0,i,out,hi,ho=>by
  obtain rfl:i=a.length:=by omega
  rw [List.drop_length]
  show _=some (_,(⟨[_,_,(7,(.d (.sl .leaf (ints .i64 (row out))))),_,_,_,_],_⟩:St))
  exact dn_stop (by simp -implicitDefEqProofs [Z11_L0,dn_cond])
 | k+1,i,out,hi,ho=>by
  have hm:m≠0:=fun h=>by rw [h,Pol.len_zero] at h2; omega
  have hlt:i<a.length:=by omega
  have hci:=hal _ (List.getElem_mem hlt)
  have w4:IntKind.i64.wrap ((i:Int)+1)=((i+1:Nat):Int):=(w64 (x:=(i:Int)+1) (by omega)).trans (by omega)
  have e1:=hfr p m x i h2 hml hx (by omega)
  have hfl:(frIt m (i%(m.len-1)) x).len≤1000:=by
   by_cases hz:i%(m.len-1)=0
   ·rw [hz]; exact hx
   ·obtain ⟨j,hj⟩:=Nat.exists_eq_succ_of_ne_zero hz
    rw [hj]
    have:=frIt_len hm j (pw x p.toNat%m) (Pol.len_mod _ hm)
    show (frIt m j (pw x p.toNat%m)).len≤1000
    omega
  have e2:=hpr p m a[i] (frIt m (i%(m.len-1)) x) hm hml hci hfl
  have hl:=Pol.len_mod (a[i]*frIt m (i%(m.len-1)) x) hm
  have e3:=hco p out (a[i]*frIt m (i%(m.len-1)) x%m) (by omega) (by omega)
  have hl2:=Pol.len_add_le (a:=out) (b:=a[i]*frIt m (i%(m.len-1)) x%m) (n:=64) ho (by omega)
  have ih:=l_value hfr hpr hco h2 hml hx ha hal k (i+1) (out+a[i]*frIt m (i%(m.len-1)) x%m) (by omega) hl2
  have hsv:svI m x i (a.drop i) out=svI m x (i+1) (a.drop (i+1)) (out+a[i]*frIt m (i%(m.len-1)) x%m):=by
   rw [List.drop_eq_getElem_cons hlt]; rfl
  rw [hsv]
  refine dn_round ?_ ih
  generalize row (out+a[i]*frIt m (i%(m.len-1)) x%m)=R1 at *
  generalize row (a[i]*frIt m (i%(m.len-1)) x%m)=R2 at *
  generalize row (frIt m (i%(m.len-1)) x)=R3 at *
  simp -implicitDefEqProofs [Z11_L0,dn_cond,hlt,e1,e2,e3,w4]
def K_value (O:Oracle):Prop:=∀(p:Int) [IsP p] (m x:Fp p) (a:List (Fp p)),2≤m.len→m.len≤64→x.len≤1000→a.length<100000→(∀c∈a,c.len≤1000)→ask O F11 [fldD m,skD a,(D.sl .leaf (ints .i64 (row x)))]=some (D.sl .leaf (ints .i64 (row (svI m x 0 a 0))))
theorem k_value (hT:T F11=some Z11) (hfr:K_frob (den T A)) (hpr:K_product (den T A)) (hco:K_combine2 (den T A)):K_value (den T A):=by
 intro p ip m x a h2 hml hx ha hal
 have e:=l_value (O:=den T A) hfr hpr hco h2 hml hx ha hal a.length 0 0 (Nat.zero_add _) (by rw [Pol.len_zero]; omega)
 have e00:((0:Nat):Int)=0:=rfl
 rw [e00,row_zero,ints_nil,List.drop_zero] at e
 refine ask_of hT rfl ?_
 generalize row (svI m x 0 a 0)=R at *
 simp -implicitDefEqProofs [Z11,Z11_B,e]
def K_letterAction (O:Oracle):Prop:=∀(p:Int) [IsP p] (m g d:Fp p),m≠0→m.len≤64→g.len≤64→d.len≤64→ask O Fa [drD p (pad (row m)) (pad (row g)) (pad (row d))]=some (skD [Pol.X%m,g,d])
theorem k_letterAction (hT:T Fa=some Za) (hfi:K_drField (den T A)) (hle:C_letter (den T A)) (hr:K_rest (den T A)) (hro:K_rowOf (den T A)):K_letterAction (den T A):=by
 intro p ip m g d hm hml hg hd
 have e1:=hfi p m (pad (row g)) (pad (row d)) hml
 have e2:=hle
 unfold C_letter at e2
 have e3:=hr p Pol.X m hm (by rw [Pol.len_X]; omega) (by omega)
 rw [row_X] at e3
 have e4:=hro p g hg
 have e5:=hro p d hd
 have e9:skD [Pol.X%m,g,d]=.sl .leaf [(D.sl .leaf (ints .i64 (row (Pol.X%m)))),(D.sl .leaf (ints .i64 (row g))),(D.sl .leaf (ints .i64 (row d)))]:=rfl
 rw [e9]
 refine ask_of hT rfl ?_
 generalize row (Pol.X%m)=R1 at *
 generalize pad (row m)=Pm at *
 generalize pad (row g)=Pg at *
 generalize pad (row d)=Pd at *
 simp -implicitDefEqProofs [Za,Za_B,e1,e2,e3,e4,e5,List.replicate]
theorem l_drVal {O:Oracle} (hva:K_value O) (hco:K_combine O) {p:Int} [IsP p] {m g d a:Fp p} {z:List Int} (hm:Fld m) (hg:g.len<m.len) (hd:d.len<m.len) (hal:a.len≤64):∀(k i:Nat) (out now:Fp p),i+k=a.len→out.len<m.len→now.len<m.len→∃now':List Int,
 dn O 0 (.loop Z6_L0) ⟨[(6,.ptr 3 []),(9,.ptr 5 []),(10,.d (skD [Pol.X%m,g,d])),(11,(.d (.sl .leaf (ints .i64 (row now))))),(12,(.d (.sl .leaf (ints .i64 (row out))))),(36,(.d (.sl .leaf (ints .i64 (row a))))),(37,(.d (.int .i64 a.len))),(38,(.d (.int .i64 i)))],[.hole,.hole,.hole,.box false (D.arr 64 .leaf (ints .u8 z)),.hole,.box false (fldD m)]⟩ =
  some (.exit 0,⟨[(6,.ptr 3 []),(9,.ptr 5 []),(10,.d (skD [Pol.X%m,g,d])),(11,(.d (.sl .leaf (ints .i64 now')))),(12,(.d (.sl .leaf (ints .i64 (row (dvL m g d (tlC a i) out now)))))),(36,(.d (.sl .leaf (ints .i64 (row a))))),(37,(.d (.int .i64 a.len))),(38,(.d (.int .i64 a.len))),(39,(.d (.bool false)))],[.hole,.hole,.hole,.box false (D.arr 64 .leaf (ints .u8 z)),.hole,.box false (fldD m)]⟩)
 | 0,i,out,now,hi,ho,hn=>by
  obtain rfl:i=a.len:=by omega
  rw [tlC_end]
  refine ⟨row now,?_⟩
  show _=some (_,(⟨[_,_,_,_,(12,(.d (.sl .leaf (ints .i64 (row out))))),_,_,_,_],_⟩:St))
  exact dn_stop (by simp -implicitDefEqProofs [Z6_L0,dn_cond])
 | k+1,i,out,now,hi,ho,hn=>by
  have hp:=IsP.pos (p:=p)
  have hp7:=IsP.le (p:=p)
  have h0:m≠0:=hm.mon.2
  have h5:=hm.five
  have h2:=hm.two
  have hlt:i<a.len:=by omega
  have hlt2:i<(row a).length:=by rw [row_length]; omega
  have hx:(row a)[i]=rep (a.c i):=by rw [←cf_lt hlt2,row_cf]
  have hr:=rep_in (a.c i)
  have w4:IntKind.i64.wrap ((i:Int)+1)=((i+1:Nat):Int):=(w64 (x:=(i:Int)+1) (by omega)).trans (by omega)
  have e1:=hco p (rep (a.c i)) out now (by omega) (by omega) (by omega) (by omega)
  rw [zp_rep] at e1
  have hXl:=Pol.len_mod (Pol.X:Fp p) h0
  have e2:=hva p m now [Pol.X%m,g,d] h2 (by omega) (by omega) (by simp) (by
   intro c hc
   simp at hc
   rcases hc with rfl | rfl | rfl <;> omega)
  rw [svI_6 hm hn] at e2
  have hl:=Pol.len_add_le (a:=out) (b:=Pol.C (a.c i)*now) (n:=m.len-1) (by omega) (Nat.le_trans (Pol.len_le (Pol.lt_Cmul _ now.lt_len)) (by omega))
  obtain ⟨now',ih⟩:=l_drVal hva hco (z:=z) hm hg hd hal k (i+1) (out+Pol.C (a.c i)*now) (sv6 m g d now) (by omega) (by omega) (sv6_len h0)
  rw [tlC_cons a hlt]
  refine ⟨now',dn_round ?_ ih⟩
  generalize row (out+Pol.C (a.c i)*now)=R1 at *
  generalize row (sv6 m g d now)=R2 at *
  generalize row (Pol.X%m)=R3 at *
  simp -implicitDefEqProofs [Z6_L0,dn_cond,hlt,hx,e1,e2,w4]
noncomputable def drVal {p:Int} [IsP p] (m g d a x:Fp p):Fp p:=dvL m g d (tlC a 0) 0 (x%m)
open Classical in
noncomputable def drValD (n:Int) (u v w a x:List Int):D:=
 if h:IsDr n u v w∧isPl n a=true∧isPl n x=true then
  haveI:IsP n:=h.1.choose
  .tup [(D.arr 64 .leaf (ints .u8 (pad (row (drVal (polOf n u) (polOf n v) (polOf n w) (polOf n a) (polOf n x)))))),(D.int .i64 0)]
 else .tup [(D.arr 64 .leaf (ints .u8 (pad []))),(D.int .i64 1)]
theorem drValD_bad {n:Int} {u v w a x:List Int} (h:¬ (IsDr n u v w∧isPl n a=true∧isPl n x=true)):drValD n u v w a x=.tup [(D.arr 64 .leaf (ints .u8 (pad []))),(D.int .i64 1)]:=by
 unfold drValD
 rw [dif_neg h]
theorem drValD_good {p:Int} [IsP p] {m g d a x:Fp p} (h:IsDr p (pad (row m)) (pad (row g)) (pad (row d))) (hm:m.len≤64) (hg:g.len≤64) (hd:d.len≤64) (ha:a.len≤64) (hx:x.len≤64) :
 drValD p (pad (row m)) (pad (row g)) (pad (row d)) (pad (row a)) (pad (row x))=.tup [(D.arr 64 .leaf (ints .u8 (pad (row (drVal m g d a x))))),(D.int .i64 0)]:=by
 unfold drValD
 rw [dif_pos ⟨h,isPl_row,isPl_row⟩,polOf_pad hm,polOf_pad hg,polOf_pad hd,polOf_pad ha,polOf_pad hx]
theorem codeDr_one2 {n:Int} {u v w a x:List Int} (h:¬ (IsDr n u v w∧isPl n a=true∧isPl n x=true)):codeDr n u v w [a,x]=1:=by
 unfold codeDr
 rw [if_neg]
 rintro ⟨h1,h2⟩
 simp at h2
 exact h ⟨h1,h2⟩
theorem codeDr_zero2 {n:Int} {u v w a x:List Int} (h1:IsDr n u v w) (h2:isPl n a=true) (h3:isPl n x=true):codeDr n u v w [a,x]=0:=by
 unfold codeDr
 rw [if_pos ⟨h1,by simp [h2,h3]⟩]
theorem drVal_len {p:Int} [IsP p] {m g d a x:Fp p} (hm:m≠0):(drVal m g d a x).len<m.len:=
 dvL_len hm _ _ _ (by rw [Pol.len_zero]; exact Pol.len_pos hm) (Pol.len_mod _ hm)
def K_DrVal (O:Oracle) (F:Nat):Prop:=∀(n:Int) (u v w a x:List Int),Bytes u→u.length=64→Bytes v→v.length=64→Bytes w→w.length=64→Bytes a→a.length=64→Bytes x→x.length=64→ask O F [drD n u v w,(D.arr 64 .leaf (ints .u8 a)),(D.arr 64 .leaf (ints .u8 x))]=some (drValD n u v w a x)
theorem k_DrVal (hT:T F6=some Z6) (hcd:C_drCode (den T A) Fr) (hfi:K_drField (den T A)) (hla:K_letterAction (den T A)) (hro:K_rowOf (den T A)) (hr:K_rest (den T A)) (hva:K_value (den T A)) (hco:K_combine (den T A)) (hto:C_told (den T A)):K_DrVal (den T A) F6:=by
 intro n u v w a x bu gu bv gv bw gw ba ga bx gx
 have e1:=hcd n u v w [a,x] bu gu bv gv bw gw (by intro y hy; simp at hy; rcases hy with rfl | rfl <;> exact ⟨by assumption,by assumption⟩) (by simp)
 rw [show List.map arr8 [a,x]=[(D.arr 64 .leaf (ints .u8 a)),(D.arr 64 .leaf (ints .u8 x))] from rfl] at e1
 refine ask_of hT rfl ?_
 by_cases h:IsDr n u v w∧isPl n a=true∧isPl n x=true
 ·obtain ⟨h1,h2,h3⟩:=h
  rw [codeDr_zero2 h1 h2 h3] at e1
  have h1':=h1
  obtain ⟨ip,m,g,d,rfl,rfl,rfl,hm,hg,hd,hd0⟩:=h1
  obtain ⟨b,hbl,rfl⟩:=row_of_isPl ba ga h2
  obtain ⟨y,hyl,rfl⟩:=row_of_isPl bx gx h3
  have h5:=hm.five
  have h0:m≠0:=hm.mon.2
  rw [drValD_good h1' (by omega) (by omega) (by omega) hbl hyl]
  have e2:=hfi n m (pad (row g)) (pad (row d)) (by omega)
  have e3:=hla n m g d h0 (by omega) (by omega) (by omega)
  have e4:=hro n y hyl
  have e5:=hr n y m h0 (by omega) (by omega)
  have e6:=hro n b hbl
  obtain ⟨now',e7⟩:=l_drVal (O:=den T A) (z:=pad []) hva hco hm hg hd hbl b.len 0 0 (y%m) (Nat.zero_add _) (by rw [Pol.len_zero]; exact Pol.len_pos h0) (Pol.len_mod _ h0)
  have e00:((0:Nat):Int)=0:=rfl
  have e01:dvL m g d (tlC b 0) 0 (y%m)=drVal m g d b y:=rfl
  rw [e00,e01,row_zero,ints_nil] at e7
  have hvl:=drVal_len (g:=g) (d:=d) (a:=b) (x:=y) h0
  have e8:=hto (row (drVal m g d b y)) (row_bytes _) (by rw [row_length]; omega)
  unfold toldD at e8
  rw [if_pos (by rw [row_length]; omega)] at e8
  generalize row (drVal m g d b y)=R1 at *
  generalize row (y%m)=R2 at *
  generalize row (Pol.X%m)=R3 at *
  generalize pad (row m)=Pm at *
  generalize pad (row g)=Pg at *
  generalize pad (row d)=Pd at *
  generalize pad (row b)=Pb at *
  generalize pad (row y)=Py at *
  simp -implicitDefEqProofs [Z6,Z6_B,dn_cond,e1,e2,e3,e4,e5,e6,e7,e8,List.replicate]
 ·rw [codeDr_one2 h] at e1
  rw [drValD_bad h]
  simp -implicitDefEqProofs [Z6,Z6_B,dn_cond,e1,List.replicate]
theorem l_sVal6 {O:Oracle} (hdg:K_sDeg O) (ha:K_sAdd O) (hup:K_sUp6 O) (hT:K_sT O) (hmo:K_sMod O) (hti:K_sTimes6 O) {p:Int} [IsP p] {m g d a:Fp p} {z:List Int} (hm:m≠0) (hml:m.len≤64) (hg:g.len<m.len) (hd:d.len<m.len) (hal:a.len≤64):∀(k i:Nat) (out now:Fp p),i+k=a.len→out.len<m.len→now.len<m.len→∃now':List Int,
 dn O 0 (.loop Z4l_L0) ⟨[(3,.ptr 0 []),(4,.ptr 1 []),(6,.ptr 3 []),(7,.ptr 4 []),(8,.ptr 5 []),(9,(.d (.int .i64 p))),(10,(.d (.int .i64 i)))],[.box false (drD p (pad (row m)) (pad (row g)) (pad (row d))),.box false (D.arr 64 .leaf (ints .u8 (pad (row a)))),.hole,.box false (D.arr 64 .leaf (ints .u8 z)),.box false (D.arr 64 .leaf (ints .u8 (pad (row out)))),.box false (D.arr 64 .leaf (ints .u8 (pad (row now)))),.hole,.hole,.hole]⟩ =
  some (.exit 0,⟨[(3,.ptr 0 []),(4,.ptr 1 []),(6,.ptr 3 []),(7,.ptr 4 []),(8,.ptr 5 []),(9,(.d (.int .i64 p))),(10,(.d (.int .i64 a.len))),(26,(.d (.bool false)))],[.box false (drD p (pad (row m)) (pad (row g)) (pad (row d))),.box false (D.arr 64 .leaf (ints .u8 (pad (row a)))),.hole,.box false (D.arr 64 .leaf (ints .u8 z)),.box false (D.arr 64 .leaf (ints .u8 (pad (row (dvL m g d (tlC a i) out now))))),.box false (D.arr 64 .leaf (ints .u8 now')),.hole,.hole,.hole]⟩)
 | 0,i,out,now,hi,ho,hn=>by
  obtain rfl:i=a.len:=by omega
  rw [tlC_end]
  have e1:=hdg p a hal
  have hlt:¬ ((a.len:Int)≤(a.len:Int)-1):=by omega
  refine ⟨pad (row now),?_⟩
  show _=some (_,(⟨_,[_,_,_,_,.box false (D.arr 64 .leaf (ints .u8 (pad (row out)))),_,_,_,_]⟩:St))
  refine dn_stop ?_
  generalize pad (row m)=Pm at *
  generalize pad (row g)=Pg at *
  generalize pad (row d)=Pd at *
  generalize pad (row a)=Pa at *
  generalize pad (row out)=Po at *
  generalize pad (row now)=Pn at *
  generalize (a.len:Int)-1=m1 at *
  simp -implicitDefEqProofs [Z4l_L0,dn_cond,e1,hlt]
 | k+1,i,out,now,hi,ho,hn=>by
  have hp:=IsP.pos (p:=p)
  have hp7:=IsP.le (p:=p)
  have hlt:i<a.len:=by omega
  have hi64:i<64:=by omega
  have e0:=hdg p a hal
  rw [show ((a.len:Int)-1)=((a.len-1:Nat):Int) by omega] at e0
  have hle:(i:Int)≤((a.len-1:Nat):Int):=by omega
  have hx:(pad (row a))[i]? = some (rep (a.c i)):=by rw [pad_get _ _ hi64,row_cf]
  have hr:=rep_in (a.c i)
  have w1:IntKind.i64.wrap (rep (a.c i))=rep (a.c i):=w64 (by omega)
  have w4:IntKind.i64.wrap ((i:Int)+1)=((i+1:Nat):Int):=(w64 (x:=(i:Int)+1) (by omega)).trans (by omega)
  have e1:=ha p (rep (a.c i)) out now (by omega) (by omega) (by omega) (by omega)
  rw [zp_rep] at e1
  have e2:=hup p m now (pad (row g)) (pad (row d)) 1 hm hml (by omega) (by omega)
  have e3:=hup p m now (pad (row g)) (pad (row d)) 2 hm hml (by omega) (by omega)
  have e01:((1:Nat):Int)=1:=rfl
  have e02:((2:Nat):Int)=2:=rfl
  rw [e01] at e2
  rw [e02] at e3
  have e4:=hT p
  have e5:=hmo p Pol.X m hm (by rw [Pol.len_X]; omega) hml
  have hXl:=Pol.len_mod (Pol.X:Fp p) hm
  have e6:=hti p m (Pol.X%m) now (pad (row g)) (pad (row d)) hm hml (by omega) (by omega)
  have hf1:=frIt_len hm 1 now hn
  have hf2:=frIt_len hm 2 now hn
  have e7:=hti p m g (frIt m 1 now) (pad (row g)) (pad (row d)) hm hml (by omega) (by omega)
  have e8:=hti p m d (frIt m 2 now) (pad (row g)) (pad (row d)) hm hml (by omega) (by omega)
  have l6:=Pol.len_mod (Pol.X%m*now) hm
  have l7:=Pol.len_mod (g*frIt m 1 now) hm
  have l8:=Pol.len_mod (d*frIt m 2 now) hm
  have e9:=ha p 1 (Pol.X%m*now%m) (g*frIt m 1 now%m) (by omega) (by omega) (by omega) (by omega)
  have l9:=Pol.len_add_le (a:=Pol.X%m*now%m) (b:=g*frIt m 1 now%m) (n:=m.len-1) (by omega) (by omega)
  have e10:=ha p 1 (Pol.X%m*now%m+g*frIt m 1 now%m) (d*frIt m 2 now%m) (by omega) (by omega) (by omega) (by omega)
  rw [zp_one,Pol.C_one,Gq.one_mul] at e9 e10
  have e11:Pol.X%m*now%m+g*frIt m 1 now%m+d*frIt m 2 now%m=sv6 m g d now:=rfl
  rw [e11] at e10
  have hl:=Pol.len_add_le (a:=out) (b:=Pol.C (a.c i)*now) (n:=m.len-1) (by omega) (Nat.le_trans (Pol.len_le (Pol.lt_Cmul _ now.lt_len)) (by omega))
  obtain ⟨now',ih⟩:=l_sVal6 hdg ha hup hT hmo hti (z:=z) hm hml hg hd hal k (i+1) (out+Pol.C (a.c i)*now) (sv6 m g d now) (by omega) (by omega) (sv6_len hm)
  rw [tlC_cons a hlt]
  refine ⟨now',dn_round ?_ ih⟩
  generalize pad (row (out+Pol.C (a.c i)*now))=P1 at *
  generalize pad (row (sv6 m g d now))=P2 at *
  generalize pad (row (Pol.X%m*now%m+g*frIt m 1 now%m))=P3 at *
  generalize pad (row (Pol.X%m*now%m))=P4 at *
  generalize pad (row (g*frIt m 1 now%m))=P5 at *
  generalize pad (row (d*frIt m 2 now%m))=P6 at *
  generalize pad (row (frIt m 1 now))=P7 at *
  generalize pad (row (frIt m 2 now))=P8 at *
  generalize pad (row (Pol.X%m))=P9 at *
  generalize pad (row (Pol.X:Fp p))=PX at *
  generalize pad (row m)=Pm at *
  generalize pad (row g)=Pg at *
  generalize pad (row d)=Pd at *
  generalize pad (row a)=Pa at *
  generalize pad (row out)=Po at *
  generalize pad (row now)=Pn at *
  generalize ((a.len-1:Nat):Int)=m1 at *
  simp -implicitDefEqProofs [Z4l_L0,dn_cond,hle,hi64,hx,w1,w4,e0,e1,e2,e3,e4,e5,e6,e7,e8,e9,e10]
def K_sVal6 (O:Oracle):Prop:=∀(p:Int) [IsP p] (m g d a x:Fp p),m≠0→m.len≤64→g.len<m.len→d.len<m.len→a.len≤64→x.len≤64→ask O F4l [drD p (pad (row m)) (pad (row g)) (pad (row d)),(D.arr 64 .leaf (ints .u8 (pad (row a)))),(D.arr 64 .leaf (ints .u8 (pad (row x))))]=some (D.arr 64 .leaf (ints .u8 (pad (row (drVal m g d a x)))))
theorem k_sVal6 (hT:T F4l=some Z4l) (hdg:K_sDeg (den T A)) (ha:K_sAdd (den T A)) (hup:K_sUp6 (den T A)) (ht:K_sT (den T A)) (hmo:K_sMod (den T A)) (hti:K_sTimes6 (den T A)):K_sVal6 (den T A):=by
 intro p ip m g d a x hm hml hg hd hal hx
 have e1:=hmo p x m hm hx hml
 obtain ⟨now',e2⟩:=l_sVal6 (O:=den T A) (z:=pad []) hdg ha hup ht hmo hti hm hml hg hd hal a.len 0 0 (x%m) (Nat.zero_add _) (by rw [Pol.len_zero]; exact Pol.len_pos hm) (Pol.len_mod _ hm)
 have e00:((0:Nat):Int)=0:=rfl
 have e01:dvL m g d (tlC a 0) 0 (x%m)=drVal m g d a x:=rfl
 rw [e00,e01,row_zero] at e2
 refine ask_of hT rfl ?_
 generalize pad (row (drVal m g d a x))=R1 at *
 generalize pad (row (x%m))=R2 at *
 generalize pad (row m)=Pm at *
 generalize pad (row g)=Pg at *
 generalize pad (row d)=Pd at *
 generalize pad (row a)=Pa at *
 generalize pad (row x)=Px at *
 simp -implicitDefEqProofs [Z4l,Z4l_B,e1,e2,List.replicate]
theorem k_sDrVal (hT:T F37=some Z37) (hcd:C_drCode (den T A) F48) (hv:K_sVal6 (den T A)):K_DrVal (den T A) F37:=by
 intro n u v w a x bu gu bv gv bw gw ba ga bx gx
 have e1:=hcd n u v w [a,x] bu gu bv gv bw gw (by intro y hy; simp at hy; rcases hy with rfl | rfl <;> exact ⟨by assumption,by assumption⟩) (by simp)
 rw [show List.map arr8 [a,x]=[(D.arr 64 .leaf (ints .u8 a)),(D.arr 64 .leaf (ints .u8 x))] from rfl] at e1
 refine ask_of hT rfl ?_
 by_cases h:IsDr n u v w∧isPl n a=true∧isPl n x=true
 ·obtain ⟨h1,h2,h3⟩:=h
  rw [codeDr_zero2 h1 h2 h3] at e1
  have h1':=h1
  obtain ⟨ip,m,g,d,rfl,rfl,rfl,hm,hg,hd,hd0⟩:=h1
  obtain ⟨b,hbl,rfl⟩:=row_of_isPl ba ga h2
  obtain ⟨y,hyl,rfl⟩:=row_of_isPl bx gx h3
  have h5:=hm.five
  rw [drValD_good h1' (by omega) (by omega) (by omega) hbl hyl]
  have e2:=hv n m g d b y hm.mon.2 (by omega) hg hd hbl hyl
  generalize pad (row (drVal m g d b y))=R1 at *
  generalize pad (row m)=Pm at *
  generalize pad (row g)=Pg at *
  generalize pad (row d)=Pd at *
  generalize pad (row b)=Pb at *
  generalize pad (row y)=Py at *
  simp -implicitDefEqProofs [Z37,Z37_B,dn_cond,e1,e2,List.replicate]
 ·rw [codeDr_one2 h] at e1
  rw [drValD_bad h]
  simp -implicitDefEqProofs [Z37,Z37_B,dn_cond,e1,List.replicate]
end Pe


namespace Pe
open Go Gq
variable {T:Nat→Option Fn} {A:Oracle}
theorem fn_isRes {p:Int} [IsP p] {m:Fp p} {ls:List (List Int)} (hm:m.len≤64) (h:Arrs ls) (hi:C_isRes (den T A)):∃P:D→Bool,(∀l∈ls,P (arr8 l)=true↔IsRes m l)∧FnBool (den T A) Fx [fldD m] [] (ls.map arr8) P:=by
 classical
 refine ⟨fun x=>decide (IsRes m x.nums),fun l hl=>by show decide (IsRes m (arr8 l).nums)=true↔_; rw [nums_arr8]; simp,fun x hx=>by simp at hx; subst hx; rfl,fun x hx=>by simp at hx,fun x hx=>?_,fun x hx=>?_⟩
 ·obtain ⟨n,_,rfl⟩:=List.mem_map.1 hx; rfl
 ·obtain ⟨l,hl,rfl⟩:=List.mem_map.1 hx
  have e:=hi p m l hm (h l hl).2 (h l hl).1
  show ask (den T A) _ _=some (.bool (decide (IsRes m (arr8 l).nums)))
  rw [nums_arr8]
  exact e
def IsSk {p:Int} [IsP p] (m:Fp p) (ls:List (List Int)):Prop:=∀l∈ls,IsRes m l
end Pe

namespace Pe
open Go Gq
variable {T:Nat→Option Fn} {A:Oracle}
end Pe

namespace Pe
open Go Gq
variable {T:Nat→Option Fn} {A:Oracle}
section
variable {p:Int}
open Classical in
noncomputable def stl (S:List (Fp p)):Nat→Nat
 | 0=>0
 | n+1=>if S[n]? = some 0 then stl S n else n+1
noncomputable def trimS (S:List (Fp p)):List (Fp p):=S.take (stl S S.length)
theorem stl_le (S:List (Fp p)):∀n,stl S n≤n
 | 0=>Nat.le_refl 0
 | n+1=>by
  unfold stl
  split
  ·have:=stl_le S n; omega
  ·omega
theorem stl_zero (S:List (Fp p)):∀n j,stl S n≤j→j<n→S[j]? = some 0
 | 0,j,_,h=>by omega
 | n+1,j,h1,h2=>by
  unfold stl at h1
  split at h1
  ·rename_i h0
   by_cases hj:j=n
   ·rw [hj]; exact h0
   ·exact stl_zero S n j h1 (by omega)
  ·omega
end
section
variable {p:Int} [IsP p]
theorem svI_zeros {m x:Fp p} (hm:m≠0):∀(i:Nat) (S:List (Fp p)) (out:Fp p),(∀a∈S,a=0)→svI m x i S out=out
 | _,[],_,_=>rfl
 | i,c::cs,out,h=>by
  have hc:=h c (by simp)
  subst hc
  show svI m x (i+1) cs (out+0*frIt m (i%(m.len-1)) x%m)=out
  rw [Gq.zero_mul,Pol.zero_mod hm,Gq.add_zero]
  exact svI_zeros hm (i+1) cs out fun a ha=>h a (by simp [ha])
theorem svI_append {m x:Fp p}:∀(i:Nat) (S R:List (Fp p)) (out:Fp p),svI m x i (S++R) out=svI m x (i+S.length) R (svI m x i S out)
 | _,[],_,_=>rfl
 | i,c::cs,R,out=>by
  show svI m x (i+1) (cs++R) _=svI m x (i+(cs.length+1)) R (svI m x (i+1) cs _)
  rw [svI_append (i+1) cs R,show i+(cs.length+1)=i+1+cs.length by omega]
theorem svI_trim {m x:Fp p} (hm:m≠0) (S:List (Fp p)):svI m x 0 (trimS S) 0=svI m x 0 S 0:=by
 have e:=svI_append (m:=m) (x:=x) 0 (S.take (stl S S.length)) (S.drop (stl S S.length)) 0
 rw [List.take_append_drop] at e
 have hz:∀a∈S.drop (stl S S.length),a=0:=by
  intro a ha
  obtain ⟨j,hj,rfl⟩:=List.getElem_of_mem ha
  rw [List.length_drop] at hj
  have:=stl_zero S S.length (stl S S.length+j) (by omega) (by omega)
  rw [List.getElem_drop]
  rw [List.getElem?_eq_getElem (by omega)] at this
  exact Option.some.inj this
 rw [e,svI_zeros hm _ _ _ hz]
 rfl
end
theorem l_sktrim {O:Oracle} {p:Int} [IsP p] {S:List (Fp p)} (hS:S.length<100000):∀n:Nat,n≤S.length →
 dn O 0 (.loop Z22_L0) ⟨[(0,.d (skD S)),(3,(.d (.int .i64 n)))],[]⟩=some (.exit 0,⟨[(0,.d (skD S)),(3,(.d (.int .i64 (stl S n)))),(16,(.d (.bool false)))],[]⟩)
 | 0,_=>dn_stop (by simp -implicitDefEqProofs [Z22_L0,dn_cond,stl])
 | n+1,hn=>by
  have hlt:n<S.length:=by omega
  have w1:IntKind.i64.wrap (((n+1:Nat):Int)-1)=(n:Int):=(w64 (x:=((n+1:Nat):Int)-1) (by omega)).trans (by omega)
  have h0:(0:Int)<((n+1:Nat):Int):=by omega
  unfold stl
  by_cases hz:S[n]? = some 0
  ·rw [if_pos hz]
   rw [List.getElem?_eq_getElem hlt] at hz
   have hz':S[n]=0:=Option.some.inj hz
   have hlen:(S[n]).len=0:=by rw [hz',Pol.len_zero]
   refine dn_round ?_ (l_sktrim hS n (by omega))
   generalize ((n+1:Nat):Int)=n1 at *
   simp -implicitDefEqProofs [Z22_L0,dn_cond,hlt,w1,h0,hlen]
  ·rw [if_neg hz]
   rw [List.getElem?_eq_getElem hlt] at hz
   have hlen:(S[n]).len≠0:=fun h=>hz (by rw [Pol.len_zero_iff.1 h])
   refine dn_stop ?_
   generalize ((n+1:Nat):Int)=n1 at *
   simp -implicitDefEqProofs [Z22_L0,dn_cond,hlt,w1,h0,hlen]
def K_sktrim (O:Oracle):Prop:=∀(p:Int) [IsP p] (S:List (Fp p)),S.length<100000→ask O F22 [skD S]=some (skD (trimS S))
theorem k_sktrim (hT:T F22=some Z22):K_sktrim (den T A):=by
 intro p ip S hS
 have e:=l_sktrim (O:=den T A) hS S.length (Nat.le_refl _)
 have hle:=stl_le S S.length
 have hL:(S.map fun c=>(D.sl .leaf (ints .i64 (row c)))).length=S.length:=List.length_map ..
 have e9:skD (trimS S)=.sl .leaf ((S.map fun c=>(D.sl .leaf (ints .i64 (row c)))).take (stl S S.length)):=by unfold trimS; rw [←List.map_take]
 have e8:skD S=.sl .leaf (S.map fun c=>(D.sl .leaf (ints .i64 (row c)))):=rfl
 rw [e9]
 rw [e8] at e ⊢
 refine ask_of hT rfl ?_
 generalize stl S S.length=n at *
 generalize (S.map fun c=>(D.sl .leaf (ints .i64 (row c))))=LD at *
 generalize S.length=sl at *
 subst hL
 simp -implicitDefEqProofs [Z22,Z22_B,e,hle]
noncomputable abbrev skP {p:Int} (S:List (Fp p)):List (List Int):=S.map fun a=>pad (row a)
end Pe

namespace Pe
open Go Gq
variable {T:Nat→Option Fn} {A:Oracle}
theorem map_polOf {p:Int} {S:List (Fp p)} (hS:∀a∈S,a.len≤64):(skP S).map (polOf p)=S:=by
 unfold skP
 rw [List.map_map]
 conv=>rhs; rw [←List.map_id S]
 exact List.map_congr_left fun a ha=>polOf_pad (hS a ha)
end Pe

namespace Pe
open Go Gq
variable {T:Nat→Option Fn} {A:Oracle}
section
variable {p:Int}
noncomputable def addAt (Q:List (Fp p)) (n:Nat) (v:Fp p):List (Fp p):=Q.set n ((Q[n]?).getD 0+v)
theorem addAt_length (Q:List (Fp p)) (n:Nat) (v:Fp p):(addAt Q n v).length=Q.length:=by unfold addAt; rw [List.length_set]
end
section
variable {p:Int} [IsP p]
noncomputable def byIn (m x:Fp p) (i:Nat):Nat→List (Fp p)→List (Fp p)→List (Fp p)
 | _,[],Q=>Q
 | k,y::ys,Q=>byIn m x i (k+1) ys (addAt Q (i+k) (x*frIt m (i%(m.len-1)) y%m))
noncomputable def byOut (m:Fp p) (b:List (Fp p)):Nat→List (Fp p)→List (Fp p)→List (Fp p)
 | _,[],Q=>Q
 | i,x::xs,Q=>byOut m b (i+1) xs (byIn m x i 0 b Q)
theorem byIn_length (m x:Fp p) (i:Nat):∀(k:Nat) (b Q:List (Fp p)),(byIn m x i k b Q).length=Q.length
 | _,[],_=>rfl
 | k,y::ys,Q=>by
  show (byIn m x i (k+1) ys (addAt Q (i+k) _)).length=_
  rw [byIn_length,addAt_length]
theorem byOut_length (m:Fp p) (b:List (Fp p)):∀(i:Nat) (a Q:List (Fp p)),(byOut m b i a Q).length=Q.length
 | _,[],_=>rfl
 | i,x::xs,Q=>by
  show (byOut m b (i+1) xs (byIn m x i 0 b Q)).length=_
  rw [byOut_length,byIn_length]
end
end Pe

namespace Pe
open Go Gq
variable {T:Nat→Option Fn} {A:Oracle}
theorem frIt_1000 {p:Int} [IsP p] {m y:Fp p} (hm:m≠0) (hml:m.len≤64) (hy:y.len≤64) (k:Nat):(frIt m k y).len≤64:=by
 cases k with
 | zero=>exact hy
 | succ k=>
  have:=frIt_len hm k (pw y p.toNat%m) (Pol.len_mod _ hm)
  show (frIt m k (pw y p.toNat%m)).len≤64
  omega
theorem l_by0 {O:Oracle} (hfr:K_frob O) (hpr:K_product O) (hco:K_combine2 O) {p:Int} [IsP p] {m x:Fp p} {a b:List (Fp p)} (h2:2≤m.len) (hml:m.len≤64) (hx:x.len≤64) (hb:∀c∈b,c.len≤64) {N i:Nat} (hN:N<100000) (hi:i+b.length≤N) {cp:Option Nat}:∀(r k:Nat) (Q:List (Fp p)),k+r=b.length→Q.length=N→(∀c∈Q,c.len≤64) →
 (∀c∈byIn m x i k (b.drop k) Q,c.len≤64) ∧
 dn O 0 (.loop Zu_L0) ⟨[(2,.d (skD b)),(3,.ptr 0 []),(7,.sl 1 [] 0 N cp),(8,(.d (.int .i64 i))),(9,(.d (.sl .leaf (ints .i64 (row x))))),(27,.d (skD a)),(28,(.d (.int .i64 a.length))),(29,(.d (.int .i64 i))),(34,.d (skD b)),(35,(.d (.int .i64 b.length))),(36,(.d (.int .i64 k)))],[.box false (fldD m),.sl false .leaf (Q.map fun c=>(D.sl .leaf (ints .i64 (row c))))]⟩ =
  some (.exit 2,⟨[(2,.d (skD b)),(3,.ptr 0 []),(7,.sl 1 [] 0 N cp),(8,(.d (.int .i64 i))),(9,(.d (.sl .leaf (ints .i64 (row x))))),(27,.d (skD a)),(28,(.d (.int .i64 a.length))),(29,(.d (.int .i64 i))),(34,.d (skD b)),(35,(.d (.int .i64 b.length))),(36,(.d (.int .i64 b.length))),(37,(.d (.bool false)))],[.box false (fldD m),.sl false .leaf ((byIn m x i k (b.drop k) Q).map fun c=>(D.sl .leaf (ints .i64 (row c))))]⟩)
 | 0,k,Q,hk,hq,hQ=>by
  obtain rfl:k=b.length:=by omega
  rw [List.drop_length]
  refine ⟨hQ,dn_stop ?_⟩
  show _=some (_,(⟨_,[_,.sl false .leaf (Q.map fun c=>(D.sl .leaf (ints .i64 (row c))))]⟩:St))
  generalize (Q.map fun c=>(D.sl .leaf (ints .i64 (row c))))=LQ at *
  simp -implicitDefEqProofs [Zu_L0,dn_cond]
 | r+1,k,Q,hk,hq,hQ=>by
  have hm:m≠0:=fun h=>by rw [h,Pol.len_zero] at h2; omega
  have hlt:k<b.length:=by omega
  have hm1:=List.getElem_mem hlt
  have hbk:=hb _ hm1
  have hik:i+k<N:=by omega
  have hikQ:i+k<Q.length:=by omega
  have hq1:=hQ _ (List.getElem_mem hikQ)
  have w0:IntKind.i64.wrap ((i:Int)+k)=((i+k:Nat):Int):=(w64 (x:=(i:Int)+k) (by omega)).trans (by omega)
  have hs0:(0:Int)≤(i:Int)+k:=by omega
  have hs1:((i:Int)+k).toNat=i+k:=by omega
  have w4:IntKind.i64.wrap ((k:Int)+1)=((k+1:Nat):Int):=(w64 (x:=(k:Int)+1) (by omega)).trans (by omega)
  have e1:=hfr p m b[k] i h2 hml (by omega) (by omega)
  have hfl:=frIt_1000 hm hml hbk (i%(m.len-1))
  have e2:=hpr p m x (frIt m (i%(m.len-1)) b[k]) hm hml (by omega) (by omega)
  have hl:=Pol.len_mod (x*frIt m (i%(m.len-1)) b[k]) hm
  have e3:=hco p Q[i+k] (x*frIt m (i%(m.len-1)) b[k]%m) (by omega) (by omega)
  have hl2:=Pol.len_add_le (a:=Q[i+k]) (b:=x*frIt m (i%(m.len-1)) b[k]%m) (n:=64) hq1 (by omega)
  have hadd:addAt Q (i+k) (x*frIt m (i%(m.len-1)) b[k]%m)=Q.set (i+k) (Q[i+k]+x*frIt m (i%(m.len-1)) b[k]%m):=by
   unfold addAt; rw [List.getElem?_eq_getElem hikQ]; rfl
  have hQ':∀c∈addAt Q (i+k) (x*frIt m (i%(m.len-1)) b[k]%m),c.len≤64:=fun c hc=>by
   rw [hadd] at hc
   rcases List.mem_or_eq_of_mem_set hc with h | rfl
   ·exact hQ c h
   ·exact hl2
  obtain ⟨g1,ih⟩:=l_by0 hfr hpr hco (a:=a) h2 hml hx hb hN hi (cp:=cp) r (k+1) (addAt Q (i+k) (x*frIt m (i%(m.len-1)) b[k]%m)) (by omega) (by rw [addAt_length]; exact hq) hQ'
  have hby:byIn m x i k (b.drop k) Q=byIn m x i (k+1) (b.drop (k+1)) (addAt Q (i+k) (x*frIt m (i%(m.len-1)) b[k]%m)):=by
   rw [List.drop_eq_getElem_cons hlt]; rfl
  rw [hby]
  refine ⟨g1,dn_round ?_ ih⟩
  have hset:((addAt Q (i+k) (x*frIt m (i%(m.len-1)) b[k]%m)).map fun c=>(D.sl .leaf (ints .i64 (row c))))=(Q.map fun c=>(D.sl .leaf (ints .i64 (row c)))).set (i+k) (D.sl .leaf (ints .i64 (row (Q[i+k]+x*frIt m (i%(m.len-1)) b[k]%m)))):=by
   rw [hadd,List.map_set]
  rw [hset]
  have hLQ:(Q.map fun c=>(D.sl .leaf (ints .i64 (row c)))).length=N:=by rw [List.length_map]; exact hq
  have hx2:∀h:i+k<(Q.map fun c=>(D.sl .leaf (ints .i64 (row c)))).length,(Q.map fun c=>(D.sl .leaf (ints .i64 (row c))))[i+k]'h=(D.sl .leaf (ints .i64 (row Q[i+k]))):=fun h=>by rw [List.getElem_map]
  generalize row (Q[i+k]+x*frIt m (i%(m.len-1)) b[k]%m)=R1 at *
  generalize row (x*frIt m (i%(m.len-1)) b[k]%m)=R2 at *
  generalize row (frIt m (i%(m.len-1)) b[k])=R3 at *
  generalize row Q[i+k]=R4 at *
  generalize (Q.map fun c=>(D.sl .leaf (ints .i64 (row c))))=LQ at *
  simp -implicitDefEqProofs [Zu_L0,dn_cond,hlt,hik,hs0,hs1,hLQ,hx2,e1,e2,e3,w0,w4]
theorem l_by1 {O:Oracle} (hfr:K_frob O) (hpr:K_product O) (hco:K_combine2 O) {p:Int} [IsP p] {m:Fp p} {a b:List (Fp p)} (h2:2≤m.len) (hml:m.len≤64) (ha:∀c∈a,c.len≤64) (hb:∀c∈b,c.len≤64) {N:Nat} (hN:N<100000) (hab:a.length+b.length≤N+1) (hb1:1≤b.length) {cp:Option Nat}:∀(r i:Nat) (Q:List (Fp p)),i+r=a.length→Q.length=N→(∀c∈Q,c.len≤64) →
 (∀c∈byOut m b i (a.drop i) Q,c.len≤64) ∧
 dn O 0 (.loop Zu_L1) ⟨[(2,.d (skD b)),(3,.ptr 0 []),(7,.sl 1 [] 0 N cp),(27,.d (skD a)),(28,(.d (.int .i64 a.length))),(29,(.d (.int .i64 i)))],[.box false (fldD m),.sl false .leaf (Q.map fun c=>(D.sl .leaf (ints .i64 (row c))))]⟩ =
  some (.exit 0,⟨[(2,.d (skD b)),(3,.ptr 0 []),(7,.sl 1 [] 0 N cp),(27,.d (skD a)),(28,(.d (.int .i64 a.length))),(29,(.d (.int .i64 a.length))),(30,(.d (.bool false)))],[.box false (fldD m),.sl false .leaf ((byOut m b i (a.drop i) Q).map fun c=>(D.sl .leaf (ints .i64 (row c))))]⟩)
 | 0,i,Q,hi,hq,hQ=>by
  obtain rfl:i=a.length:=by omega
  rw [List.drop_length]
  refine ⟨hQ,dn_stop ?_⟩
  show _=some (_,(⟨_,[_,.sl false .leaf (Q.map fun c=>(D.sl .leaf (ints .i64 (row c))))]⟩:St))
  generalize (Q.map fun c=>(D.sl .leaf (ints .i64 (row c))))=LQ at *
  simp -implicitDefEqProofs [Zu_L1,dn_cond]
 | r+1,i,Q,hi,hq,hQ=>by
  have hlt:i<a.length:=by omega
  have hm1:=List.getElem_mem hlt
  have w4:IntKind.i64.wrap ((i:Int)+1)=((i+1:Nat):Int):=(w64 (x:=(i:Int)+1) (by omega)).trans (by omega)
  obtain ⟨g1,e1⟩:=l_by0 hfr hpr hco (a:=a) h2 hml (ha _ hm1) hb hN (i:=i) (by omega) (cp:=cp) b.length 0 Q (Nat.zero_add _) hq hQ
  have e00:((0:Nat):Int)=0:=rfl
  rw [e00,List.drop_zero] at e1
  rw [List.drop_zero] at g1
  obtain ⟨g2,ih⟩:=l_by1 hfr hpr hco h2 hml ha hb hN hab hb1 (cp:=cp) r (i+1) (byIn m a[i] i 0 b Q) (by omega) (by rw [byIn_length]; exact hq) g1
  have hby:byOut m b i (a.drop i) Q=byOut m b (i+1) (a.drop (i+1)) (byIn m a[i] i 0 b Q):=by
   rw [List.drop_eq_getElem_cons hlt]; rfl
  rw [hby]
  refine ⟨g2,dn_round ?_ ih⟩
  generalize ((byIn m a[i] i 0 b Q).map fun c=>(D.sl .leaf (ints .i64 (row c))))=LQ2 at *
  generalize (Q.map fun c=>(D.sl .leaf (ints .i64 (row c))))=LQ at *
  simp -implicitDefEqProofs [Zu_L1,dn_cond,hlt,e1,w4]
noncomputable def mulS {p:Int} [IsP p] (m:Fp p) (a b:List (Fp p)):List (Fp p):=byOut m b 0 a (List.replicate (a.length+b.length-1) 0)
def K_by (O:Oracle):Prop:=∀(p:Int) [IsP p] (m:Fp p) (a b:List (Fp p)),2≤m.len→m.len≤64→(∀c∈a,c.len≤64)→(∀c∈b,c.len≤64)→a.length<10000→b.length<10000 →
 ask O Fu [fldD m,skD a,skD b]=some (if a.length=0∨b.length=0 then skD ([]:List (Fp p)) else skD (trimS (mulS m a b)))
theorem k_by (hT:T Fu=some Zu) (hfr:K_frob (den T A)) (hpr:K_product (den T A)) (hco:K_combine2 (den T A)) (htr:K_sktrim (den T A)):K_by (den T A):=by
 intro p ip m a b h2 hml ha hb hal hbl
 have hsa:skD a=.sl .leaf (a.map fun c=>(D.sl .leaf (ints .i64 (row c)))):=rfl
 have hsb:skD b=.sl .leaf (b.map fun c=>(D.sl .leaf (ints .i64 (row c)))):=rfl
 have hLa:(a.map fun c=>(D.sl .leaf (ints .i64 (row c)))).length=a.length:=List.length_map ..
 have hLb:(b.map fun c=>(D.sl .leaf (ints .i64 (row c)))).length=b.length:=List.length_map ..
 by_cases h0:a.length=0∨b.length=0
 ·rw [if_pos h0,hsa,hsb]
  refine ask_of hT rfl ?_
  generalize (a.map fun c=>(D.sl .leaf (ints .i64 (row c))))=LA at *
  generalize (b.map fun c=>(D.sl .leaf (ints .i64 (row c))))=LB at *
  rcases h0 with h0 | h0
  ·rw [h0] at hLa
   simp -implicitDefEqProofs [Zu,Zu_B,dn_cond,hLa,List.replicate]
  ·rw [h0] at hLb
   by_cases h1:LA.length=0
   ·simp -implicitDefEqProofs [Zu,Zu_B,dn_cond,h1,List.replicate]
   ·simp -implicitDefEqProofs [Zu,Zu_B,dn_cond,h1,hLb,List.replicate]
 ·rw [if_neg h0]
  have ha1:1≤a.length:=by omega
  have hb1:1≤b.length:=by omega
  have hz:((List.replicate (a.length+b.length-1) (0:Fp p)).map fun c=>(D.sl .leaf (ints .i64 (row c))))=List.replicate (a.length+b.length-1) (.sl .leaf []):=by rw [List.map_replicate,row_zero,ints_nil]
  have hl0:∀c∈List.replicate (a.length+b.length-1) (0:Fp p),c.len≤64:=fun c hc=>by rw [List.eq_of_mem_replicate hc,Pol.len_zero]; omega
  obtain ⟨g1,e1⟩:=l_by1 (O:=den T A) hfr hpr hco h2 hml ha hb (N:=a.length+b.length-1) (by omega) (by omega) hb1 (cp:=some (a.length+b.length-1)) a.length 0 (List.replicate (a.length+b.length-1) 0) (Nat.zero_add _) (List.length_replicate ..) hl0
  have e00:((0:Nat):Int)=0:=rfl
  have em:byOut m b 0 (a.drop 0) (List.replicate (a.length+b.length-1) 0)=mulS m a b:=by rw [List.drop_zero]; rfl
  rw [e00,em,hz] at e1
  have hml2:(mulS m a b).length=a.length+b.length-1:=by unfold mulS; rw [byOut_length,List.length_replicate]
  have e2:=htr p (mulS m a b) (by omega)
  have hsm:skD (mulS m a b)=.sl .leaf ((mulS m a b).map fun c=>(D.sl .leaf (ints .i64 (row c)))):=rfl
  have hLm:((mulS m a b).map fun c=>(D.sl .leaf (ints .i64 (row c)))).length=a.length+b.length-1:=by rw [List.length_map]; exact hml2
  have ht:((mulS m a b).map fun c=>(D.sl .leaf (ints .i64 (row c)))).take (a.length+b.length-1)=((mulS m a b).map fun c=>(D.sl .leaf (ints .i64 (row c)))):=List.take_of_length_le (by omega)
  rw [hsm] at e2
  have n1:¬ ((a.length:Int)=0):=by omega
  have n2:¬ ((b.length:Int)=0):=by omega
  have n1':a.length≠0:=by omega
  have n2':b.length≠0:=by omega
  have w1:IntKind.i64.wrap ((a.length:Int)+b.length)=(a.length:Int)+b.length:=w64 (by omega)
  have w2:IntKind.i64.wrap ((a.length:Int)+b.length-1)=((a.length+b.length-1:Nat):Int):=(w64 (by omega)).trans (by omega)
  have h24:(a.length+b.length-1)*24≤1099511627776:=by omega
  generalize skD (trimS (mulS m a b))=TD at *
  rw [hsa,hsb] at e1 ⊢
  refine ask_of hT rfl ?_
  generalize ((mulS m a b).map fun c=>(D.sl .leaf (ints .i64 (row c))))=LM at *
  generalize (a.map fun c=>(D.sl .leaf (ints .i64 (row c))))=LA at *
  generalize (b.map fun c=>(D.sl .leaf (ints .i64 (row c))))=LB at *
  generalize a.length+b.length-1=N at *
  simp -implicitDefEqProofs [Zu,Zu_B,dn_cond,hLa,hLb,n1',n2',w1,w2,h24,e1,e2,hLm,ht,List.replicate]
end Pe

namespace Pe
open Go Gq
variable {T:Nat→Option Fn} {A:Oracle}
end Pe

namespace Pe
open Go Gq
variable {T:Nat→Option Fn} {A:Oracle}
section
variable {p:Int}
theorem addAt_get_ne {Q:List (Fp p)} {n j:Nat} {v:Fp p} (h:n≠j):(addAt Q n v)[j]? = Q[j]?:=by
 unfold addAt; rw [List.getElem?_set_ne h]
end
section
variable {p:Int} [IsP p]
theorem byIn_get_ge {m x:Fp p} {i n:Nat}:∀(k:Nat) (b Q:List (Fp p)),i+k+b.length≤n→(byIn m x i k b Q)[n]? = Q[n]?
 | _,[],_,_=>rfl
 | k,y::ys,Q,h=>by
  rw [List.length_cons] at h
  show (byIn m x i (k+1) ys (addAt Q (i+k) _))[n]? = _
  rw [byIn_get_ge (k+1) ys _ (by omega),addAt_get_ne (by omega)]
theorem byOut_get_ge {m:Fp p} {b:List (Fp p)} {n:Nat}:∀(i:Nat) (a Q:List (Fp p)),i+a.length+b.length≤n+1→(byOut m b i a Q)[n]? = Q[n]?
 | _,[],_,_=>rfl
 | i,x::xs,Q,h=>by
  rw [List.length_cons] at h
  show (byOut m b (i+1) xs (byIn m x i 0 b Q))[n]? = _
  rw [byOut_get_ge (i+1) xs _ (by omega),byIn_get_ge 0 b Q (by omega)]
theorem byIn_snoc {m x y:Fp p} {i:Nat}:∀(k:Nat) (b Q:List (Fp p)),byIn m x i k (b++[y]) Q=addAt (byIn m x i k b Q) (i+(k+b.length)) (x*frIt m (i%(m.len-1)) y%m)
 | _,[],_=>rfl
 | k,z::zs,Q=>by
  show byIn m x i (k+1) (zs++[y]) (addAt Q (i+k) _)=addAt (byIn m x i (k+1) zs (addAt Q (i+k) _)) _ _
  rw [byIn_snoc (k+1) zs,List.length_cons,show i+(k+1+zs.length)=i+(k+(zs.length+1)) by omega]
theorem byOut_snoc {m x:Fp p} {b:List (Fp p)}:∀(i:Nat) (a Q:List (Fp p)),byOut m b i (a++[x]) Q=byIn m x (i+a.length) 0 b (byOut m b i a Q)
 | _,[],_=>rfl
 | i,z::zs,Q=>by
  show byOut m b (i+1) (zs++[x]) (byIn m z i 0 b Q)=byIn m x _ 0 b (byOut m b (i+1) zs (byIn m z i 0 b Q))
  rw [byOut_snoc (i+1) zs,List.length_cons,show i+1+zs.length=i+(zs.length+1) by omega]
theorem mul_mod_ne {m x y:Fp p} (hi:Irr m) (hx:x≠0) (hxl:x.len<m.len) (hy:y≠0) (hyl:y.len<m.len):x*y%m≠0:=fun h=>by
 rcases hi.prime ((dv_iff_mod hi.ne).2 h) with h | h
 ·have:=Dv.len h hx; omega
 ·have:=Dv.len h hy; omega
theorem frIt_ne {m:Fp p} (hm:Fld m):∀(k:Nat) (y:Fp p),y≠0→y.len<m.len→frIt m k y≠0
 | 0,_,h,_=>h
 | k+1,y,h,hl=>by
  obtain ⟨h1,h2⟩:=pw_res hm h hl p.toNat
  exact frIt_ne hm k _ h1 h2
end
section
variable {p:Int}
theorem stl_last {S:List (Fp p)}:∀(n k:Nat),stl S n=k+1→S[k]? ≠ some 0
 | 0,k,h=>by cases h
 | n+1,k,h=>by
  unfold stl at h
  split at h
  ·exact stl_last n k h
  ·rename_i h0
   obtain rfl:n=k:=by omega
   exact h0
theorem stl_top {S:List (Fp p)} {n:Nat} (h:S[n]? ≠ some 0):stl S (n+1)=n+1:=by
 unfold stl; rw [if_neg h]
theorem trimS_form {S:List (Fp p)} (h:(trimS S).length≠0):∃a x,trimS S=a++[x]∧x≠0:=by
 have hle:=stl_le S S.length
 have hl:(trimS S).length=stl S S.length:=by unfold trimS; rw [List.length_take]; omega
 obtain ⟨k,hk⟩:∃k,stl S S.length=k+1:=⟨stl S S.length-1,by omega⟩
 have h1:=stl_last _ _ hk
 have hlt:k<S.length:=by omega
 rw [List.getElem?_eq_getElem hlt] at h1
 refine ⟨S.take k,S[k],?_,fun h=>h1 (by rw [h])⟩
 unfold trimS
 rw [hk,List.take_succ_eq_append_getElem hlt]
theorem trimS_top {S:List (Fp p)} {n:Nat} (hl:S.length=n+1) (h:S[n]? ≠ some 0):trimS S=S:=by
 unfold trimS
 rw [hl,stl_top h,←hl,List.take_length]
end
section
variable {p:Int} [IsP p]
theorem mulS_top {m x y:Fp p} (hm:Fld m) {a b:List (Fp p)} (hx:x≠0) (hxl:x.len<m.len) (hy:y≠0) (hyl:y.len<m.len):trimS (mulS m (a++[x]) (b++[y]))=mulS m (a++[x]) (b++[y]):=by
 have hl:(mulS m (a++[x]) (b++[y])).length=a.length+b.length+1:=by
  unfold mulS
  rw [byOut_length,List.length_replicate,List.length_append,List.length_append]
  simp only [List.length_cons,List.length_nil]; omega
 refine trimS_top hl ?_
 have hfy:frIt m (a.length%(m.len-1)) y≠0:=frIt_ne hm _ y hy hyl
 have hfl:=frIt_len hm.mon.2 (a.length%(m.len-1)) y hyl
 have hne:=mul_mod_ne hm.irr hx hxl hfy hfl
 unfold mulS
 rw [byOut_snoc,byIn_snoc]
 unfold addAt
 rw [byIn_get_ge _ _ _ (by omega),byOut_get_ge _ _ _ (by rw [List.length_append,List.length_cons,List.length_nil]; omega)]
 have hN:0+a.length+(0+b.length)=a.length+b.length:=by omega
 rw [hN,List.getElem?_set_self (by rw [byIn_length,byOut_length,List.length_replicate,List.length_append,List.length_append]; simp only [List.length_cons,List.length_nil]; omega)]
 rw [List.getElem?_replicate,if_pos (by rw [List.length_append,List.length_append]; simp only [List.length_cons,List.length_nil]; omega)]
 show some ((0:Fp p)+_)≠some 0
 rw [Gq.zero_add,show 0+a.length=a.length by omega]
 exact fun h=>hne (Option.some.inj h)
noncomputable def prodS (m:Fp p) (a b:List (Fp p)):List (Fp p):=if a.length=0∨b.length=0 then [] else trimS (mulS m a b)
end
end Pe

namespace Pe
open Go Gq
variable {T:Nat→Option Fn} {A:Oracle}
section
variable {p:Int} [IsP p]
theorem addAt_lens {N n:Nat} {Q:List (Fp p)} {v:Fp p} (hQ:∀c∈Q,c.len≤N) (hv:v.len≤N):∀c∈addAt Q n v,c.len≤N:=fun c hc=>by
 unfold addAt at hc
 rcases List.mem_or_eq_of_mem_set hc with h | rfl
 ·exact hQ c h
 ·refine Pol.len_add_le ?_ hv
  cases he:Q[n]? with
  | none=>show (0:Fp p).len≤N; rw [Pol.len_zero]; omega
  | some w=>exact hQ w (List.mem_of_getElem? he)
end
end Pe



namespace Pe
open Go Gq
variable {T:Nat→Option Fn} {A:Oracle}
abbrev z6:List Int:=List.replicate 6 0
section
variable {p:Int} [IsP p]
noncomputable def mono (p:Int) (i:Nat):Fp p:=numP p (p^i)
end
end Pe

namespace Pe
open Go Gq
variable {T:Nat→Option Fn} {A:Oracle}
section
variable {O:Oracle} {g:Nat} {first caps:List D}
structure CmpRow (O:Oracle) (g:Nat) (first caps:List D) (f:D→Int) (s:Sh) (cs:List D):Prop where
 nf:noTup first
 nc:noTup caps
 nx:noTup cs
 sh:AllSh s cs
 ask:∀x∈cs,∀y∈cs,∃v:Int,ask O g (first++[x,y]++caps)=some (D.int .i64 v)∧(v<0↔f x<f y)
theorem CmpRow.perm {f:D→Int} {s:Sh} {cs ds:List D} (h:CmpRow O g first caps f s cs) (p:ds.Perm cs):CmpRow O g first caps f s ds:=
 ⟨h.nf,h.nc,fun x hx=>h.nx x (p.subset hx),fun x hx=>h.sh x (p.subset hx),fun x hx y hy=>h.ask x (p.subset hx) y (p.subset hy)⟩
theorem CmpRow.call {f:D→Int} {s:Sh} {cs:List D} (h:CmpRow O g first caps f s cs) {hp:Heap} {np:Nat} {news:List Nat} {x y:D} (hx:x∈cs) (hy:y∈cs) :
 ∃v:Int,kCall O np hp .flat news (g,first.map .d,caps.map .d) [.d x,.d y]=some (.d (D.int .i64 v),hp)∧(v<0↔f x<f y):=by
 have e:toDs hp (first.map .d++[.d x,.d y]++caps.map .d)=some (first++[x,y]++caps):=
  toDs_app hp (toDs_app hp (toDs_map hp h.nf) (toDs_map hp (ds:=[x,y]) (by intro z hz; simp at hz; rcases hz with rfl | rfl; exact h.nx _ hx; exact h.nx _ hy))) (toDs_map hp h.nc)
 obtain ⟨v,e1,e2⟩:=h.ask x hx y hy
 refine ⟨v,?_,e2⟩
 rw [kCall_flat,e,Option.bind_some,kAsk_ask,e1,Option.bind_some,kAns_flat,show (D.int IntKind.i64 v).flat=true from rfl,if_pos rfl]
end
end Pe
