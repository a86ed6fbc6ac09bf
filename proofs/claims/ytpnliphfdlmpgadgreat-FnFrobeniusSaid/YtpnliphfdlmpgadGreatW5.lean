/-
  A part of the proof: an evaluator for a small form of the code, its soundness, and contracts of functions over it.
-/
import Derived.Test.YtpnliphfdlmpgadGreatW1
import Derived.Test.YtpnliphfdlmpgadGreatW2
import Derived.Test.YtpnliphfdlmpgadGreatW3
import Derived.Test.YtpnliphfdlmpgadGreatW4

namespace Pe
open Go Gq
variable {T:Nat→Option Fn} {A:Oracle}
theorem tlen_row {p:Int} {l:List Int} {f:Fp p} (h:∀i,cf l i=rep (f.c i)):tlen l l.length=f.len:=by
 have e:=congrArg List.length (trim_row h)
 rw [row_length] at e
 unfold trim at e
 rw [List.length_take] at e
 have:=tlen_le l l.length
 omega
theorem l_sDeg {O:Oracle} {l:List Int} (hl:l.length=64):∀n:Nat,n≤64 →
 dn O 0 (.loop Z3f_L0) ⟨[(1,.ptr 0 []),(3,(.d (.int .i64 ((n:Int)-1))))],[.box false (D.arr 64 .leaf (ints .u8 l))]⟩ =
  some (.exit 0,⟨[(1,.ptr 0 []),(3,(.d (.int .i64 ((tlen l n:Int)-1)))),(11,(.d (.bool false)))],[.box false (D.arr 64 .leaf (ints .u8 l))]⟩)
 | 0,_=>dn_stop (by simp -implicitDefEqProofs [Z3f_L0,dn_cond,tlen])
 | n+1,hn=>by
  have hlt:n<l.length:=by omega
  have hn64:n<64:=by omega
  have hx:l[n]=cf l n:=(cf_lt hlt).symm
  have t0:(((n+1:Nat):Int)-1)=(n:Int):=by omega
  rw [t0]
  have w1:IntKind.i64.wrap ((n:Int)-1)=(n:Int)-1:=w64 (by omega)
  by_cases h0:cf l n=0
  ·have e:tlen l (n+1)=tlen l n:=by simp [tlen,h0]
   rw [e]
   refine dn_round ?_ (l_sDeg hl n (by omega))
   simp -implicitDefEqProofs [Z3f_L0,dn_cond,hlt,hn64,hx,h0,w1]
  ·have e:tlen l (n+1)=n+1:=by simp [tlen,h0]
   rw [e,t0]
   refine dn_stop ?_
   simp -implicitDefEqProofs [Z3f_L0,dn_cond,hlt,hn64,hx,h0]
def C_sDeg (O:Oracle):Prop:=∀l:List Int,l.length=64→ask O F3f [(D.arr 64 .leaf (ints .u8 l))]=some (D.int .i64 ((tlen l 64:Int)-1))
theorem c_sDeg (hT:T F3f=some Z3f):C_sDeg (den T A):=by
 intro l hl
 have e:=l_sDeg (O:=den T A) hl 64 (Nat.le_refl _)
 have e0:((64:Nat):Int)-1=63:=rfl
 rw [e0] at e
 refine ask_of hT rfl ?_
 simp -implicitDefEqProofs [Z3f,Z3f_B,e]
def K_sDeg (O:Oracle):Prop:=∀(p:Int) [IsP p] (a:Fp p),a.len≤64→ask O F3f [(D.arr 64 .leaf (ints .u8 (pad (row a))))]=some (D.int .i64 ((a.len:Int)-1))
theorem k_sDeg {O:Oracle} (h:C_sDeg O):K_sDeg O:=fun p i a hl=>by
 have e:=tlen_row (f:=a) (l:=pad (row a)) fun i=>by rw [pad_cf (by rw [row_length]; exact hl),row_cf]
 rw [pad_length] at e
 rw [h _ (pad_length _),e]
def C_sIn (O:Oracle):Prop:=∀n a b:Int,ask O F3k [(D.int .i64 n),(D.int .i64 a),(D.int .i64 b)]=some (D.bool (decide (a≤n∧n≤b)))
theorem c_sIn (hT:T F3k=some Z3k):C_sIn (den T A):=by
 intro n a b
 refine ask_of hT rfl ?_
 by_cases h:a≤n <;> simp -implicitDefEqProofs [Z3k,Z3k_B,h]
def C_sPrime (O:Oracle):Prop:=∀p:Int,ask O F3w [(D.int .i64 p)]=some (D.bool (isP p))
theorem c_sPrime (hT:T F3w=some Z3w):C_sPrime (den T A):=by
 intro p
 refine ask_of hT rfl ?_
 by_cases h2:p=2
 ·simp -implicitDefEqProofs [Z3w,Z3w_B,h2,isP]
 ·by_cases h3:p=3
  ·simp -implicitDefEqProofs [Z3w,Z3w_B,h3,isP]
  ·by_cases h5:p=5
   ·simp -implicitDefEqProofs [Z3w,Z3w_B,h5,isP]
   ·simp -implicitDefEqProofs [Z3w,Z3w_B,h2,h3,h5,isP]
theorem l_sIs {O:Oracle} {p:Int} {l:List Int} (hb:Bytes l) (hl:l.length=64):∀(m i:Nat),i+m=64 →
 dn O 0 (.loop Z3n_L0) ⟨[(0,(.d (.int .i64 p))),(3,.ptr 0 []),(5,(.d (.int .i64 i)))],[.box false (D.arr 64 .leaf (ints .u8 l))]⟩ =
  if (l.drop i).all (fun x=>decide (x<p)) then some (.exit 0,⟨[(0,(.d (.int .i64 p))),(3,.ptr 0 []),(5,(.d (.int .i64 64))),(7,(.d (.bool false)))],[.box false (D.arr 64 .leaf (ints .u8 l))]⟩) else some (.ret,⟨[(4,(.d (.bool false)))],[.hole]⟩)
 | 0,i,hi=>by
  obtain rfl:i=64:=by omega
  rw [show l.drop 64=[] from List.drop_eq_nil_of_le (by omega)]
  exact dn_stop (by simp -implicitDefEqProofs [Z3n_L0,dn_cond])
 | m+1,i,hi=>by
  have hlt:i<l.length:=by omega
  have hi64:i<64:=by omega
  have hi64':(i:Int)<64:=by omega
  have hx:l[i]=cf l i:=(cf_lt hlt).symm
  have hb':=hb _ (List.getElem_mem hlt)
  rw [hx] at hb'
  have w1:IntKind.i64.wrap (cf l i)=cf l i:=w64 (by omega)
  have w4:IntKind.i64.wrap ((i:Int)+1)=((i+1:Nat):Int):=(w64 (x:=(i:Int)+1) (by omega)).trans (by omega)
  rw [List.drop_eq_getElem_cons hlt,List.all_cons,hx]
  by_cases h0:cf l i<p
  ·rw [decide_eq_true h0,Bool.true_and]
   refine dn_round ?_ (l_sIs hb hl m (i+1) (by omega))
   have h1:¬ p≤cf l i:=by omega
   simp -implicitDefEqProofs [Z3n_L0,dn_cond,hlt,hi64,hi64',hx,h1,w1,w4]
  ·rw [decide_eq_false h0,Bool.false_and]
   have h1:p≤cf l i:=by omega
   refine dn_back ?_
   simp -implicitDefEqProofs [Z3n_L0,dn_cond,hlt,hi64,hi64',hx,h1,w1]
def C_sIs (O:Oracle):Prop:=∀(p:Int) (l:List Int),Bytes l→l.length=64→ask O F3n [(D.int .i64 p),(D.arr 64 .leaf (ints .u8 l))]=some (D.bool (isPl p l&&isP p))
theorem c_sIs (hT:T F3n=some Z3n) (hp:C_sPrime (den T A)):C_sIs (den T A):=by
 intro p l hb hl
 have e:=l_sIs (O:=den T A) (p:=p) hb hl 64 0 (by omega)
 have e0:((0:Nat):Int)=0:=rfl
 rw [e0,List.drop_zero,show (l.all fun x=>decide (x<p))=isPl p l from rfl] at e
 have e1:=hp p
 refine ask_of hT rfl ?_
 by_cases h:isPl p l=true
 ·rw [if_pos h] at e
  simp -implicitDefEqProofs [Z3n,Z3n_B,e,e1,h]
 ·rw [if_neg h] at e
  simp -implicitDefEqProofs [Z3n,Z3n_B,e,h]
theorem l_sCode {O:Oracle} (hi:C_sIs O) {p:Int} (hp:isP p=true) {ls:List (List Int)} (h:Arrs ls) (hl:ls.length<2000000):∀(m i:Nat),i+m=ls.length →
 dn O 0 (.loop Z3d_L0) ⟨[(0,(.d (.int .i64 p))),(1,.d (.sl (.arr 64 .leaf) (ls.map arr8))),(5,(.d (.int .i64 i)))],[]⟩ =
  if (ls.drop i).all (isPl p) then some (.exit 0,⟨[(0,(.d (.int .i64 p))),(1,.d (.sl (.arr 64 .leaf) (ls.map arr8))),(5,(.d (.int .i64 ls.length))),(12,(.d (.bool false)))],[]⟩) else some (.ret,⟨[(4,(.d (.int .i64 1)))],[]⟩)
 | 0,i,hi'=>by
  obtain rfl:i=ls.length:=by omega
  rw [List.drop_length]
  exact dn_stop (by simp -implicitDefEqProofs [Z3d_L0,dn_cond])
 | m+1,i,hi'=>by
  have hlt:i<ls.length:=by omega
  have h1:=h _ (List.getElem_mem hlt)
  have e1:=hi p ls[i] h1.2 h1.1
  rw [hp,Bool.and_true] at e1
  have w4:IntKind.i64.wrap ((i:Int)+1)=((i+1:Nat):Int):=(w64 (x:=(i:Int)+1) (by omega)).trans (by omega)
  rw [List.drop_eq_getElem_cons hlt,List.all_cons]
  by_cases h0:isPl p ls[i]=true
  ·rw [h0,Bool.true_and]
   rw [h0] at e1
   refine dn_round ?_ (l_sCode hi hp h hl m (i+1) (by omega))
   simp -implicitDefEqProofs [Z3d_L0,dn_cond,hlt,e1,w4]
  ·rw [Bool.not_eq_true] at h0
   rw [h0,Bool.false_and]
   rw [h0] at e1
   refine dn_back ?_
   simp -implicitDefEqProofs [Z3d_L0,dn_cond,hlt,e1]
def C_sCode (O:Oracle):Prop:=∀(p:Int) (ls:List (List Int)),Arrs ls→ls.length<2000000→ask O F3d [(D.int .i64 p),.sl (.arr 64 .leaf) (ls.map arr8)]=some (D.int .i64 (codeP p ls))
theorem c_sCode (hT:T F3d=some Z3d) (hp:C_sPrime (den T A)) (hi:C_sIs (den T A)):C_sCode (den T A):=by
 intro p ls h hl
 have e1:=hp p
 unfold codeP
 refine ask_of hT rfl ?_
 by_cases h1:isP p=true
 ·have e:=l_sCode hi h1 h hl ls.length 0 (Nat.zero_add _)
  have e0:((0:Nat):Int)=0:=rfl
  rw [e0,List.drop_zero] at e
  by_cases h2:ls.all (isPl p)=true
  ·rw [if_pos h2] at e
   rw [if_pos ⟨h1,h2⟩]
   simp -implicitDefEqProofs [Z3d,Z3d_B,dn_cond,e1,e,h1]
  ·rw [if_neg h2] at e
   rw [if_neg (fun h=>h2 h.2)]
   simp -implicitDefEqProofs [Z3d,Z3d_B,dn_cond,e1,e,h1]
 ·rw [if_neg (fun h=>h1 h.1)]
  simp -implicitDefEqProofs [Z3d,Z3d_B,dn_cond,e1,h1]
open Classical in
def K_sMonic (O:Oracle):Prop:=∀(p:Int) [IsP p] (a:Fp p),a.len≤64→ask O F3p [(D.arr 64 .leaf (ints .u8 (pad (row a))))]=some (D.bool (decide (Monic a)))
open Classical in
theorem k_sMonic (hT:T F3p=some Z3p) (hd:K_sDeg (den T A)):K_sMonic (den T A):=by
 intro p i a hl
 have e1:=hd p a hl
 refine ask_of hT rfl ?_
 by_cases h0:a=0
 ·subst h0
  have hm:¬ Monic (0:Fp p):=fun h=>h.2 rfl
  rw [decide_eq_false hm]
  rw [Pol.len_zero] at e1
  simp -implicitDefEqProofs [Z3p,Z3p_B,e1]
 ·have hp:=Pol.len_pos h0
  have hd2:((a.len:Int)-1)=((a.len-1:Nat):Int):=by omega
  rw [hd2] at e1
  have hx:(pad (row a))[a.len-1]? = some (rep a.ld):=by rw [pad_get _ _ (by omega),row_cf]; rfl
  have h64:a.len-1<64:=by omega
  have e2:decide (rep a.ld=1)=decide (Monic a):=decide_eq_decide.2 (by rw [rep_one_iff,monic_iff])
  rw [←e2]
  generalize a.len-1=n at *
  generalize pad (row a)=L at *
  simp -implicitDefEqProofs [Z3p,Z3p_B,e1,hx,h64]
end Pe

namespace Pe
open Go Gq
variable {T:Nat→Option Fn} {A:Oracle}
def cntL (p:Int):Nat→Int→Int
 | 0,out=>out
 | n+1,out=>if out≤1000000000000 then cntL p n (out*p) else out
theorem cntL_min {p:Int} [IsP p]:∀(n:Nat) (out:Int),0<out→min (cntL p n out) 1000000000001=min (out*p^n) 1000000000001
 | 0,out,h=>by rw [Int.pow_zero,Int.mul_one]; rfl
 | n+1,out,h=>by
  have hp:=IsP.pos (p:=p)
  have e:out*p^(n+1)=out*p*p^n:=by rw [Int.pow_succ,Int.mul_assoc,Int.mul_comm p]
  unfold cntL
  split
  ·rw [e,cntL_min n _ (Int.mul_pos h hp)]
  ·have h1:1≤p^(n+1):=ppow_pos (n+1)
   have h2:out*1≤out*p^(n+1):=Int.mul_le_mul_of_nonneg_left h1 (by omega)
   omega
theorem l_sCount {O:Oracle} {p:Int} [IsP p]:∀(n:Nat) (out:Int),n<1000000→0<out→out≤7000000000000→∃n':Int,0<cntL p n out∧cntL p n out≤7000000000000 ∧
 dn O 0 (.loop Z3e_L0) ⟨[(0,(.d (.int .i64 p))),(1,(.d (.int .i64 n))),(5,(.d (.int .i64 out)))],[]⟩ =
  some (.exit 0,⟨[(0,(.d (.int .i64 p))),(1,(.d (.int .i64 n'))),(5,(.d (.int .i64 (cntL p n out)))),(11,(.d (.bool false)))],[]⟩)
 | 0,out,_,h1,h2=>⟨0,h1,h2,dn_stop (by simp -implicitDefEqProofs [Z3e_L0,dn_cond,cntL])⟩
 | n+1,out,hn,h1,h2=>by
  have hp:=IsP.pos (p:=p)
  have hp7:=IsP.le (p:=p)
  have h0:(0:Int)<(n:Int)+1:=by omega
  by_cases h3:out≤1000000000000
  ·have hmul:0<out*p∧out*p≤7000000000000:=by
    refine ⟨Int.mul_pos h1 hp,?_⟩
    have:out*p≤out*7:=Int.mul_le_mul_of_nonneg_left hp7 (by omega)
    omega
   obtain ⟨n',g1,g2,e⟩:=l_sCount (O:=O) (p:=p) n (out*p) (by omega) hmul.1 hmul.2
   have ec:cntL p (n+1) out=cntL p n (out*p):=if_pos h3
   rw [ec]
   have w1:IntKind.i64.wrap (out*p)=out*p:=w64 (by omega)
   have w2:IntKind.i64.wrap (n:Int)=n:=w64 (by omega)
   refine ⟨n',g1,g2,dn_round ?_ e⟩
   simp -implicitDefEqProofs [Z3e_L0,dn_cond,h0,h3,w1,w2]
  ·have ec:cntL p (n+1) out=out:=if_neg h3
   rw [ec]
   refine ⟨((n+1:Nat):Int),h1,h2,dn_stop ?_⟩
   simp -implicitDefEqProofs [Z3e_L0,dn_cond,h0,h3]
def K_sCount (O:Oracle):Prop:=∀(p:Int) [IsP p] (n:Nat),n<1000000→ask O F3e [(D.int .i64 p),(D.int .i64 n)]=some (D.int .i64 (min (p^n) 1000000000001))
theorem k_sCount (hT:T F3e=some Z3e):K_sCount (den T A):=by
 intro p i n hn
 obtain ⟨n',g1,g2,e⟩:=l_sCount (O:=den T A) (p:=p) n 1 hn (by omega) (by omega)
 have e2:=cntL_min (p:=p) n 1 (by omega)
 rw [Int.one_mul] at e2
 have e3:(if (1000000000001:Int)<cntL p n 1 then 1000000000001 else cntL p n 1)=min (p^n) 1000000000001:=by
  rw [←e2]
  split <;> omega
 refine ask_of hT rfl ?_
 simp -implicitDefEqProofs [Z3e,Z3e_B,e]
 exact e3
theorem k_sCount' {O:Oracle} (h:K_sCount O) (p:Int) [IsP p] (n:Nat) (hn:n≤12):ask O F3e [(D.int .i64 p),(D.int .i64 n)]=some (D.int .i64 (p^n)):=by
 have h1:=ppow_le (p:=p) hn
 rw [h p n (by omega),Int.min_eq_left (by omega)]
def K_sInverse (O:Oracle):Prop:=∀(p:Int) [IsP p] (x:Int),0<x→x<p→ask O F3l [(D.int .i64 p),.int .u8 x]=some (.int .u8 (inv p x))
theorem ask_closed {F:Nat} {fn:Fn} (hT:T F=some fn) {ds:List D} {d:D} {n:Nat} (h:run (fun _ _ _=>none) n fn (ds.map .d) []=some (.d d,[],[])):ask (den T A) F ds=some d:=by
 have h2:=den_run (A:=A) hT (n:=n) (vs:=ds.map .d) (bs:=[]) (ans:=(.d d,[],[])) (by
  obtain ⟨qs,h3,h4⟩:=run_rests h
  cases qs with
  | nil=>exact h4 _ (by intro q hq; simp at hq)
  | cons q qs=>exact absurd (h3 q (by simp)) (by simp))
 unfold ask
 rw [h2]
 simp
theorem k_sInverse (hT:T F3l=some Z3l):K_sInverse (den T A):=by
 intro p ip x h0 h1
 rcases ip.h with rfl | rfl | rfl | rfl
 ·obtain rfl:x=1:=by omega
  exact ask_closed hT (n:=10) (by kernel_rfl)
 ·have:x=1∨x=2:=by omega
  rcases this with rfl | rfl
  ·exact ask_closed hT (n:=10) (by kernel_rfl)
  ·exact ask_closed hT (n:=10) (by kernel_rfl)
 ·have:x=1∨x=2∨x=3∨x=4:=by omega
  rcases this with rfl | rfl | rfl | rfl
  ·exact ask_closed hT (n:=10) (by kernel_rfl)
  ·exact ask_closed hT (n:=10) (by kernel_rfl)
  ·exact ask_closed hT (n:=10) (by kernel_rfl)
  ·exact ask_closed hT (n:=10) (by kernel_rfl)
 ·have:x=1∨x=2∨x=3∨x=4∨x=5∨x=6:=by omega
  rcases this with rfl | rfl | rfl | rfl | rfl | rfl
  ·exact ask_closed hT (n:=10) (by kernel_rfl)
  ·exact ask_closed hT (n:=10) (by kernel_rfl)
  ·exact ask_closed hT (n:=10) (by kernel_rfl)
  ·exact ask_closed hT (n:=10) (by kernel_rfl)
  ·exact ask_closed hT (n:=10) (by kernel_rfl)
  ·exact ask_closed hT (n:=10) (by kernel_rfl)
theorem pad_of {p:Int} [IsP p] {l:List Int} (h:Can p l) (hl:l.length=64):l=pad (row (polOf p l)):=by
 rw [←trim_polOf h]
 symm
 apply pad_eq hl
 intro i hi
 rw [trim_polOf h,row_cf,polOf_c,rep_zp (h.le IsP.pos i)]
theorem pad_can {p:Int} [IsP p] (a:Fp p):Can p (pad (row a)):=fun x hx=>by
 obtain ⟨i,_,rfl⟩:=List.mem_map.1 hx
 exact (row_can a).le IsP.pos i
theorem polOf_pad {p:Int} {a:Fp p} (hl:a.len≤64):polOf p (pad (row a))=a:=Pol.ext fun i=>by rw [polOf_c,pad_cf (by rw [row_length]; exact hl),row_cf,zp_rep]
theorem pad_row_cf {p:Int} {a:Fp p} (hl:a.len≤64) (i:Nat):cf (pad (row a)) i=rep (a.c i):=by rw [pad_cf (by rw [row_length]; exact hl),row_cf]
theorem l_sAdd {O:Oracle} {p k:Int} [IsP p] {a b z:List Int} (ha:Can p a) (hb:Can p b) (hbl:b.length=64) (hk:-1000000≤k∧k≤1000000):∀(m i:Nat) (cur:List Int),i+m=64→cur.length=64→(∀j,i≤j→cf cur j=cf a j) →
 dn O 0 (.loop Z3b_L0) ⟨[(0,(.d (.int .i64 p))),(3,(.d (.int .i64 k))),(5,.ptr 0 []),(6,.ptr 1 []),(8,.ptr 2 []),(9,(.d (.int .i64 i)))],[.box false (D.arr 64 .leaf (ints .u8 cur)),.box false (D.arr 64 .leaf (ints .u8 b)),.box false (D.arr 64 .leaf (ints .u8 z))]⟩ =
  some (.exit 0,⟨[(0,(.d (.int .i64 p))),(3,(.d (.int .i64 k))),(5,.ptr 0 []),(6,.ptr 1 []),(8,.ptr 2 []),(9,(.d (.int .i64 64))),(11,(.d (.bool false)))],[.box false (D.arr 64 .leaf (ints .u8 (upd (lin p a b k) m i cur))),.box false (D.arr 64 .leaf (ints .u8 b)),.box false (D.arr 64 .leaf (ints .u8 z))]⟩)
 | 0,i,cur,hi,hc,hs=>by
  obtain rfl:i=64:=by omega
  exact dn_stop (by simp -implicitDefEqProofs [Z3b_L0,dn_cond,upd])
 | m+1,i,cur,hi,hc,hs=>by
  have hp:=IsP.pos (p:=p)
  have hp7:=IsP.le (p:=p)
  have hp0:p≠0:=by omega
  have hlt:i<cur.length:=by omega
  have hlb:i<b.length:=by omega
  have hi64:i<64:=by omega
  have hi64':(i:Int)<64:=by omega
  have hx:cur[i]=cf a i:=by rw [←cf_lt hlt]; exact hs i (Nat.le_refl i)
  have hy:b[i]=cf b i:=(cf_lt hlb).symm
  have ga:=ha.le hp i
  have gb:=hb.le hp i
  have gm:=mul_small (x:=k) (y:=cf b i) (b:=1000000) (c:=10) hk (by omega) (by omega)
  have w1:IntKind.i64.wrap (cf a i)=cf a i:=w64 (by omega)
  have w2:IntKind.i64.wrap (cf b i)=cf b i:=w64 (by omega)
  have w3:IntKind.i64.wrap (k*cf b i)=k*cf b i:=w64 (by omega)
  have w5:IntKind.i64.wrap (cf a i+k*cf b i)=cf a i+k*cf b i:=w64 (by omega)
  have hin:=tmod_in (n:=cf a i+k*cf b i) hp
  have w6:IntKind.i64.wrap ((cf a i+k*cf b i).tmod p+p)=(cf a i+k*cf b i).tmod p+p:=w64 (by omega)
  have w7:((cf a i+k*cf b i).tmod p+p).tmod p=lin p a b k i:=tmod_tmod hp
  have hlin:0≤lin p a b k i∧lin p a b k i<p:=⟨Int.emod_nonneg _ (by omega),Int.emod_lt_of_pos _ hp⟩
  have w8':IntKind.u8.wrap (lin p a b k i)=lin p a b k i:=w8 (by omega)
  have w4:IntKind.i64.wrap ((i:Int)+1)=((i+1:Nat):Int):=(w64 (x:=(i:Int)+1) (by omega)).trans (by omega)
  refine dn_round ?_ (l_sAdd ha hb hbl hk m (i+1) (cur.set i (lin p a b k i)) (by omega) (by simpa using hc) (fun j hj=>by rw [cf_set,if_neg (by omega)]; exact hs j (by omega)))
  simp -implicitDefEqProofs [Z3b_L0,dn_cond,hlt,hlb,hi64,hi64',hx,hy,w1,w2,w3,w5,w6,w7,w8',w4,hp0]
def K_sAdd (O:Oracle):Prop:=∀(p:Int) [IsP p] (k:Int) (a b:Fp p),-1000000≤k→k≤1000000→a.len≤64→b.len≤64 →
 ask O F3b [(D.int .i64 p),(D.arr 64 .leaf (ints .u8 (pad (row a)))),(D.arr 64 .leaf (ints .u8 (pad (row b)))),(D.int .i64 k)]=some (D.arr 64 .leaf (ints .u8 (pad (row (a+Pol.C (zp p k)*b)))))
theorem k_sAdd (hT:T F3b=some Z3b):K_sAdd (den T A):=by
 intro p i k a b hk hk' hal hbl
 have e:=l_sAdd (O:=den T A) (z:=pad []) (pad_can a) (pad_can b) (pad_length _) ⟨hk,hk'⟩ 64 0 (pad (row a)) (by omega) (pad_length _) (fun _ _=>rfl)
 have e0:((0:Nat):Int)=0:=rfl
 rw [e0,upd_all _ _ _ (pad_length _)] at e
 have e2:(List.range 64).map (lin p (pad (row a)) (pad (row b)) k)=pad (row (a+Pol.C (zp p k)*b)):=by
  unfold pad
  congr 1
  funext j
  rw [row_cf,Pol.c_add,Pol.c_Cmul]
  show (cf (pad (row a)) j+k*cf (pad (row b)) j)%p=_
  rw [pad_row_cf hal,pad_row_cf hbl,←rep_mk,zp_add,zp_mul,zp_rep,zp_rep]
 rw [e2] at e
 refine ask_of hT rfl ?_
 generalize pad (row (a+Pol.C (zp p k)*b))=R at *
 simp -implicitDefEqProofs [Z3b,Z3b_B,e]
def K_sOne (O:Oracle):Prop:=∀(p:Int) [IsP p],ask O F3t []=some (D.arr 64 .leaf (ints .u8 (pad (row (1:Fp p)))))
theorem k_sOne (hT:T F3t=some Z3t):K_sOne (den T A):=by
 intro p i
 have e:(pad []).set 0 1=pad [1]:=by decide +kernel
 have h0:(0:Nat)<(pad []).length:=by rw [pad_length]; omega
 rw [row_one]
 refine ask_of hT rfl ?_
 simp -implicitDefEqProofs [Z3t,Z3t_B,e,h0]
end Pe

namespace Pe
open Go Gq
variable {T:Nat→Option Fn} {A:Oracle}
def subS (p q:Int) (b:List Int) (i:Nat) (m:Nat) (cur:List Int):List Int:=if q=0 then cur else subTo p q b i m 0 cur
theorem subS_eq {p q:Int} [IsP p] {b cur:List Int} {i m:Nat} (hc:Can p cur) (hl:i+m≤cur.length):subS p q b i m cur=subTo p q b i m 0 cur:=by
 unfold subS
 split
 ·rename_i h
  subst h
  apply List.ext_getElem
  ·rw [subTo_length]
  ·intro j h1 h2
   rw [←cf_lt h1,←cf_lt h2,subTo_cf _ _ _ _ _ _ _ _ (by omega)]
   have:=hc.le IsP.pos j
   split
   ·rw [Int.zero_mul,Int.sub_zero,Int.emod_eq_of_lt this.1 this.2]
   ·rfl
 ·rfl
theorem l_sDiv0 {O:Oracle} {p q by_:Int} [IsP p] {b quo z z':List Int} {i bl:Nat} (hq:0<q∧q<p) (hb:Can p b) (hbl:b.length=64) (hn:i+bl≤64) (h0:0<bl):∀(m k:Nat) (cur:List Int),k+m=bl→cur.length=64→Can p cur →
 dn O 0 (.loop Z3g_L0) ⟨[(0,(.d (.int .i64 p))),(4,.ptr 0 []),(5,.ptr 1 []),(6,.ptr 2 []),(7,.ptr 3 []),(8,.ptr 4 []),(9,(.d (.int .i64 ((bl:Int)-1)))),(10,(.d (.int .i64 by_))),(11,(.d (.int .i64 ((i:Int)+bl-1)))),(12,(.d (.int .i64 q))),(13,(.d (.int .i64 k)))],[.box false (D.arr 64 .leaf (ints .u8 cur)),.box false (D.arr 64 .leaf (ints .u8 b)),.box false (D.arr 64 .leaf (ints .u8 z)),.box false (D.arr 64 .leaf (ints .u8 z')),.box false (D.arr 64 .leaf (ints .u8 quo))]⟩ =
  some (.exit 2,⟨[(0,(.d (.int .i64 p))),(4,.ptr 0 []),(5,.ptr 1 []),(6,.ptr 2 []),(7,.ptr 3 []),(8,.ptr 4 []),(9,(.d (.int .i64 ((bl:Int)-1)))),(10,(.d (.int .i64 by_))),(11,(.d (.int .i64 ((i:Int)+bl-1)))),(12,(.d (.int .i64 q))),(13,(.d (.int .i64 bl))),(50,(.d (.bool false)))],[.box false (D.arr 64 .leaf (ints .u8 (subTo p q b i m k cur))),.box false (D.arr 64 .leaf (ints .u8 b)),.box false (D.arr 64 .leaf (ints .u8 z)),.box false (D.arr 64 .leaf (ints .u8 z')),.box false (D.arr 64 .leaf (ints .u8 quo))]⟩)
 | 0,k,cur,hk,hc,hcan=>by
  obtain rfl:k=bl:=by omega
  have h1:¬ (k:Int)≤(k:Int)-1:=by omega
  exact dn_stop (by simp -implicitDefEqProofs [Z3g_L0,dn_cond,subTo,h1])
 | m+1,k,cur,hk,hc,hcan=>by
  have hp:=IsP.pos (p:=p)
  have hp7:=IsP.le (p:=p)
  have hp0:p≠0:=by omega
  have hq0:q≠0:=by omega
  have h1:(k:Int)≤(bl:Int)-1:=by omega
  have w1:IntKind.i64.wrap ((i:Int)+bl-1-(bl-1))=i:=(w64 (x:=(i:Int)+bl-1-(bl-1)) (by omega)).trans (by omega)
  have w2:IntKind.i64.wrap ((i:Int)+k)=((i+k:Nat):Int):=(w64 (x:=(i:Int)+k) (by omega)).trans (by omega)
  have hik:i+k<64:=by omega
  have hikc:i+k<cur.length:=by omega
  have hkb:k<b.length:=by omega
  have hk64:k<64:=by omega
  have hx:cur[i+k]=cf cur (i+k):=(cf_lt hikc).symm
  have hy:b[k]=cf b k:=(cf_lt hkb).symm
  have gc:=hcan.le hp (i+k)
  have gb:=hb.le hp k
  have gm:=mul_small (x:=q) (y:=cf b k) (b:=10) (c:=10) (by omega) (by omega) (by omega)
  have w3:IntKind.i64.wrap (cf cur (i+k))=cf cur (i+k):=w64 (by omega)
  have w5:IntKind.i64.wrap (cf b k)=cf b k:=w64 (by omega)
  have w6:IntKind.i64.wrap (q*cf b k)=q*cf b k:=w64 (by omega)
  have w7:IntKind.i64.wrap (cf cur (i+k)-q*cf b k)=cf cur (i+k)-q*cf b k:=w64 (by omega)
  have hin:=tmod_in (n:=cf cur (i+k)-q*cf b k) hp
  have w9:IntKind.i64.wrap ((cf cur (i+k)-q*cf b k).tmod p+p)=(cf cur (i+k)-q*cf b k).tmod p+p:=w64 (by omega)
  have w10:((cf cur (i+k)-q*cf b k).tmod p+p).tmod p=(cf cur (i+k)-q*cf b k)%p:=tmod_tmod hp
  have hlin:0≤(cf cur (i+k)-q*cf b k)%p∧(cf cur (i+k)-q*cf b k)%p<p:=⟨Int.emod_nonneg _ (by omega),Int.emod_lt_of_pos _ hp⟩
  have w11:IntKind.u8.wrap ((cf cur (i+k)-q*cf b k)%p)=(cf cur (i+k)-q*cf b k)%p:=w8 (by omega)
  have w4:IntKind.i64.wrap ((k:Int)+1)=((k+1:Nat):Int):=(w64 (x:=(k:Int)+1) (by omega)).trans (by omega)
  have t1:(0:Int)≤(i:Int)+k:=by omega
  have t2:((i:Int)+k).toNat=i+k:=by omega
  have hcan':Can p (cur.set (i+k) ((cf cur (i+k)-q*cf b k)%p)):=by
   intro x hx
   rcases List.mem_or_eq_of_mem_set hx with h | h
   ·exact hcan x h
   ·subst h; exact hlin
  refine dn_round ?_ (l_sDiv0 hq hb hbl hn h0 m (k+1) (cur.set (i+k) ((cf cur (i+k)-q*cf b k)%p)) (by omega) (by simpa using hc) hcan')
  simp -implicitDefEqProofs [Z3g_L0,dn_cond,h1,hq0,w1,w2,hik,hikc,hkb,hk64,hx,hy,w3,w5,w6,w7,w9,w10,w11,w4,hp0,t1,t2]
theorem l_sDiv1 {O:Oracle} {p by_:Int} [IsP p] {b:List Int} {bl:Nat} {z z':List Int} (hby:0≤by_∧by_<p) (hb:Can p b) (hbl:b.length=64) (h0:0<bl):∀(c:Nat) (cur quo:List Int),c+bl≤65→cur.length=64→quo.length=64→Can p cur →
 dn O 0 (.loop Z3g_L1) ⟨[(0,(.d (.int .i64 p))),(4,.ptr 0 []),(5,.ptr 1 []),(6,.ptr 2 []),(7,.ptr 3 []),(8,.ptr 4 []),(9,(.d (.int .i64 ((bl:Int)-1)))),(10,(.d (.int .i64 by_))),(11,(.d (.int .i64 ((c:Int)+bl-2))))],[.box false (D.arr 64 .leaf (ints .u8 cur)),.box false (D.arr 64 .leaf (ints .u8 b)),.box false (D.arr 64 .leaf (ints .u8 z)),.box false (D.arr 64 .leaf (ints .u8 z')),.box false (D.arr 64 .leaf (ints .u8 quo))]⟩ =
  some (.exit 0,⟨[(0,(.d (.int .i64 p))),(4,.ptr 0 []),(5,.ptr 1 []),(6,.ptr 2 []),(7,.ptr 3 []),(8,.ptr 4 []),(9,(.d (.int .i64 ((bl:Int)-1)))),(10,(.d (.int .i64 by_))),(11,(.d (.int .i64 ((bl:Int)-2)))),(27,(.d (.bool false)))],[.box false (D.arr 64 .leaf (ints .u8 ((dv p by_ (b.take bl) c (cur,quo)).1))),.box false (D.arr 64 .leaf (ints .u8 b)),.box false (D.arr 64 .leaf (ints .u8 z)),.box false (D.arr 64 .leaf (ints .u8 z')),.box false (D.arr 64 .leaf (ints .u8 ((dv p by_ (b.take bl) c (cur,quo)).2)))]⟩)
 | 0,cur,quo,_,hc,hqo,hcan=>by
  have h1:¬ (bl:Int)-1≤(bl:Int)-2:=by omega
  have t0:((0:Nat):Int)+bl-2=(bl:Int)-2:=by omega
  rw [t0]
  exact dn_stop (by simp -implicitDefEqProofs [Z3g_L1,dn_cond,h1,dv])
 | c+1,cur,quo,hcb,hc,hqo,hcan=>by
  have hp:=IsP.pos (p:=p)
  have hp7:=IsP.le (p:=p)
  have hp0:p≠0:=by omega
  have hbt:(b.take bl).length=bl:=by rw [List.length_take]; omega
  have t0:((c+1:Nat):Int)+bl-2=(c:Int)+bl-1:=by omega
  rw [t0]
  have h1:(bl:Int)-1≤(c:Int)+bl-1:=by omega
  have hi64:c+bl-1<64:=by omega
  have hic:c+bl-1<cur.length:=by omega
  have t1:(0:Int)≤(c:Int)+bl-1:=by omega
  have t2:((c:Int)+bl-1).toNat=c+bl-1:=by omega
  have t3:(1:Int)≤(c:Int)+bl:=by omega
  have hx:cur[c+bl-1]=cf cur (c+bl-1):=(cf_lt hic).symm
  have gc:=hcan.le hp (c+bl-1)
  have gm:=mul_small (x:=cf cur (c+bl-1)) (y:=by_) (b:=10) (c:=10) (by omega) (by omega) (by omega)
  have w1:IntKind.i64.wrap (cf cur (c+bl-1))=cf cur (c+bl-1):=w64 (by omega)
  have w2:IntKind.i64.wrap (cf cur (c+bl-1)*by_)=cf cur (c+bl-1)*by_:=w64 (by omega)
  have w3:(cf cur (c+bl-1)*by_).tmod p=cf cur (c+bl-1)*by_%p:=Int.tmod_eq_emod_of_nonneg (Int.mul_nonneg gc.1 hby.1)
  have hq:0≤cf cur (c+bl-1)*by_%p∧cf cur (c+bl-1)*by_%p<p:=⟨Int.emod_nonneg _ hp0,Int.emod_lt_of_pos _ hp⟩
  have w4:IntKind.i64.wrap ((c:Int)+bl-1-(bl-1))=c:=(w64 (x:=(c:Int)+bl-1-(bl-1)) (by omega)).trans (by omega)
  have w5:IntKind.u8.wrap (cf cur (c+bl-1)*by_%p)=cf cur (c+bl-1)*by_%p:=w8 (by omega)
  have hc64:c<64:=by omega
  have hcq:c<quo.length:=by omega
  have w6:IntKind.i64.wrap ((c:Int)+bl-1-1)=(c:Int)+bl-2:=(w64 (x:=(c:Int)+bl-1-1) (by omega)).trans (by omega)
  have ed:dv p by_ (b.take bl) (c+1) (cur,quo)=dv p by_ (b.take bl) c (subS p (cf cur (c+bl-1)*by_%p) b c bl cur,quo.set c (cf cur (c+bl-1)*by_%p)):=by
   rw [dv,hbt,subS_eq hcan (by omega)]
   have es:∀(m k:Nat) (x:List Int),k+m≤bl→subTo p (cf cur (c+bl-1)*by_%p) (b.take bl) c m k x=subTo p (cf cur (c+bl-1)*by_%p) b c m k x:=by
    intro m
    induction m with
    | zero=>intro k x _; rfl
    | succ m ih=>
     intro k x hk
     have e:cf (b.take bl) k=cf b k:=by rw [cf_lt (by omega),cf_lt (by omega),List.getElem_take]
     rw [subTo,subTo,e,ih _ _ (by omega)]
   rw [es bl 0 cur (by omega)]
  rw [ed]
  have hcan':Can p (subS p (cf cur (c+bl-1)*by_%p) b c bl cur):=by rw [subS_eq hcan (by omega)]; exact subTo_can hp (by omega) hcan
  have hlen':(subS p (cf cur (c+bl-1)*by_%p) b c bl cur).length=64:=by rw [subS_eq hcan (by omega),subTo_length,hc]
  have ih:=l_sDiv1 (O:=O) (z:=z) (z':=z') hby hb hbl h0 c (subS p (cf cur (c+bl-1)*by_%p) b c bl cur) (quo.set c (cf cur (c+bl-1)*by_%p)) (by omega) hlen' (by simpa using hqo) hcan'
  refine dn_round ?_ ih
  generalize cf cur (c+bl-1)*by_%p=q at *
  have l0:∃k:Int,dn O 0 (.loop Z3g_L0) ⟨[(0,(.d (.int .i64 p))),(4,.ptr 0 []),(5,.ptr 1 []),(6,.ptr 2 []),(7,.ptr 3 []),(8,.ptr 4 []),(9,(.d (.int .i64 ((bl:Int)-1)))),(10,(.d (.int .i64 by_))),(11,(.d (.int .i64 ((c:Int)+bl-1)))),(12,(.d (.int .i64 q))),(13,(.d (.int .i64 0)))],[.box false (D.arr 64 .leaf (ints .u8 cur)),.box false (D.arr 64 .leaf (ints .u8 b)),.box false (D.arr 64 .leaf (ints .u8 z)),.box false (D.arr 64 .leaf (ints .u8 z')),.box false (D.arr 64 .leaf (ints .u8 (quo.set c q)))]⟩ =
   some (.exit 2,⟨[(0,(.d (.int .i64 p))),(4,.ptr 0 []),(5,.ptr 1 []),(6,.ptr 2 []),(7,.ptr 3 []),(8,.ptr 4 []),(9,(.d (.int .i64 ((bl:Int)-1)))),(10,(.d (.int .i64 by_))),(11,(.d (.int .i64 ((c:Int)+bl-1)))),(12,(.d (.int .i64 q))),(13,(.d (.int .i64 k))),(50,(.d (.bool false)))],[.box false (D.arr 64 .leaf (ints .u8 (subS p q b c bl cur))),.box false (D.arr 64 .leaf (ints .u8 b)),.box false (D.arr 64 .leaf (ints .u8 z)),.box false (D.arr 64 .leaf (ints .u8 z')),.box false (D.arr 64 .leaf (ints .u8 (quo.set c q)))]⟩):=by
   by_cases hq0:q=0
   ·subst hq0
    refine ⟨0,?_⟩
    have e:subS p 0 b c bl cur=cur:=if_pos rfl
    rw [e]
    have h2:(1:Int)≤(bl:Int):=by omega
    exact dn_stop (by simp -implicitDefEqProofs [Z3g_L0,dn_cond,h2])
   ·refine ⟨bl,?_⟩
    have e:subS p q b c bl cur=subTo p q b c bl 0 cur:=if_neg hq0
    rw [e]
    have:=l_sDiv0 (O:=O) (by_:=by_) (quo:=quo.set c q) (z:=z) (z':=z') (i:=c) (bl:=bl) ⟨by omega,hq.2⟩ hb hbl (by omega) h0 bl 0 cur (Nat.zero_add _) hc hcan
    exact this
  obtain ⟨k,l0⟩:=l0
  simp -implicitDefEqProofs [Z3g_L1,dn_cond,h1,hi64,hic,t2,t3,hx,w1,w2,w3,w4,w5,w6,hc64,hcq,hp0,l0]
def K_sDivide (O:Oracle):Prop:=∀(p:Int) [IsP p] (a b:Fp p),b≠0→a.len≤64→b.len≤64 →
 ask O F3g [(D.int .i64 p),(D.arr 64 .leaf (ints .u8 (pad (row a)))),(D.arr 64 .leaf (ints .u8 (pad (row b))))]=some (.tup [(D.arr 64 .leaf (ints .u8 (pad (row (a/b))))),(D.arr 64 .leaf (ints .u8 (pad (row (a%b)))))])
theorem pad_take {p:Int} {b:Fp p} (h:b.len≤64):(pad (row b)).take b.len=row b:=by
 apply List.ext_getElem
 ·rw [List.length_take,pad_length,row_length]; omega
 ·intro i h1 h2
  rw [List.getElem_take,←cf_lt,pad_row_cf h,←row_cf,cf_lt h2]
theorem k_sDivide (hT:T F3g=some Z3g) (hd:K_sDeg (den T A)) (hinv:K_sInverse (den T A)):K_sDivide (den T A):=by
 intro p i a b hb hal hbl
 have hp:=IsP.ge (p:=p)
 have hp7:=IsP.le (p:=p)
 have hb0:=Pol.len_pos hb
 have e1:=hd p b hbl
 have e2:=hd p a hal
 have hr:=rep_in b.ld
 have hld:rep b.ld≠0:=fun h0=>Pol.ld_ne hb (rep_eq_zero.1 h0)
 have e3:=hinv p (rep b.ld) (by omega) hr.2
 have hin:=inv_in p (rep b.ld)
 have w1:IntKind.i64.wrap (inv p (rep b.ld))=inv p (rep b.ld):=w64 (by omega)
 have hbx:(pad (row b))[b.len-1]? = some (rep b.ld):=by rw [pad_get _ _ (by omega),row_cf]; rfl
 have hbx':((b.len:Int)-1).toNat=b.len-1:=by omega
 have hbx2:(1:Int)≤(b.len:Int):=by omega
 have hbx3:b.len-1<64:=by omega
 have hz:∀j,cf (pad []) j=0:=fun j=>by rw [pad_cf (by simp),cf_ge (by simp)]
 have hcanz:Can p (pad []):=fun x hx=>by
  obtain ⟨j,_,rfl⟩:=List.mem_map.1 hx
  rw [cf_ge (by simp)]; omega
 have sp:=dv_spec b hb (a.len+1-b.len) (pad (row a)) (pad []) (by rw [pad_length]; omega) (by rw [pad_length]; omega) (pad_can a) (fun j _=>hz j) (fun j hj=>by
  rw [pad_row_cf hal,a.lt_len j (by omega),rep_zero]) hcanz
 have hl1:∀(B:List Int) (c:Nat) (x y:List Int),(dv p (inv p (rep b.ld)) B c (x,y)).1.length=x.length∧(dv p (inv p (rep b.ld)) B c (x,y)).2.length=y.length:=by
  intro B c
  induction c with
  | zero=>exact fun x y=>⟨rfl,rfl⟩
  | succ c ih=>
   intro x y
   rw [dv]
   obtain ⟨i1,i2⟩:=ih (subTo p (cf x (c+B.length-1)*inv p (rep b.ld)%p) B c B.length 0 x) (y.set c (cf x (c+B.length-1)*inv p (rep b.ld)%p))
   exact ⟨by rw [i1,subTo_length],by rw [i2,List.length_set]⟩
 obtain ⟨g1,g2⟩:=hl1 (row b) (a.len+1-b.len) (pad (row a)) (pad [])
 rw [pad_length] at g1 g2
 have l1:=l_sDiv1 (O:=den T A) (b:=pad (row b)) (bl:=b.len) (z:=pad []) (z':=pad []) hin (pad_can b) (pad_length _) hb0 (a.len+1-b.len) (pad (row a)) (pad []) (by omega) (pad_length _) (pad_length _) (pad_can a)
 rw [pad_take hbl] at l1
 generalize dv p (inv p (rep b.ld)) (row b) (a.len+1-b.len) (pad (row a),pad [])=r at *
 obtain ⟨s1,s2,s3,s4⟩:=sp
 have z0:polOf p (pad [])=0:=Pol.ext fun j=>by rw [polOf_c,hz]; rfl
 rw [z0,Gq.zero_mul,Gq.add_zero,polOf_pad hal,Gq.add_comm] at s1
 have hrl:(polOf p r.1).len<b.len:=by
  have:(polOf p r.1).lt (b.len-1):=fun i hi=>by rw [polOf_c,s2 i hi]; rfl
  have:=Pol.len_le this
  omega
 obtain ⟨h1,h2⟩:=Pol.div_mod_eq s1.symm hrl
 rw [h1,h2,←pad_of s3 g1,←pad_of s4 g2]
 have lz:∃n:Int,dn (den T A) 0 (.loop Z3g_L1) ⟨[(0,(.d (.int .i64 p))),(4,.ptr 0 []),(5,.ptr 1 []),(6,.ptr 2 []),(7,.ptr 3 []),(8,.ptr 4 []),(9,(.d (.int .i64 ((b.len:Int)-1)))),(10,(.d (.int .i64 (inv p (rep b.ld))))),(11,(.d (.int .i64 ((a.len:Int)-1))))],[.box false (D.arr 64 .leaf (ints .u8 (pad (row a)))),.box false (D.arr 64 .leaf (ints .u8 (pad (row b)))),.box false (D.arr 64 .leaf (ints .u8 (pad []))),.box false (D.arr 64 .leaf (ints .u8 (pad []))),.box false (D.arr 64 .leaf (ints .u8 (pad [])))]⟩ =
  some (.exit 0,⟨[(0,(.d (.int .i64 p))),(4,.ptr 0 []),(5,.ptr 1 []),(6,.ptr 2 []),(7,.ptr 3 []),(8,.ptr 4 []),(9,(.d (.int .i64 ((b.len:Int)-1)))),(10,(.d (.int .i64 (inv p (rep b.ld))))),(11,(.d (.int .i64 n))),(27,(.d (.bool false)))],[.box false (D.arr 64 .leaf (ints .u8 r.1)),.box false (D.arr 64 .leaf (ints .u8 (pad (row b)))),.box false (D.arr 64 .leaf (ints .u8 (pad []))),.box false (D.arr 64 .leaf (ints .u8 (pad []))),.box false (D.arr 64 .leaf (ints .u8 r.2))]⟩):=by
  by_cases hlt:b.len≤a.len
  ·rw [show ((a.len+1-b.len:Nat):Int)+b.len-2=(a.len:Int)-1 by omega] at l1
   exact ⟨_,l1⟩
  ·rw [show a.len+1-b.len=0 by omega] at l1
   have h3:¬ (b.len:Int)-1≤(b.len:Int)-2:=by omega
   have h4:¬ (b.len:Int)-1≤(a.len:Int)-1:=by omega
   have st:=dn_stop (O:=den T A) (np:=0) (c:=Z3g_L1) (s:=⟨[(0,(.d (.int .i64 p))),(4,.ptr 0 []),(5,.ptr 1 []),(6,.ptr 2 []),(7,.ptr 3 []),(8,.ptr 4 []),(9,(.d (.int .i64 ((b.len:Int)-1)))),(10,(.d (.int .i64 (inv p (rep b.ld))))),(11,(.d (.int .i64 (((0:Nat):Int)+b.len-2))))],[.box false (D.arr 64 .leaf (ints .u8 (pad (row a)))),.box false (D.arr 64 .leaf (ints .u8 (pad (row b)))),.box false (D.arr 64 .leaf (ints .u8 (pad []))),.box false (D.arr 64 .leaf (ints .u8 (pad []))),.box false (D.arr 64 .leaf (ints .u8 (pad [])))]⟩) (s1:=⟨[(0,(.d (.int .i64 p))),(4,.ptr 0 []),(5,.ptr 1 []),(6,.ptr 2 []),(7,.ptr 3 []),(8,.ptr 4 []),(9,(.d (.int .i64 ((b.len:Int)-1)))),(10,(.d (.int .i64 (inv p (rep b.ld))))),(11,(.d (.int .i64 (((0:Nat):Int)+b.len-2)))),(27,(.d (.bool false)))],[.box false (D.arr 64 .leaf (ints .u8 (pad (row a)))),.box false (D.arr 64 .leaf (ints .u8 (pad (row b)))),.box false (D.arr 64 .leaf (ints .u8 (pad []))),.box false (D.arr 64 .leaf (ints .u8 (pad []))),.box false (D.arr 64 .leaf (ints .u8 (pad [])))]⟩) (id:=0) (by
    have h3':¬ (b.len:Int)-1≤((0:Nat):Int)+b.len-2:=by omega
    simp -implicitDefEqProofs only [Int.natCast_zero,Int.zero_add] at h3' ⊢
    simp -implicitDefEqProofs [Z3g_L1,dn_cond,h3'])
   rw [st] at l1
   have l2:=Option.some.inj l1
   injection l2 with _ l3
   injection l3 with _ l4
   injection l4 with l5 l6
   injection l6 with _ l7
   injection l7 with _ l8
   injection l8 with _ l9
   injection l9 with l10 _
   have e5:(D.arr 64 .leaf (ints .u8 (pad (row a))))=(D.arr 64 .leaf (ints .u8 r.1)):=by injection l5
   have e6:(D.arr 64 .leaf (ints .u8 (pad [])))=(D.arr 64 .leaf (ints .u8 r.2)):=by injection l10
   rw [←e5,←e6]
   exact ⟨(a.len:Int)-1,dn_stop (by simp -implicitDefEqProofs [Z3g_L1,dn_cond,h4])⟩
 obtain ⟨n,lz⟩:=lz
 refine ask_of hT rfl ?_
 obtain ⟨r1,r2⟩:=r
 simp only at lz ⊢
 generalize pad (row a)=PA at *
 generalize pad (row b)=PB at *
 simp -implicitDefEqProofs [Z3g,Z3g_B,e1,e2,e3,w1,hbx,hbx',hbx2,hbx3,lz]
end Pe

namespace Pe
open Go Gq
variable {T:Nat→Option Fn} {A:Oracle}
def K_sMod (O:Oracle):Prop:=∀(p:Int) [IsP p] (a b:Fp p),b≠0→a.len≤64→b.len≤64 →
 ask O F3o [(D.int .i64 p),(D.arr 64 .leaf (ints .u8 (pad (row a)))),(D.arr 64 .leaf (ints .u8 (pad (row b))))]=some (D.arr 64 .leaf (ints .u8 (pad (row (a%b)))))
theorem k_sMod (hT:T F3o=some Z3o) (hd:K_sDivide (den T A)):K_sMod (den T A):=by
 intro p i a b hb h1 h2
 have e:=hd p a b hb h1 h2
 refine ask_of hT rfl ?_
 simp -implicitDefEqProofs [Z3o,Z3o_B,e]
theorem cf_upd (f:Nat→Int) (m i:Nat) (l:List Int) (j:Nat):cf (upd f m i l) j=if i≤j∧j<i+m∧j<l.length then f j else cf l j:=by
 unfold cf
 rw [List.getD_eq_getElem?_getD,List.getD_eq_getElem?_getD,upd_get]
 split <;> rfl
theorem l_sUp0 {O:Oracle} {p:Int} {a:List Int} {mm z:List Int} {n:Nat} {top:Int} (hal:a.length=64) (hn:n<64):∀(k i:Nat) (cur:List Int),i+k=n→1≤i→cur.length=64 →
 dn O 0 (.loop Z3z_L0) ⟨[(0,(.d (.int .i64 p))),(4,.ptr 0 []),(5,.ptr 1 []),(6,.ptr 2 []),(7,(.d (.int .i64 n))),(8,(.d (.int .i64 top))),(9,.ptr 3 []),(10,(.d (.int .i64 i)))],[.box false (D.arr 64 .leaf (ints .u8 a)),.box false (D.arr 64 .leaf (ints .u8 mm)),.box false (D.arr 64 .leaf (ints .u8 z)),.box false (D.arr 64 .leaf (ints .u8 cur))]⟩ =
  some (.exit 0,⟨[(0,(.d (.int .i64 p))),(4,.ptr 0 []),(5,.ptr 1 []),(6,.ptr 2 []),(7,(.d (.int .i64 n))),(8,(.d (.int .i64 top))),(9,.ptr 3 []),(10,(.d (.int .i64 n))),(26,(.d (.bool false)))],[.box false (D.arr 64 .leaf (ints .u8 a)),.box false (D.arr 64 .leaf (ints .u8 mm)),.box false (D.arr 64 .leaf (ints .u8 z)),.box false (D.arr 64 .leaf (ints .u8 (upd (fun j=>cf a (j-1)) k i cur)))]⟩)
 | 0,i,cur,hi,h1,hc=>by
  obtain rfl:i=n:=by omega
  exact dn_stop (by simp -implicitDefEqProofs [Z3z_L0,dn_cond,upd])
 | k+1,i,cur,hi,h1,hc=>by
  have hlt:i<n:=by omega
  have hi1:i-1<a.length:=by omega
  have hi2:i-1<64:=by omega
  have hi64:i<64:=by omega
  have hic:i<cur.length:=by omega
  have hx:a[i-1]=cf a (i-1):=(cf_lt hi1).symm
  have w1:IntKind.i64.wrap ((i:Int)-1)=((i-1:Nat):Int):=(w64 (x:=(i:Int)-1) (by omega)).trans (by omega)
  have w4:IntKind.i64.wrap ((i:Int)+1)=((i+1:Nat):Int):=(w64 (x:=(i:Int)+1) (by omega)).trans (by omega)
  refine dn_round ?_ (l_sUp0 hal hn k (i+1) (cur.set i (cf a (i-1))) (by omega) (by omega) (by simpa using hc))
  simp -implicitDefEqProofs [Z3z_L0,dn_cond,hlt,hi1,hi2,hi64,hic,hx,w1,w4]
theorem l_sUp1 {O:Oracle} {p q:Int} [IsP p] {b z out:List Int} {n:Nat} {hol:Blk} (hh:hol=.hole) (hb:Can p b) (hbl:b.length=64) (hq:0≤q∧q<p) (hn:n<64) (ho:Can p out):∀(k i:Nat) (cur:List Int),i+k=n→cur.length=64→(∀j,i≤j→cf cur j=cf out j) →
 dn O 0 (.loop Z3z_L1) ⟨[(0,(.d (.int .i64 p))),(5,.ptr 1 []),(6,.ptr 2 []),(7,(.d (.int .i64 n))),(9,.ptr 3 []),(11,(.d (.int .i64 q))),(12,(.d (.int .i64 i)))],[hol,.box false (D.arr 64 .leaf (ints .u8 b)),.box false (D.arr 64 .leaf (ints .u8 z)),.box false (D.arr 64 .leaf (ints .u8 cur))]⟩ =
  some (.exit 2,⟨[(0,(.d (.int .i64 p))),(5,.ptr 1 []),(6,.ptr 2 []),(7,(.d (.int .i64 n))),(9,.ptr 3 []),(11,(.d (.int .i64 q))),(12,(.d (.int .i64 n))),(47,(.d (.bool false)))],[hol,.box false (D.arr 64 .leaf (ints .u8 b)),.box false (D.arr 64 .leaf (ints .u8 z)),.box false (D.arr 64 .leaf (ints .u8 (upd (fun j=>(cf out j-q*cf b j)%p) k i cur)))]⟩)
 | 0,i,cur,hi,hc,hs=>by
  subst hh
  obtain rfl:i=n:=by omega
  exact dn_stop (by simp -implicitDefEqProofs [Z3z_L1,dn_cond,upd])
 | k+1,i,cur,hi,hc,hs=>by
  have hp:=IsP.pos (p:=p)
  have hp7:=IsP.le (p:=p)
  have hp0:p≠0:=by omega
  have hlt:i<n:=by omega
  have hi64:i<64:=by omega
  have hic:i<cur.length:=by omega
  have hib:i<b.length:=by omega
  have hx:cur[i]=cf out i:=by rw [←cf_lt hic]; exact hs i (Nat.le_refl i)
  have hy:b[i]=cf b i:=(cf_lt hib).symm
  have gc:=ho.le hp i
  have gb:=hb.le hp i
  have gm:=mul_small (x:=q) (y:=cf b i) (b:=10) (c:=10) (by omega) (by omega) (by omega)
  have w3:IntKind.i64.wrap (cf out i)=cf out i:=w64 (by omega)
  have w5:IntKind.i64.wrap (cf b i)=cf b i:=w64 (by omega)
  have w6:IntKind.i64.wrap (q*cf b i)=q*cf b i:=w64 (by omega)
  have w7:IntKind.i64.wrap (cf out i-q*cf b i)=cf out i-q*cf b i:=w64 (by omega)
  have hin:=tmod_in (n:=cf out i-q*cf b i) hp
  have w9:IntKind.i64.wrap ((cf out i-q*cf b i).tmod p+p)=(cf out i-q*cf b i).tmod p+p:=w64 (by omega)
  have w10:((cf out i-q*cf b i).tmod p+p).tmod p=(cf out i-q*cf b i)%p:=tmod_tmod hp
  have hlin:0≤(cf out i-q*cf b i)%p∧(cf out i-q*cf b i)%p<p:=⟨Int.emod_nonneg _ (by omega),Int.emod_lt_of_pos _ hp⟩
  have w11:IntKind.u8.wrap ((cf out i-q*cf b i)%p)=(cf out i-q*cf b i)%p:=w8 (by omega)
  have w4:IntKind.i64.wrap ((i:Int)+1)=((i+1:Nat):Int):=(w64 (x:=(i:Int)+1) (by omega)).trans (by omega)
  refine dn_round ?_ (l_sUp1 hh hb hbl hq hn ho k (i+1) (cur.set i ((cf out i-q*cf b i)%p)) (by omega) (by simpa using hc) (fun j hj=>by rw [cf_set,if_neg (by omega)]; exact hs j (by omega)))
  subst hh
  simp -implicitDefEqProofs [Z3z_L1,dn_cond,hlt,hi64,hic,hib,hx,hy,w3,w5,w6,w7,w9,w10,w11,w4,hp0]
def K_sUp (O:Oracle):Prop:=∀(p:Int) [IsP p] (a m:Fp p),m≠0→a.len<m.len→m.len≤64 →
 ask O F3z [(D.int .i64 p),(D.arr 64 .leaf (ints .u8 (pad (row a)))),(D.arr 64 .leaf (ints .u8 (pad (row m))))]=some (D.arr 64 .leaf (ints .u8 (pad (row (Pol.X*a%m)))))
theorem k_sUp (hT:T F3z=some Z3z) (hd:K_sDeg (den T A)) (hinv:K_sInverse (den T A)):K_sUp (den T A):=by
 intro p i a m hm hal hml
 have hp:=IsP.ge (p:=p)
 have hp7:=IsP.le (p:=p)
 have e1:=hd p m hml
 refine ask_of hT rfl ?_
 by_cases h1:m.len=1
 ·have ha:a=0:=Pol.len_zero_iff.1 (by omega)
  subst ha
  rw [Gq.mul_zero,Pol.zero_mod hm,row_zero]
  rw [h1] at e1
  simp -implicitDefEqProofs [Z3z,Z3z_B,dn_cond,e1]
 ·have hm0:=Pol.len_pos hm
  obtain ⟨n,hn⟩:∃n,m.len=n+2:=⟨m.len-2,by omega⟩
  have e1':ask (den T A) F3f [(D.arr 64 .leaf (ints .u8 (pad (row m))))]=some (D.int .i64 ((n+1:Nat))):=by rw [e1,hn]; congr 2; omega
  have hr:=rep_in m.ld
  have hld:rep m.ld≠0:=fun h0=>Pol.ld_ne hm (rep_eq_zero.1 h0)
  have e3:=hinv p (rep m.ld) (by omega) hr.2
  have hin:=inv_in p (rep m.ld)
  have hpa:a.len≤64:=by omega
  have hax:(pad (row a))[n]? = some (rep (a.c n)):=by rw [pad_get _ _ (by omega),row_cf]
  have hmx:(pad (row m))[n+1]? = some (rep m.ld):=by
   rw [pad_get _ _ (by omega),row_cf]
   unfold Pol.ld
   rw [hn]; rfl
  have ha0:=rep_in (a.c n)
  have w0:IntKind.i64.wrap ((n:Int)+1-1)=(n:Int):=(w64 (x:=(n:Int)+1-1) (by omega)).trans (by omega)
  have w0':IntKind.i64.wrap (n:Int)=(n:Int):=w64 (by omega)
  have w1:IntKind.i64.wrap (rep (a.c n))=rep (a.c n):=w64 (by omega)
  have w2:IntKind.i64.wrap (inv p (rep m.ld))=inv p (rep m.ld):=w64 (by omega)
  have gm:=mul_small (x:=rep (a.c n)) (y:=inv p (rep m.ld)) (b:=10) (c:=10) (by omega) (by omega) (by omega)
  have w3:IntKind.i64.wrap (rep (a.c n)*inv p (rep m.ld))=rep (a.c n)*inv p (rep m.ld):=w64 (by omega)
  have w4:(rep (a.c n)*inv p (rep m.ld)).tmod p=rep (a.c n)*inv p (rep m.ld)%p:=Int.tmod_eq_emod_of_nonneg (Int.mul_nonneg ha0.1 hin.1)
  have hq:0≤rep (a.c n)*inv p (rep m.ld)%p∧rep (a.c n)*inv p (rep m.ld)%p<p:=⟨Int.emod_nonneg _ (by omega),Int.emod_lt_of_pos _ (by omega)⟩
  have hqz:zp p (rep (a.c n)*inv p (rep m.ld)%p)=a.c n*Fd.inv m.ld:=by
   rw [zp_mod,zp_mul,zp_rep,finv_rep _ (Pol.ld_ne hm)]
  generalize rep (a.c n)*inv p (rep m.ld)%p=q at *
  have l0:=l_sUp0 (O:=den T A) (p:=p) (a:=pad (row a)) (mm:=pad (row m)) (z:=pad []) (n:=n+1) (top:=rep (a.c n)) (pad_length _) (by omega) n 1 (pad []) (by omega) (Nat.le_refl 1) (pad_length _)
  have hz:∀j,cf (pad []) j=0:=fun j=>by rw [pad_cf (by simp),cf_ge (by simp)]
  have c0:∀j,cf (upd (fun j=>cf (pad (row a)) (j-1)) n 1 (pad [])) j=if 1≤j∧j<n+1 then rep (a.c (j-1)) else 0:=fun j=>by
   rw [cf_upd,hz,pad_length]
   by_cases h:1≤j∧j<n+1
   ·rw [if_pos (by omega),if_pos h,pad_row_cf hpa]
   ·rw [if_neg (by omega),if_neg h]
  have hlen0:(upd (fun j=>cf (pad (row a)) (j-1)) n 1 (pad [])).length=64:=by rw [upd_length,pad_length]
  generalize upd (fun j=>cf (pad (row a)) (j-1)) n 1 (pad [])=out at *
  have hcan0:Can p out:=Can.of_cf fun j _=>by rw [c0]; split; exact rep_in _; omega
  have l1:=l_sUp1 (O:=den T A) (p:=p) (q:=q) (b:=pad (row m)) (z:=pad []) (out:=out) (n:=n+1) rfl (pad_can m) (pad_length _) hq (by omega) hcan0 (n+1) 0 out (by omega) hlen0 (fun _ _=>rfl)
  have hres:upd (fun j=>(cf out j-q*cf (pad (row m)) j)%p) (n+1) 0 out=pad (row (Pol.X*a%m)):=by
   have hlenR:(upd (fun j=>(cf out j-q*cf (pad (row m)) j)%p) (n+1) 0 out).length=64:=by rw [upd_length,hlen0]
   have hcR:∀j,cf (upd (fun j=>(cf out j-q*cf (pad (row m)) j)%p) (n+1) 0 out) j=if j<n+1 then (cf out j-q*rep (m.c j))%p else 0:=fun j=>by
    rw [cf_upd,hlen0]
    by_cases h:j<n+1
    ·rw [if_pos (by omega),if_pos h,pad_row_cf hml]
    ·rw [if_neg (by omega),if_neg h,c0,if_neg (by omega)]
   have hcanR:Can p (upd (fun j=>(cf out j-q*cf (pad (row m)) j)%p) (n+1) 0 out):=Can.of_cf fun j _=>by
    rw [hcR]; split
    ·exact ⟨Int.emod_nonneg _ (by omega),Int.emod_lt_of_pos _ (by omega)⟩
    ·omega
   rw [pad_of hcanR hlenR]
   congr 2
   symm
   refine (Pol.div_mod_eq (q:=Pol.C (zp p q)) ?_ ?_).2
   ·refine Pol.ext fun j=>?_
    rw [Pol.c_add,Pol.c_Cmul,Pol.c_Xmul,polOf_c,hcR]
    rcases Nat.lt_trichotomy j (n+1) with h | h | h
    ·rw [if_pos h,zp_mod,zp_sub,zp_mul,zp_rep,c0]
     by_cases hj:j=0
     ·subst hj
      rw [if_pos rfl,if_neg (by omega),zp_zero]
      exact ring_of [zp p q,m.c 0] rfl
     ·rw [if_neg hj,if_pos (by omega),zp_rep]
      exact ring_of [zp p q,m.c j,a.c (j-1)] rfl
    ·subst h
     rw [if_neg (by omega),if_neg (by omega),zp_zero,Gq.add_zero,hqz]
     have e:m.c (n+1)=m.ld:=by unfold Pol.ld; rw [hn]; rfl
     rw [e,Gq.mul_assoc,Gq.mul_comm (Fd.inv m.ld),Fd.mul_inv _ (Pol.ld_ne hm),Gq.mul_one]; rfl
    ·rw [if_neg (by omega),if_neg (by omega),zp_zero,m.lt_len j (by omega),Gq.mul_zero,Gq.add_zero,a.lt_len (j-1) (by omega)]
   ·have:(polOf p (upd (fun j=>(cf out j-q*cf (pad (row m)) j)%p) (n+1) 0 out)).lt (n+1):=fun j hj=>by
     rw [polOf_c,hcR,if_neg (by omega)]; rfl
    have:=Pol.len_le this
    omega
  rw [hres] at l1
  have e0:((0:Nat):Int)=0:=rfl
  have e11:((1:Nat):Int)=1:=rfl
  have en:((n+1:Nat):Int)=(n:Int)+1:=by omega
  rw [e0,en] at l1
  rw [e11,en] at l0
  rw [en] at e1'
  have hp0:p≠0:=by omega
  have hn64:n<64:=by omega
  have hn65:n+1<64:=by omega
  have t1:¬ (n:Int)+1=0:=by omega
  have t2:(0:Int)≤(n:Int)+1:=by omega
  have t3:((n:Int)+1).toNat=n+1:=by omega
  generalize pad (row (Pol.X*a%m))=R at *
  generalize pad (row a)=PA at *
  generalize pad (row m)=PM at *
  simp -implicitDefEqProofs [Z3z,Z3z_B,dn_cond,e1',e3,hax,hmx,w0',w1,w2,w3,w4,l0,l1,hn64,hn65,t1,t2,t3,hp0]
def tailP {p:Int} (b:Fp p) (i:Nat):Fp p:=⟨fun j=>b.c (i+j),b.len,fun j hj=>b.lt_len _ (by omega)⟩
theorem tailP_zero {p:Int} (b:Fp p):tailP b 0=b:=Pol.ext fun j=>by show b.c (0+j)=b.c j; rw [Nat.zero_add]
theorem tailP_top {p:Int} (b:Fp p):tailP b b.len=0:=Pol.ext fun j=>b.lt_len _ (by omega)
theorem tailP_step {p:Int} (b:Fp p) (i:Nat):tailP b i=Pol.X*tailP b (i+1)+Pol.C (b.c i):=Pol.ext fun j=>by
 rw [Pol.c_add,Pol.c_Xmul,Pol.c_C]
 show b.c (i+j)=(if j=0 then 0 else b.c (i+1+(j-1)))+if j=0 then b.c i else 0
 by_cases h:j=0
 ·subst h; rw [if_pos rfl,if_pos rfl,Gq.zero_add]; rfl
 ·rw [if_neg h,if_neg h,Gq.add_zero,show i+1+(j-1)=i+j by omega]
theorem l_sMulMod {O:Oracle} (hu:K_sUp O) (ha:K_sAdd O) (hmo:K_sMod O) {p:Int} [IsP p] {a b m:Fp p} {z:List Int} (hm:m≠0) (hml:m.len≤64) (hal:a.len≤64) (hbl:b.len≤64):∀(n:Nat),n≤b.len →
 dn O 0 (.loop Z3q_L0) ⟨[(0,(.d (.int .i64 p))),(5,.ptr 0 []),(6,.ptr 1 []),(7,.ptr 2 []),(8,.ptr 3 []),(9,.ptr 4 []),(10,(.d (.int .i64 ((n:Int)-1))))],[.box false (D.arr 64 .leaf (ints .u8 (pad (row a)))),.box false (D.arr 64 .leaf (ints .u8 (pad (row b)))),.box false (D.arr 64 .leaf (ints .u8 (pad (row m)))),.box false (D.arr 64 .leaf (ints .u8 z)),.box false (D.arr 64 .leaf (ints .u8 (pad (row (a*tailP b n%m)))))]⟩ =
  some (.exit 0,⟨[(0,(.d (.int .i64 p))),(5,.ptr 0 []),(6,.ptr 1 []),(7,.ptr 2 []),(8,.ptr 3 []),(9,.ptr 4 []),(10,(.d (.int .i64 (-1)))),(15,(.d (.bool false)))],[.box false (D.arr 64 .leaf (ints .u8 (pad (row a)))),.box false (D.arr 64 .leaf (ints .u8 (pad (row b)))),.box false (D.arr 64 .leaf (ints .u8 (pad (row m)))),.box false (D.arr 64 .leaf (ints .u8 z)),.box false (D.arr 64 .leaf (ints .u8 (pad (row (a*b%m)))))]⟩)
 | 0,_=>by
  rw [tailP_zero]
  exact dn_stop (by simp -implicitDefEqProofs [Z3q_L0,dn_cond])
 | n+1,hn=>by
  have hp:=IsP.pos (p:=p)
  have hp7:=IsP.le (p:=p)
  have hlr:=Pol.len_mod (a*tailP b (n+1)) hm
  have hr:=rep_in (b.c n)
  have e1:=hu p (a*tailP b (n+1)%m) m hm hlr hml
  have hl2:=Pol.len_mod (Pol.X*(a*tailP b (n+1)%m)) hm
  have e2:=ha p (rep (b.c n)) (Pol.X*(a*tailP b (n+1)%m)%m) a (by omega) (by omega) (by omega) hal
  rw [zp_rep] at e2
  have hl3:=Pol.len_add_le (a:=Pol.X*(a*tailP b (n+1)%m)%m) (b:=Pol.C (b.c n)*a) (n:=64) (by omega) (Nat.le_trans (Pol.len_le (Pol.lt_Cmul _ a.lt_len)) hal)
  have e3:=hmo p (Pol.X*(a*tailP b (n+1)%m)%m+Pol.C (b.c n)*a) m hm hl3 hml
  have e4:(Pol.X*(a*tailP b (n+1)%m)%m+Pol.C (b.c n)*a)%m=a*tailP b n%m:=by
   rw [tailP_step b n,Pol.mod_eq_iff hm,Quo.mk_add,Pol.mk_mod,Quo.mk_mul,Pol.mk_mod,←Quo.mk_mul,←Quo.mk_add]
   congr 1
   exact ring_of [Pol.X,a,tailP b (n+1),Pol.C (b.c n)] rfl
  rw [e4] at e3
  have t0:(((n+1:Nat):Int)-1)=(n:Int):=by omega
  rw [t0]
  have hn64:n<64:=by omega
  have hx:(pad (row b))[n]? = some (rep (b.c n)):=by rw [pad_get _ _ hn64,row_cf]
  have w1:IntKind.i64.wrap (rep (b.c n))=rep (b.c n):=w64 (by omega)
  have w2:IntKind.i64.wrap ((n:Int)-1)=(n:Int)-1:=w64 (by omega)
  refine dn_round ?_ (l_sMulMod hu ha hmo hm hml hal hbl n (by omega))
  generalize pad (row (a*tailP b n%m))=R at *
  generalize pad (row (a*tailP b (n+1)%m))=R1 at *
  generalize pad (row (Pol.X*(a*tailP b (n+1)%m)%m+Pol.C (b.c n)*a))=R2 at *
  generalize pad (row (Pol.X*(a*tailP b (n+1)%m)%m))=R3 at *
  generalize pad (row a)=PA at *
  generalize pad (row b)=PB at *
  generalize pad (row m)=PM at *
  simp -implicitDefEqProofs [Z3q_L0,dn_cond,e1,e2,e3,hn64,hx,w1,w2]
def K_sMulMod (O:Oracle):Prop:=∀(p:Int) [IsP p] (a b m:Fp p),m≠0→m.len≤64→a.len≤64→b.len≤64 →
 ask O F3q [(D.int .i64 p),(D.arr 64 .leaf (ints .u8 (pad (row a)))),(D.arr 64 .leaf (ints .u8 (pad (row b)))),(D.arr 64 .leaf (ints .u8 (pad (row m))))]=some (D.arr 64 .leaf (ints .u8 (pad (row (a*b%m)))))
theorem k_sMulMod (hT:T F3q=some Z3q) (hd:K_sDeg (den T A)) (hu:K_sUp (den T A)) (ha:K_sAdd (den T A)) (hmo:K_sMod (den T A)):K_sMulMod (den T A):=by
 intro p i a b m hm hml hal hbl
 have e1:=hd p b hbl
 have e2:=l_sMulMod (O:=den T A) (z:=pad []) hu ha hmo hm hml hal hbl b.len (Nat.le_refl _)
 rw [tailP_top,Gq.mul_zero,Pol.zero_mod hm,row_zero] at e2
 refine ask_of hT rfl ?_
 generalize pad (row (a*b%m))=R at *
 generalize pad (row a)=PA at *
 generalize pad (row b)=PB at *
 generalize pad (row m)=PM at *
 simp -implicitDefEqProofs [Z3q,Z3q_B,e1,e2]
theorem l_sPow {O:Oracle} (hmm:K_sMulMod O) {p:Int} [IsP p] {m:Fp p} {z:List Int} {hol:Blk} (hh:hol=.hole) (hm:m≠0) (hml:m.len≤64):∀(n:Nat) (k:Int) (out base:Fp p),0≤k→k.toNat<2^n→k<4611686018427387904→out.len<m.len→base.len<m.len→∃base':List Int,
 dn O 0 (.loop Z3v_L0) ⟨[(0,(.d (.int .i64 p))),(2,(.d (.int .i64 k))),(7,.ptr 1 []),(8,.ptr 2 []),(9,.ptr 3 []),(10,.ptr 4 [])],[hol,.box false (D.arr 64 .leaf (ints .u8 (pad (row m)))),.box false (D.arr 64 .leaf (ints .u8 z)),.box false (D.arr 64 .leaf (ints .u8 (pad (row out)))),.box false (D.arr 64 .leaf (ints .u8 (pad (row base))))]⟩ =
  some (.exit 0,⟨[(0,(.d (.int .i64 p))),(2,(.d (.int .i64 0))),(7,.ptr 1 []),(8,.ptr 2 []),(9,.ptr 3 []),(10,.ptr 4 []),(20,(.d (.bool false)))],[hol,.box false (D.arr 64 .leaf (ints .u8 (pad (row m)))),.box false (D.arr 64 .leaf (ints .u8 z)),.box false (D.arr 64 .leaf (ints .u8 (pad (row (out*pw base k.toNat%m))))),.box false (D.arr 64 .leaf (ints .u8 base'))]⟩):=by
 intro n
 induction n with
 | zero=>
  intro k out base hk hn _ ho hb
  obtain rfl:k=0:=by simp at hn; omega
  refine ⟨pad (row base),?_⟩
  have e:out*pw base (0:Int).toNat%m=out:=by
   show out*1%m=out
   rw [Gq.mul_one,Pol.mod_small ho]
  rw [e]
  subst hh
  exact dn_stop (by simp -implicitDefEqProofs [Z3v_L0,dn_cond])
 | succ n ih=>
  intro k out base hk hn hkm ho hb
  by_cases h0:k=0
  ·subst h0
   refine ⟨pad (row base),?_⟩
   have e:out*pw base (0:Int).toNat%m=out:=by
    show out*1%m=out
    rw [Gq.mul_one,Pol.mod_small ho]
   rw [e]
   subst hh
   exact dn_stop (by simp -implicitDefEqProofs [Z3v_L0,dn_cond])
  ·have hkp:0<k:=by omega
   have t1:=hmm p out base m hm hml (by omega) (by omega)
   have t2:=hmm p base base m hm hml (by omega) (by omega)
   have s:=Pol.bin_step (out:=out) (base:=base) hm k.toNat (by omega)
   have hdiv:(k/2).toNat=k.toNat/2:=by omega
   obtain ⟨b',e⟩:=ih (k/2) (if k.toNat%2=1 then out*base%m else out) (base*base%m) (by omega) (by rw [Nat.pow_succ] at hn; omega) (by omega) (by split; exact Pol.len_mod _ hm; exact ho) (Pol.len_mod _ hm)
   rw [hdiv,s] at e
   refine ⟨b',dn_round ?_ e⟩
   subst hh
   have w1:IntKind.i64.wrap (k.tdiv 2)=k/2:=by rw [Int.tdiv_eq_ediv_of_nonneg hk,w64 (by omega)]
   have w2:k.tmod 2=k%2:=Int.tmod_eq_emod_of_nonneg hk
   by_cases hodd:k%2=1
   ·rw [if_pos (show k.toNat%2=1 by omega)]
    generalize pad (row (out*base%m))=R1 at *
    generalize pad (row (base*base%m))=R2 at *
    generalize pad (row out)=R3 at *
    generalize pad (row base)=R4 at *
    generalize pad (row m)=R5 at *
    simp -implicitDefEqProofs [Z3v_L0,dn_cond,hkp,t1,t2,w1,w2,hodd]
   ·rw [if_neg (show ¬ k.toNat%2=1 by omega)]
    generalize pad (row (base*base%m))=R2 at *
    generalize pad (row out)=R3 at *
    generalize pad (row base)=R4 at *
    generalize pad (row m)=R5 at *
    simp -implicitDefEqProofs [Z3v_L0,dn_cond,hkp,t2,w1,w2,hodd]
def K_sPowMod (O:Oracle):Prop:=∀(p:Int) [IsP p] (a:Fp p) (k:Int) (m:Fp p),m≠0→a.len≤64→m.len≤64→0≤k→k<4611686018427387904 →
 ask O F3v [(D.int .i64 p),(D.arr 64 .leaf (ints .u8 (pad (row a)))),(D.int .i64 k),(D.arr 64 .leaf (ints .u8 (pad (row m))))]=some (D.arr 64 .leaf (ints .u8 (pad (row (pw a k.toNat%m)))))
theorem k_sPowMod (hT:T F3v=some Z3v) (h1:K_sOne (den T A)) (hmo:K_sMod (den T A)) (hmm:K_sMulMod (den T A)):K_sPowMod (den T A):=by
 intro p i a k m hm hal hml hk hkm
 have e1:=h1 p
 have e2:=hmo p 1 m hm (by rw [Pol.len_one]; omega) hml
 have e3:=hmo p a m hm hal hml
 obtain ⟨b',e⟩:=l_sPow (O:=den T A) hmm (z:=pad []) (hol:=.hole) rfl hm hml 62 k (1%m) (a%m) hk (by omega) hkm (Pol.len_mod _ hm) (Pol.len_mod _ hm)
 have e4:1%m*pw (a%m) k.toNat%m=pw a k.toNat%m:=by
  rw [Pol.mul_mod_left _ _ hm,Gq.one_mul,Pol.pow_mod _ hm]
 rw [e4] at e
 refine ask_of hT rfl ?_
 generalize pad (row (pw a k.toNat%m))=R at *
 generalize pad (row (1%m))=R1 at *
 generalize pad (row (a%m))=R2 at *
 generalize pad (row (1:Fp p))=R3 at *
 generalize pad (row a)=PA at *
 generalize pad (row m)=PM at *
 simp -implicitDefEqProofs [Z3v,Z3v_B,e1,e2,e3,e]
end Pe

namespace Pe
open Go Gq
section
variable {p:Int} [IsP p]
noncomputable def frW (m:Fp p) (k:Nat):Fp p:=pw Pol.X (p.toNat^k)%m-Pol.X
theorem frW_dv {m q:Fp p} (_hm:m≠0) (hq:Dv q m) (k:Nat):Dv q (frW m k)↔Dv q (frT p k):=by
 have h1:frT p k=frW m k+pw Pol.X (p.toNat^k)/m*m:=by
  have h:=Pol.div_mod (pw Pol.X (p.toNat^k)) m
  show pw Pol.X (p.toNat^k)-Pol.X=pw Pol.X (p.toNat^k)%m-Pol.X+pw Pol.X (p.toNat^k)/m*m
  generalize pw Pol.X (p.toNat^k)%m=R at *
  generalize pw Pol.X (p.toNat^k)/m=Q at *
  rw [h]
  exact ring_of [Q,m,R,Pol.X] rfl
 have h2:Dv q (pw Pol.X (p.toNat^k)/m*m):=hq.mul_left _
 constructor
 ·intro h; rw [h1]; exact h.add h2
 ·intro h
  have:=h.sub h2
  rw [h1] at this
  have e:frW m k+pw Pol.X (p.toNat^k)/m*m-pw Pol.X (p.toNat^k)/m*m=frW m k:=ring_of [frW m k,pw Pol.X (p.toNat^k)/m,m] rfl
  rwa [e] at this
theorem irr_test {m:Fp p} (h2:2≤m.len) (h13:m.len≤13):(∀k,1≤k→2*k≤m.len-1→(Pol.gcd m (frW m k)).len=1)↔Irr m:=by
 have hm:m≠0:=fun h=>by rw [h,Pol.len_zero] at h2; omega
 have small:∀d,d≤12→p^d<1000000000000:=fun d hd=>by
  have h1:=ipow_mono (p:=p) (by have:=IsP.pos (p:=p); omega) hd
  have h7:=ppow_le (p:=p) (n:=12) (by omega)
  omega
 constructor
 ·intro h
  refine irr_of_noSmall (n:=(m.len-1)/2+1) (fun q hq hd=>?_) h2 (by omega)
  rcases Nat.lt_or_ge ((m.len-1)/2+1) q.len with g | g
  ·omega
  ·exfalso
   have hl:=hq.len
   have h1:=h (q.len-1) (by omega) (by omega)
   have h3:Dv q (frT p (q.len-1)):=irr_frT hq (by omega) (small _ (by omega))
   have h4:=Pol.dv_gcd (.inl hm) hd ((frW_dv hm hd _).2 h3)
   have h5:=h4.len (fun h0=>by rw [h0,Pol.len_zero] at h1; omega)
   omega
 ·intro hi k hk hk2
  by_cases hd:Dv m (frW m k)
  ·have h3:=(frW_dv hm (Dv.refl m) k).1 hd
   have:=irr_frT_le hi (d:=m.len-1) (by omega) (small _ (by omega)) hk h3
   omega
  ·obtain ⟨u,v,e⟩:=hi.coprime hd
   have h1:=Pol.gcd_dv_left (a:=m) (b:=frW m k) (.inl hm)
   have h3:=Pol.gcd_dv_right (a:=m) (b:=frW m k) (.inl hm)
   have h4:Dv (Pol.gcd m (frW m k)) 1:=by
    rw [←e]
    exact (h1.mul_left u).add (h3.mul_left v)
   have h5:=h4.len Pol.one_ne
   rw [Pol.len_one] at h5
   have h6:=Pol.len_pos (Pol.gcd_monic (a:=m) (b:=frW m k) (.inl hm)).2
   omega
theorem fac_irr {m:Fp p} (hi:Irr m) (hm:Monic m):IsFac m [(m,1)] where
 ok:=⟨fun x hx=>by simp only [List.mem_singleton] at hx; subst hx; exact ⟨hi,hm,Nat.le_refl 1⟩,List.pairwise_singleton _ _⟩
 sorted:=List.pairwise_singleton _ _
 eq:=by
  rw [hm.1,Pol.C_one,Gq.one_mul]
  show m=pw m 1*1
  rw [pw_1,Gq.mul_one]
theorem irr_fac {m:Fp p} {L:Facs p} (hm:Monic m) (h:IsFac m L):(∃q,L=[(q,1)])↔Irr m:=by
 constructor
 ·rintro ⟨q,rfl⟩
  have e:=h.eq
  rw [hm.1,Pol.C_one,Gq.one_mul] at e
  have e2:prodF [(q,1)]=q:=by
   show pw q 1*1=q
   rw [pw_1,Gq.mul_one]
  rw [e2] at e
  rw [e]
  exact (h.ok.irr (q,1) (by simp)).1
 ·intro hi
  exact ⟨m,h.unique hm.2 (fac_irr hi hm)⟩
end
end Pe

namespace Pe
open Go Gq
variable {T:Nat→Option Fn} {A:Oracle}
section
variable {p:Int}
def lowP (a:Fp p) (i:Nat):Fp p:=⟨fun n=>if n<i then a.c n else 0,i,fun n hn=>if_neg (by omega)⟩
theorem lowP_c (a:Fp p) (i n:Nat):(lowP a i).c n=if n<i then a.c n else 0:=rfl
theorem lowP_zero (a:Fp p):lowP a 0=0:=Pol.ext fun n=>by rw [lowP_c,if_neg (by omega)]; rfl
theorem lowP_top (a:Fp p):lowP a a.len=a:=Pol.ext fun n=>by
 rw [lowP_c]
 split
 ·rfl
 ·rename_i h; exact (a.lt_len n (by omega)).symm
end
section
variable {p:Int} [IsP p]
theorem mo_c (k:Zp p) (n i:Nat):(Pol.mo k n).c i=if i=n then k else 0:=rfl
theorem lowP_succ (a:Fp p) (i:Nat):lowP a (i+1)=lowP a i+Pol.mo (a.c i) i:=Pol.ext fun n=>by
 rw [Pol.c_add,lowP_c,lowP_c,mo_c]
 by_cases h:n=i
 ·subst h; rw [if_pos (by omega),if_neg (by omega),if_pos rfl,Gq.zero_add]
 ·rw [if_neg h,Gq.add_zero]
  by_cases h2:n<i
  ·rw [if_pos (by omega),if_pos h2]
  ·rw [if_neg (by omega),if_neg h2]
theorem mo_zero (n:Nat):(Pol.mo 0 n:Fp p)=0:=Pol.ext fun i=>by rw [mo_c]; split <;> rfl
theorem mo_mo (k l:Zp p) (n m:Nat):(Pol.mo k n*Pol.mo l m:Fp p)=Pol.mo (k*l) (n+m):=Pol.ext fun i=>by
 rw [c_momul',mo_c,mo_c]
 by_cases h:n≤i
 ·rw [if_pos h]
  by_cases h2:i-n=m
  ·rw [if_pos h2,if_pos (by omega)]
  ·rw [if_neg h2,if_neg (by omega),Gq.mul_zero]
 ·rw [if_neg h,if_neg (by omega)]
theorem polOf_add_set {cur:List Int} {k:Nat} (h:k<cur.length) (t:Int):polOf p (cur.set k ((cf cur k+t)%p))=polOf p cur+Pol.mo (zp p t) k:=Pol.ext fun j=>by
 rw [Pol.c_add,polOf_c,polOf_c,cf_set,mo_c]
 by_cases h1:j=k
 ·subst h1
  rw [if_pos ⟨rfl,h⟩,if_pos rfl,zp_mod,zp_add]
 ·rw [if_neg (by omega),if_neg h1,Gq.add_zero]
end
theorem l_sTm0 {O:Oracle} {p:Int} [IsP p] {a b:Fp p} {z:List Int} {n i:Nat} (hn:n<64) (hi:i<a.len) (hal:a.len≤64) (hbl:b.len≤64) (hab:a.len+b.len≤65) (hb1:0<b.len) (hai:a.c i≠0) {P:Fp p} {vn:V} (hvn:vn.refs=[]):∀(m j:Nat) (cur:List Int),j+m=b.len→cur.length=64→Can p cur→polOf p cur=P+Pol.mo (a.c i) i*lowP b j→∃cur':List Int,cur'.length=64∧Can p cur'∧polOf p cur'=P+Pol.mo (a.c i) i*b ∧
 dn O 0 (.loop Z3y_L0) ⟨[(0,(.d (.int .i64 p))),(4,.ptr 0 []),(5,.ptr 1 []),(6,.ptr 2 []),(8,vn),(9,(.d (.int .i64 (((b.len-1:Nat):Int))))),(10,.ptr 3 []),(11,(.d (.int .i64 i))),(12,(.d (.int .i64 j)))],[.box false (D.arr 64 .leaf (ints .u8 (pad (row a)))),.box false (D.arr 64 .leaf (ints .u8 (pad (row b)))),.box false (D.arr 64 .leaf (ints .u8 z)),.box false (D.arr 64 .leaf (ints .u8 cur))]⟩ =
  some (.exit 2,⟨[(0,(.d (.int .i64 p))),(4,.ptr 0 []),(5,.ptr 1 []),(6,.ptr 2 []),(8,vn),(9,(.d (.int .i64 (((b.len-1:Nat):Int))))),(10,.ptr 3 []),(11,(.d (.int .i64 i))),(12,(.d (.int .i64 b.len))),(43,(.d (.bool false)))],[.box false (D.arr 64 .leaf (ints .u8 (pad (row a)))),.box false (D.arr 64 .leaf (ints .u8 (pad (row b)))),.box false (D.arr 64 .leaf (ints .u8 z)),.box false (D.arr 64 .leaf (ints .u8 cur'))]⟩)
 | 0,j,cur,hj,hc,hcan,he=>by
  obtain rfl:j=b.len:=by omega
  rw [lowP_top] at he
  have hlt:¬ (b.len:Int)≤((b.len-1:Nat):Int):=by omega
  refine ⟨cur,hc,hcan,he,dn_stop ?_⟩
  generalize ((b.len-1:Nat):Int)=m1 at *
  generalize pad (row a)=PA at *
  generalize pad (row b)=PB at *
  simp -implicitDefEqProofs [Z3y_L0,dn_cond,hlt,hvn]
 | m+1,j,cur,hj,hc,hcan,he=>by
  have hp:=IsP.pos (p:=p)
  have hp7:=IsP.le (p:=p)
  have hp0:p≠0:=by omega
  have hlt:(j:Int)≤((b.len-1:Nat):Int):=by omega
  have hi64:i<64:=by omega
  have hj64:j<64:=by omega
  have hij:i+j<64:=by omega
  have hs0:(0:Int)≤(i:Int)+j:=by omega
  have hs1:((i:Int)+j).toNat=i+j:=by omega
  have hx:(pad (row a))[i]? = some (rep (a.c i)):=by rw [pad_get _ _ hi64,row_cf]
  have hy:(pad (row b))[j]? = some (rep (b.c j)):=by rw [pad_get _ _ hj64,row_cf]
  have hx0:rep (a.c i)≠0:=fun h=>hai (rep_eq_zero.1 h)
  have hr1:=rep_in (a.c i)
  have hr2:=rep_in (b.c j)
  have hkc:i+j<cur.length:=by omega
  have hw:cur[i+j]=cf cur (i+j):=(cf_lt hkc).symm
  have gc:=hcan.le hp (i+j)
  have gm:=mul_small (x:=rep (a.c i)) (y:=rep (b.c j)) (b:=10) (c:=10) (by omega) (by omega) (by omega)
  have gm0:=Int.mul_nonneg hr1.1 hr2.1
  have w0:IntKind.i64.wrap ((i:Int)+j)=((i+j:Nat):Int):=(w64 (x:=(i:Int)+j) (by omega)).trans (by omega)
  have w1:IntKind.i64.wrap (rep (a.c i))=rep (a.c i):=w64 (by omega)
  have w2:IntKind.i64.wrap (rep (b.c j))=rep (b.c j):=w64 (by omega)
  have w3:IntKind.i64.wrap (cf cur (i+j))=cf cur (i+j):=w64 (by omega)
  have w4:IntKind.i64.wrap (rep (a.c i)*rep (b.c j))=rep (a.c i)*rep (b.c j):=w64 (by omega)
  have w5:IntKind.i64.wrap (cf cur (i+j)+rep (a.c i)*rep (b.c j))=cf cur (i+j)+rep (a.c i)*rep (b.c j):=w64 (by omega)
  have w6:(cf cur (i+j)+rep (a.c i)*rep (b.c j)).tmod p=(cf cur (i+j)+rep (a.c i)*rep (b.c j))%p:=Int.tmod_eq_emod_of_nonneg (by omega)
  have hin:=Int.emod_nonneg (cf cur (i+j)+rep (a.c i)*rep (b.c j)) hp0
  have hin2:=Int.emod_lt_of_pos (cf cur (i+j)+rep (a.c i)*rep (b.c j)) hp
  have w7:IntKind.u8.wrap ((cf cur (i+j)+rep (a.c i)*rep (b.c j))%p)=(cf cur (i+j)+rep (a.c i)*rep (b.c j))%p:=w8 (by omega)
  have w8':IntKind.i64.wrap ((j:Int)+1)=((j+1:Nat):Int):=(w64 (x:=(j:Int)+1) (by omega)).trans (by omega)
  have hnew:polOf p (cur.set (i+j) ((cf cur (i+j)+rep (a.c i)*rep (b.c j))%p))=P+Pol.mo (a.c i) i*lowP b (j+1):=by
   rw [polOf_add_set hkc,he,zp_mul,zp_rep,zp_rep,lowP_succ,Gq.mul_add,mo_mo,Gq.add_assoc]
  have hcan':Can p (cur.set (i+j) ((cf cur (i+j)+rep (a.c i)*rep (b.c j))%p)):=fun x hx=>by
   rcases List.mem_or_eq_of_mem_set hx with h | rfl
   ·exact hcan x h
   ·exact ⟨hin,hin2⟩
  obtain ⟨cur',g1,g2,g3,g4⟩:=l_sTm0 (O:=O) (z:=z) hn hi hal hbl hab hb1 hai hvn m (j+1) (cur.set (i+j) ((cf cur (i+j)+rep (a.c i)*rep (b.c j))%p)) (by omega) (by rw [List.length_set]; exact hc) hcan' hnew
  have hs:ints .u8 (cur.set (i+j) ((cf cur (i+j)+rep (a.c i)*rep (b.c j))%p))=(ints .u8 cur).set (i+j) (D.int .u8 ((cf cur (i+j)+rep (a.c i)*rep (b.c j))%p)):=by unfold ints; rw [List.map_set]
  rw [hs] at g4
  refine ⟨cur',g1,g2,g3,dn_round ?_ g4⟩
  generalize (cf cur (i+j)+rep (a.c i)*rep (b.c j))%p=W at *
  generalize ((b.len-1:Nat):Int)=m1 at *
  generalize pad (row a)=PA at *
  generalize pad (row b)=PB at *
  simp -implicitDefEqProofs [Z3y_L0,dn_cond,hlt,hi64,hj64,hij,hs0,hs1,hx,hy,hx0,hc,hw,w0,w1,w2,w3,w4,w5,w6,w7,w8',hp0,hvn]
theorem l_sTm1 {O:Oracle} {p:Int} [IsP p] {a b:Fp p} {z:List Int} (hal:a.len≤64) (hbl:b.len≤64) (hab:a.len+b.len≤65) (ha1:0<a.len) (hb1:0<b.len):∀(m i:Nat) (cur:List Int),i+m=a.len→cur.length=64→Can p cur→polOf p cur=lowP a i*b→∃cur':List Int,cur'.length=64∧Can p cur'∧polOf p cur'=a*b ∧
 dn O 0 (.loop Z3y_L1) ⟨[(0,(.d (.int .i64 p))),(4,.ptr 0 []),(5,.ptr 1 []),(6,.ptr 2 []),(8,(.d (.int .i64 (((a.len-1:Nat):Int))))),(9,(.d (.int .i64 (((b.len-1:Nat):Int))))),(10,.ptr 3 []),(11,(.d (.int .i64 i)))],[.box false (D.arr 64 .leaf (ints .u8 (pad (row a)))),.box false (D.arr 64 .leaf (ints .u8 (pad (row b)))),.box false (D.arr 64 .leaf (ints .u8 z)),.box false (D.arr 64 .leaf (ints .u8 cur))]⟩ =
  some (.exit 0,⟨[(0,(.d (.int .i64 p))),(4,.ptr 0 []),(5,.ptr 1 []),(6,.ptr 2 []),(8,(.d (.int .i64 (((a.len-1:Nat):Int))))),(9,(.d (.int .i64 (((b.len-1:Nat):Int))))),(10,.ptr 3 []),(11,(.d (.int .i64 a.len))),(32,(.d (.bool false)))],[.box false (D.arr 64 .leaf (ints .u8 (pad (row a)))),.box false (D.arr 64 .leaf (ints .u8 (pad (row b)))),.box false (D.arr 64 .leaf (ints .u8 z)),.box false (D.arr 64 .leaf (ints .u8 cur'))]⟩)
 | 0,i,cur,hi,hc,hcan,he=>by
  obtain rfl:i=a.len:=by omega
  rw [lowP_top] at he
  have hlt:¬ (a.len:Int)≤((a.len-1:Nat):Int):=by omega
  refine ⟨cur,hc,hcan,he,dn_stop ?_⟩
  generalize ((b.len-1:Nat):Int)=m1 at *
  generalize ((a.len-1:Nat):Int)=n1 at *
  generalize pad (row a)=PA at *
  generalize pad (row b)=PB at *
  simp -implicitDefEqProofs [Z3y_L1,dn_cond,hlt]
 | m+1,i,cur,hi,hc,hcan,he=>by
  have hlt:(i:Int)≤((a.len-1:Nat):Int):=by omega
  have hi64:i<64:=by omega
  have w8':IntKind.i64.wrap ((i:Int)+1)=((i+1:Nat):Int):=(w64 (x:=(i:Int)+1) (by omega)).trans (by omega)
  have hx:(pad (row a))[i]? = some (rep (a.c i)):=by rw [pad_get _ _ hi64,row_cf]
  by_cases hai:a.c i=0
  ·have hr:rep (a.c i)=0:=rep_eq_zero.2 hai
   have he':polOf p cur=lowP a (i+1)*b:=by rw [lowP_succ,hai,mo_zero,Gq.add_zero]; exact he
   obtain ⟨cur',g1,g2,g3,g4⟩:=l_sTm1 (O:=O) (z:=z) hal hbl hab ha1 hb1 m (i+1) cur (by omega) hc hcan he'
   rw [hr] at hx
   have hin:dn O 0 (.loop Z3y_L0) ⟨[(0,(.d (.int .i64 p))),(4,.ptr 0 []),(5,.ptr 1 []),(6,.ptr 2 []),(8,(.d (.int .i64 (((a.len-1:Nat):Int))))),(9,(.d (.int .i64 (((b.len-1:Nat):Int))))),(10,.ptr 3 []),(11,(.d (.int .i64 i))),(12,(.d (.int .i64 0)))],[.box false (D.arr 64 .leaf (ints .u8 (pad (row a)))),.box false (D.arr 64 .leaf (ints .u8 (pad (row b)))),.box false (D.arr 64 .leaf (ints .u8 z)),.box false (D.arr 64 .leaf (ints .u8 cur))]⟩ =
    some (.exit 2,⟨[(0,(.d (.int .i64 p))),(4,.ptr 0 []),(5,.ptr 1 []),(6,.ptr 2 []),(8,(.d (.int .i64 (((a.len-1:Nat):Int))))),(9,(.d (.int .i64 (((b.len-1:Nat):Int))))),(10,.ptr 3 []),(11,(.d (.int .i64 i))),(12,(.d (.int .i64 0))),(43,(.d (.bool false)))],[.box false (D.arr 64 .leaf (ints .u8 (pad (row a)))),.box false (D.arr 64 .leaf (ints .u8 (pad (row b)))),.box false (D.arr 64 .leaf (ints .u8 z)),.box false (D.arr 64 .leaf (ints .u8 cur))]⟩):=by
    refine dn_stop ?_
    generalize b.len-1=m1 at *
    generalize ((a.len-1:Nat):Int)=n1 at *
    generalize pad (row a)=PA at *
    generalize pad (row b)=PB at *
    simp -implicitDefEqProofs [Z3y_L0,dn_cond,hi64,hx]
   refine ⟨cur',g1,g2,g3,dn_round ?_ g4⟩
   generalize ((b.len-1:Nat):Int)=m1 at *
   generalize ((a.len-1:Nat):Int)=n1 at *
   generalize pad (row a)=PA at *
   generalize pad (row b)=PB at *
   simp -implicitDefEqProofs [Z3y_L1,dn_cond,hlt,hin,w8']
  ·obtain ⟨cur1,k1,k2,k3,k4⟩:=l_sTm0 (O:=O) (z:=z) (n:=0) (i:=i) (by omega) (by omega) hal hbl hab hb1 hai (P:=lowP a i*b) (vn:=(.d (.int .i64 (((a.len-1:Nat):Int))))) rfl b.len 0 cur (Nat.zero_add _) hc hcan (by rw [lowP_zero,Gq.mul_zero,Gq.add_zero]; exact he)
   have e00:((0:Nat):Int)=0:=rfl
   rw [e00] at k4
   have he':polOf p cur1=lowP a (i+1)*b:=by
    rw [k3,lowP_succ]
    exact ring_of [lowP a i,b,Pol.mo (a.c i) i] rfl
   obtain ⟨cur',g1,g2,g3,g4⟩:=l_sTm1 (O:=O) (z:=z) hal hbl hab ha1 hb1 m (i+1) cur1 (by omega) k1 k2 he'
   refine ⟨cur',g1,g2,g3,dn_round ?_ g4⟩
   generalize ((b.len-1:Nat):Int)=m1 at *
   generalize ((a.len-1:Nat):Int)=n1 at *
   generalize pad (row a)=PA at *
   generalize pad (row b)=PB at *
   simp -implicitDefEqProofs [Z3y_L1,dn_cond,hlt,k4,w8']
def K_sTimes (O:Oracle):Prop:=∀(p:Int) [IsP p] (a b:Fp p),a.len≤64→b.len≤64→(a*b).len≤64 →
 ask O F3y [(D.int .i64 p),(D.arr 64 .leaf (ints .u8 (pad (row a)))),(D.arr 64 .leaf (ints .u8 (pad (row b))))]=some (.tup [(D.arr 64 .leaf (ints .u8 (pad (row (a*b))))),(D.bool true)])
theorem k_sTimes (hT:T F3y=some Z3y) (hd:K_sDeg (den T A)):K_sTimes (den T A):=by
 intro p i a b hal hbl hab
 have e1:=hd p a hal
 have e2:=hd p b hbl
 refine ask_of hT rfl ?_
 by_cases ha:a=0
 ·subst ha
  rw [Gq.zero_mul,row_zero]
  rw [Pol.len_zero,row_zero] at e1
  generalize pad (row b)=PB at *
  simp -implicitDefEqProofs [Z3y,Z3y_B,dn_cond,e1,e2,List.replicate]
 ·have ha1:=Pol.len_pos ha
  by_cases hb:b=0
  ·subst hb
   rw [Gq.mul_zero,row_zero]
   rw [Pol.len_zero,row_zero] at e2
   have ha2:¬ ((a.len:Int)-1<0):=by omega
   generalize pad (row a)=PA at *
   simp -implicitDefEqProofs [Z3y,Z3y_B,dn_cond,e1,e2,ha2,List.replicate]
  ·have hb1:=Pol.len_pos hb
   have hm:=Pol.len_mul ha hb
   rw [show ((a.len:Int)-1)=((a.len-1:Nat):Int) by omega] at e1
   rw [show ((b.len:Int)-1)=((b.len-1:Nat):Int) by omega] at e2
   have w1:IntKind.i64.wrap (((a.len-1:Nat):Int)+((b.len-1:Nat):Int))=((a.len-1+(b.len-1):Nat):Int):=(w64 (by omega)).trans (by omega)
   have w2:¬ ((63:Int)<((a.len-1+(b.len-1):Nat):Int)):=by omega
   obtain ⟨cur',g1,g2,g3,g4⟩:=l_sTm1 (O:=den T A) (z:=pad []) hal hbl (by omega) ha1 hb1 a.len 0 (pad []) (Nat.zero_add _) (pad_length _) (by
    have:=pad_can (0:Fp p); rwa [row_zero] at this) (by
    rw [lowP_zero,Gq.zero_mul]
    have:=polOf_pad (p:=p) (a:=0) (by rw [Pol.len_zero]; omega)
    rwa [row_zero] at this)
   have e00:((0:Nat):Int)=0:=rfl
   rw [e00] at g4
   have hcur:cur'=pad (row (a*b)):=by rw [pad_of g2 g1,g3]
   rw [hcur] at g4
   have n1:¬ (((a.len-1:Nat):Int)<0):=by omega
   have n2:¬ (((b.len-1:Nat):Int)<0):=by omega
   generalize ((a.len-1+(b.len-1):Nat):Int)=s1 at *
   generalize ((b.len-1:Nat):Int)=m1 at *
   generalize ((a.len-1:Nat):Int)=k1 at *
   generalize pad (row (a*b))=PR at *
   generalize pad (row a)=PA at *
   generalize pad (row b)=PB at *
   simp -implicitDefEqProofs [Z3y,Z3y_B,dn_cond,e1,e2,w1,w2,n1,n2,g4,List.replicate]
structure BzS {p:Int} [IsP p] (A B a b u x v y:Fp p):Prop where
 i:Pol.BzI A B a b u x v y
 la:a.len≤64
 lb:b.len≤64
 lu:u.len≤64
 lv:v.len≤64
 ne:a≠0
theorem BzS.step {p:Int} [IsP p] {A B a b u x v y:Fp p} (h:BzS A B a b u x v y) (hA:A.len≤64) (hB:B.len≤64) (hb:b≠0) :
 BzS A B b (a%b) x (u-a/b*x) y (v-a/b*y)∧x.len≤64∧y.len≤64∧(a/b).len≤64∧(a/b*x).len≤64∧(a/b*y).len≤64∧(a%b).len≤64:=by
 have h1:=h.i.lx
 have h2:=h.i.ly
 have h3:=Pol.len_pos h.ne
 have h4:=Pol.len_pos hb
 have h5:=Pol.len_div_le a hb
 have h6:=Pol.len_mod_le a hb
 obtain ⟨h7,h8⟩:=h.i.qlen hb
 have h9:=h.la
 have hx:x.len≤64:=by omega
 have hy:y.len≤64:=by omega
 exact ⟨⟨h.i.step hb,h.lb,by omega,hx,hy,hb⟩,hx,hy,by omega,by omega,by omega,by omega⟩
theorem r_sBez {O:Oracle} (hdg:K_sDeg O) (hd:K_sDivide O) (ht:K_sTimes O) (ha:K_sAdd O) {p:Int} [IsP p] {z:List Int} {a b u x v y:Fp p} (h0:b≠0) (ha':a.len≤64) (hb:b.len≤64) (hu:u.len≤64) (hv:v.len≤64) (s1:x.len≤64) (s2:y.len≤64) (s3:(a/b).len≤64) (s4:(a/b*x).len≤64) (s5:(a/b*y).len≤64) :
 dn O 0 Z3c_L0 ⟨[(0,(.d (.int .i64 p))),(4,.ptr 0 []),(5,.ptr 1 []),(6,.ptr 2 []),(7,.ptr 3 []),(8,.ptr 4 []),(9,.ptr 5 []),(10,.ptr 6 []),(11,.ptr 7 []),(12,.ptr 8 [])],[.box false (D.arr 64 .leaf (ints .u8 (pad (row a)))),.box false (D.arr 64 .leaf (ints .u8 (pad (row b)))),.box false (D.arr 64 .leaf (ints .u8 z)),.box false (D.arr 64 .leaf (ints .u8 z)),.box false (D.arr 64 .leaf (ints .u8 z)),.box false (D.arr 64 .leaf (ints .u8 (pad (row u)))),.box false (D.arr 64 .leaf (ints .u8 (pad (row x)))),.box false (D.arr 64 .leaf (ints .u8 (pad (row v)))),.box false (D.arr 64 .leaf (ints .u8 (pad (row y)))),.hole,.hole,.hole,.hole,.hole,.hole]⟩ =
  some (.normal,⟨[(0,(.d (.int .i64 p))),(4,.ptr 0 []),(5,.ptr 1 []),(6,.ptr 2 []),(7,.ptr 3 []),(8,.ptr 4 []),(9,.ptr 5 []),(10,.ptr 6 []),(11,.ptr 7 []),(12,.ptr 8 [])],[.box false (D.arr 64 .leaf (ints .u8 (pad (row b)))),.box false (D.arr 64 .leaf (ints .u8 (pad (row (a%b))))),.box false (D.arr 64 .leaf (ints .u8 z)),.box false (D.arr 64 .leaf (ints .u8 z)),.box false (D.arr 64 .leaf (ints .u8 z)),.box false (D.arr 64 .leaf (ints .u8 (pad (row x)))),.box false (D.arr 64 .leaf (ints .u8 (pad (row (u-a/b*x))))),.box false (D.arr 64 .leaf (ints .u8 (pad (row y)))),.box false (D.arr 64 .leaf (ints .u8 (pad (row (v-a/b*y))))),.hole,.hole,.hole,.hole,.hole,.hole]⟩):=by
 have hp:=Pol.len_pos h0
 have e0:=hdg p b hb
 have e1:=hd p a b h0 ha' hb
 have e2:=ht p (a/b) x s3 s1 s4
 have e3:=ha p (-1) u (a/b*x) (by omega) (by omega) hu s4
 have e4:=ht p (a/b) y s3 s2 s5
 have e5:=ha p (-1) v (a/b*y) (by omega) (by omega) hv s5
 rw [sub_comb] at e3 e5
 have hge:¬ ((b.len:Int)-1<0):=by omega
 have hge2:(0:Int)≤(b.len:Int)-1:=by omega
 have hge3:(1:Int)≤(b.len:Int):=by omega
 generalize pad (row (u-a/b*x))=Pux at *
 generalize pad (row (v-a/b*y))=Pvy at *
 generalize pad (row (a/b*x))=Pqx at *
 generalize pad (row (a/b*y))=Pqy at *
 generalize pad (row (a/b))=Pq at *
 generalize pad (row (a%b))=Pr at *
 generalize pad (row a)=Pa at *
 generalize pad (row b)=Pb at *
 generalize pad (row u)=Pu at *
 generalize pad (row x)=Px at *
 generalize pad (row v)=Pv at *
 generalize pad (row y)=Py at *
 simp -implicitDefEqProofs [Z3c_L0,dn_cond,hge3,e0,e1,e2,e3,e4,e5]
theorem l_sBez {O:Oracle} (hdg:K_sDeg O) (hd:K_sDivide O) (ht:K_sTimes O) (ha:K_sAdd O) {p:Int} [IsP p] {A B:Fp p} {z:List Int} (hA:A.len≤64) (hB:B.len≤64):∀(n:Nat) (a b u x v y:Fp p),b.len≤n→BzS A B a b u x v y→∃x' y':List Int,(Pol.bz n a b u x v y).1≠0∧(Pol.bz n a b u x v y).1.len≤64∧(Pol.bz n a b u x v y).2.1.len≤64∧(Pol.bz n a b u x v y).2.2.len≤64 ∧
 dn O 0 (.loop Z3c_L0) ⟨[(0,(.d (.int .i64 p))),(4,.ptr 0 []),(5,.ptr 1 []),(6,.ptr 2 []),(7,.ptr 3 []),(8,.ptr 4 []),(9,.ptr 5 []),(10,.ptr 6 []),(11,.ptr 7 []),(12,.ptr 8 [])],[.box false (D.arr 64 .leaf (ints .u8 (pad (row a)))),.box false (D.arr 64 .leaf (ints .u8 (pad (row b)))),.box false (D.arr 64 .leaf (ints .u8 z)),.box false (D.arr 64 .leaf (ints .u8 z)),.box false (D.arr 64 .leaf (ints .u8 z)),.box false (D.arr 64 .leaf (ints .u8 (pad (row u)))),.box false (D.arr 64 .leaf (ints .u8 (pad (row x)))),.box false (D.arr 64 .leaf (ints .u8 (pad (row v)))),.box false (D.arr 64 .leaf (ints .u8 (pad (row y)))),.hole,.hole,.hole,.hole,.hole,.hole]⟩ =
  some (.exit 0,⟨[(0,(.d (.int .i64 p))),(4,.ptr 0 []),(5,.ptr 1 []),(6,.ptr 2 []),(7,.ptr 3 []),(8,.ptr 4 []),(9,.ptr 5 []),(10,.ptr 6 []),(11,.ptr 7 []),(12,.ptr 8 []),(28,(.d (.bool false)))],[.box false (D.arr 64 .leaf (ints .u8 (pad (row (Pol.bz n a b u x v y).1)))),.box false (D.arr 64 .leaf (ints .u8 (pad []))),.box false (D.arr 64 .leaf (ints .u8 z)),.box false (D.arr 64 .leaf (ints .u8 z)),.box false (D.arr 64 .leaf (ints .u8 z)),.box false (D.arr 64 .leaf (ints .u8 (pad (row (Pol.bz n a b u x v y).2.1)))),.box false (D.arr 64 .leaf (ints .u8 x')),.box false (D.arr 64 .leaf (ints .u8 (pad (row (Pol.bz n a b u x v y).2.2)))),.box false (D.arr 64 .leaf (ints .u8 y')),.hole,.hole,.hole,.hole,.hole,.hole]⟩):=by
 intro n
 have stop:∀(a u x v y:Fp p),dn O 0 (.loop Z3c_L0) ⟨[(0,(.d (.int .i64 p))),(4,.ptr 0 []),(5,.ptr 1 []),(6,.ptr 2 []),(7,.ptr 3 []),(8,.ptr 4 []),(9,.ptr 5 []),(10,.ptr 6 []),(11,.ptr 7 []),(12,.ptr 8 [])],[.box false (D.arr 64 .leaf (ints .u8 (pad (row a)))),.box false (D.arr 64 .leaf (ints .u8 (pad (row (0:Fp p))))),.box false (D.arr 64 .leaf (ints .u8 z)),.box false (D.arr 64 .leaf (ints .u8 z)),.box false (D.arr 64 .leaf (ints .u8 z)),.box false (D.arr 64 .leaf (ints .u8 (pad (row u)))),.box false (D.arr 64 .leaf (ints .u8 (pad (row x)))),.box false (D.arr 64 .leaf (ints .u8 (pad (row v)))),.box false (D.arr 64 .leaf (ints .u8 (pad (row y)))),.hole,.hole,.hole,.hole,.hole,.hole]⟩ =
  some (.exit 0,⟨[(0,(.d (.int .i64 p))),(4,.ptr 0 []),(5,.ptr 1 []),(6,.ptr 2 []),(7,.ptr 3 []),(8,.ptr 4 []),(9,.ptr 5 []),(10,.ptr 6 []),(11,.ptr 7 []),(12,.ptr 8 []),(28,(.d (.bool false)))],[.box false (D.arr 64 .leaf (ints .u8 (pad (row a)))),.box false (D.arr 64 .leaf (ints .u8 (pad []))),.box false (D.arr 64 .leaf (ints .u8 z)),.box false (D.arr 64 .leaf (ints .u8 z)),.box false (D.arr 64 .leaf (ints .u8 z)),.box false (D.arr 64 .leaf (ints .u8 (pad (row u)))),.box false (D.arr 64 .leaf (ints .u8 (pad (row x)))),.box false (D.arr 64 .leaf (ints .u8 (pad (row v)))),.box false (D.arr 64 .leaf (ints .u8 (pad (row y)))),.hole,.hole,.hole,.hole,.hole,.hole]⟩):=by
  intro a u x v y
  have e:=hdg p 0 (by rw [Pol.len_zero]; omega)
  rw [row_zero,Pol.len_zero] at e
  rw [row_zero]
  refine dn_stop ?_
  generalize pad (row a)=Pa
  generalize pad (row u)=Pu
  generalize pad (row x)=Px
  generalize pad (row v)=Pv
  generalize pad (row y)=Py
  simp -implicitDefEqProofs [Z3c_L0,dn_cond,e]
 induction n with
 | zero=>
  intro a b u x v y hn hs
  obtain rfl:=Pol.len_zero_iff.1 (show b.len=0 by omega)
  exact ⟨_,_,hs.ne,hs.la,hs.lu,hs.lv,stop a u x v y⟩
 | succ n ih=>
  intro a b u x v y hn hs
  unfold Pol.bz
  by_cases h0:b=0
  ·subst h0
   rw [if_pos rfl]
   exact ⟨_,_,hs.ne,hs.la,hs.lu,hs.lv,stop a u x v y⟩
  ·rw [if_neg h0]
   obtain ⟨s0,s1,s2,s3,s4,s5,s6⟩:=hs.step hA hB h0
   have hl:=Pol.len_mod a h0
   have hp:=Pol.len_pos h0
   obtain ⟨x',y',g1,g2,g3,g4,e⟩:=ih b (a%b) x (u-a/b*x) y (v-a/b*y) (by omega) s0
   exact ⟨x',y',g1,g2,g3,g4,dn_round (r_sBez hdg hd ht ha h0 hs.la hs.lb hs.lu hs.lv s1 s2 s3 s4 s5) e⟩
theorem l_sBezI {O:Oracle} (hdg:K_sDeg O) (hd:K_sDivide O) (ht:K_sTimes O) (ha:K_sAdd O) {p:Int} [IsP p] {a b:Fp p} {z:List Int} (h:a≠0∨b≠0) (hal:a.len≤64) (hbl:b.len≤64):∃x' y':List Int,(Pol.bz b.len a b 1 0 0 1).1≠0∧(Pol.bz b.len a b 1 0 0 1).1.len≤64∧(Pol.bz b.len a b 1 0 0 1).2.1.len≤64∧(Pol.bz b.len a b 1 0 0 1).2.2.len≤64 ∧
 dn O 0 (.loop Z3c_L0) ⟨[(0,(.d (.int .i64 p))),(4,.ptr 0 []),(5,.ptr 1 []),(6,.ptr 2 []),(7,.ptr 3 []),(8,.ptr 4 []),(9,.ptr 5 []),(10,.ptr 6 []),(11,.ptr 7 []),(12,.ptr 8 [])],[.box false (D.arr 64 .leaf (ints .u8 (pad (row a)))),.box false (D.arr 64 .leaf (ints .u8 (pad (row b)))),.box false (D.arr 64 .leaf (ints .u8 z)),.box false (D.arr 64 .leaf (ints .u8 z)),.box false (D.arr 64 .leaf (ints .u8 z)),.box false (D.arr 64 .leaf (ints .u8 (pad (row (1:Fp p))))),.box false (D.arr 64 .leaf (ints .u8 (pad (row (0:Fp p))))),.box false (D.arr 64 .leaf (ints .u8 (pad (row (0:Fp p))))),.box false (D.arr 64 .leaf (ints .u8 (pad (row (1:Fp p))))),.hole,.hole,.hole,.hole,.hole,.hole]⟩ =
  some (.exit 0,⟨[(0,(.d (.int .i64 p))),(4,.ptr 0 []),(5,.ptr 1 []),(6,.ptr 2 []),(7,.ptr 3 []),(8,.ptr 4 []),(9,.ptr 5 []),(10,.ptr 6 []),(11,.ptr 7 []),(12,.ptr 8 []),(28,(.d (.bool false)))],[.box false (D.arr 64 .leaf (ints .u8 (pad (row (Pol.bz b.len a b 1 0 0 1).1)))),.box false (D.arr 64 .leaf (ints .u8 (pad []))),.box false (D.arr 64 .leaf (ints .u8 z)),.box false (D.arr 64 .leaf (ints .u8 z)),.box false (D.arr 64 .leaf (ints .u8 z)),.box false (D.arr 64 .leaf (ints .u8 (pad (row (Pol.bz b.len a b 1 0 0 1).2.1)))),.box false (D.arr 64 .leaf (ints .u8 x')),.box false (D.arr 64 .leaf (ints .u8 (pad (row (Pol.bz b.len a b 1 0 0 1).2.2)))),.box false (D.arr 64 .leaf (ints .u8 y')),.hole,.hole,.hole,.hole,.hole,.hole]⟩):=by
 by_cases h0:a=0
 ·subst h0
  have hb:=h.resolve_left (fun h=>h rfl)
  have hp:=Pol.len_pos hb
  obtain ⟨k,hk⟩:∃k,b.len=k+1:=⟨b.len-1,by omega⟩
  have h1:(1:Fp p).len=1:=Pol.len_one
  have hz:(0:Fp p).len=0:=Pol.len_zero
  have hq:(0:Fp p)/b=0:=(Pol.div_mod_eq (a:=(0:Fp p)) (b:=b) (q:=0) (r:=0) (by rw [Gq.zero_mul,Gq.zero_add]) (by omega)).1
  have hs0:∀c:Fp p,c-0=c:=fun c=>by rw [Gq.sub_eq,Gq.neg_zero,Gq.add_zero]
  have hr:(0:Fp p)%b=0:=Pol.zero_mod hb
  have e:=r_sBez (z:=z) hdg hd ht ha (a:=0) (b:=b) (u:=1) (x:=0) (v:=0) (y:=1) hb (by omega) hbl (by omega) (by omega) (by omega) (by omega) (by rw [hq]; omega) (by rw [hq,Gq.zero_mul]; omega) (by rw [hq,Gq.zero_mul]; omega)
  rw [hk]
  unfold Pol.bz
  rw [if_neg hb]
  rw [hq,hr,Gq.zero_mul,Gq.zero_mul,hs0,hs0] at e ⊢
  have hi:Pol.BzI (0:Fp p) b b 0 0 1 1 0:=⟨by rw [Gq.zero_mul,Gq.zero_add,Gq.one_mul],by rw [Gq.mul_zero,Gq.zero_mul,Gq.add_zero],.inr (by omega),.inl hz,.inl hz,.inr (by omega),.inl hb⟩
  obtain ⟨x',y',g1,g2,g3,g4,e2⟩:=l_sBez (O:=O) (z:=z) hdg hd ht ha (A:=0) (B:=b) (by omega) hbl k b 0 0 1 1 0 (by omega) ⟨hi,hbl,by omega,by omega,by omega,hb⟩
  exact ⟨x',y',g1,g2,g3,g4,dn_round e e2⟩
 ·exact l_sBez (O:=O) (z:=z) hdg hd ht ha hal hbl b.len a b 1 0 0 1 (Nat.le_refl _) ⟨Pol.BzI.init (.inl h0),hal,hbl,by rw [Pol.len_one]; omega,by rw [Pol.len_zero]; omega,h0⟩
def K_sBezout (O:Oracle):Prop:=∀(p:Int) [IsP p] (a b:Fp p),a≠0∨b≠0→a.len≤64→b.len≤64 →
 ask O F3c [(D.int .i64 p),(D.arr 64 .leaf (ints .u8 (pad (row a)))),(D.arr 64 .leaf (ints .u8 (pad (row b))))]=some (.tup [(D.arr 64 .leaf (ints .u8 (pad (row (Pol.bezout a b).1)))),(D.arr 64 .leaf (ints .u8 (pad (row (Pol.bezout a b).2.1)))),(D.arr 64 .leaf (ints .u8 (pad (row (Pol.bezout a b).2.2))))])
theorem k_sBezout (hT:T F3c=some Z3c) (h1:K_sOne (den T A)) (hdg:K_sDeg (den T A)) (hd:K_sDivide (den T A)) (ht:K_sTimes (den T A)) (ha:K_sAdd (den T A)) (hinv:K_sInverse (den T A)):K_sBezout (den T A):=by
 intro p i a b h0 hal hbl
 have hp:=IsP.ge (p:=p)
 have hp7:=IsP.le (p:=p)
 have e1:=h1 p
 obtain ⟨x',y',g1,g2,g3,g4,e2⟩:=l_sBezI (O:=den T A) (z:=pad []) hdg hd ht ha h0 hal hbl
 unfold Pol.bezout
 have heu:Pol.eu a b=Pol.bz b.len a b 1 0 0 1:=rfl
 rw [heu]
 generalize Pol.bz b.len a b 1 0 0 1=R at *
 obtain ⟨d,u,v⟩:=R
 simp only at g1 g2 g3 g4 e2 ⊢
 rw [row_zero] at e2
 have hd1:=Pol.len_pos g1
 have e3:=hdg p d g2
 rw [show ((d.len:Int)-1)=((d.len-1:Nat):Int) by omega] at e3
 have hi64:d.len-1<64:=by omega
 have hx:(pad (row d))[d.len-1]? = some (rep d.ld):=by rw [pad_get _ _ hi64,row_cf]; rfl
 have hr:=rep_in d.ld
 have hr0:rep d.ld≠0:=fun h=>Pol.ld_ne g1 (rep_eq_zero.1 h)
 have hin:=inv_in p (rep d.ld)
 have e4:=hinv p (rep d.ld) (by omega) hr.2
 have w1:IntKind.i64.wrap (inv p (rep d.ld))=inv p (rep d.ld):=w64 (by omega)
 have z0:(0:Fp p).len≤64:=by rw [Pol.len_zero]; omega
 have e5:=ha p (inv p (rep d.ld)) 0 d (by omega) (by omega) z0 g2
 have e6:=ha p (inv p (rep d.ld)) 0 u (by omega) (by omega) z0 g3
 have e7:=ha p (inv p (rep d.ld)) 0 v (by omega) (by omega) z0 g4
 rw [finv_rep _ (Pol.ld_ne g1),Gq.zero_add,row_zero] at e5 e6 e7
 refine ask_of hT rfl ?_
 generalize pad (row (Pol.C (Fd.inv d.ld)*d))=P1 at *
 generalize pad (row (Pol.C (Fd.inv d.ld)*u))=P2 at *
 generalize pad (row (Pol.C (Fd.inv d.ld)*v))=P3 at *
 generalize pad (row d)=Pd at *
 generalize pad (row u)=Pu at *
 generalize pad (row v)=Pv at *
 generalize pad (row a)=Pa at *
 generalize pad (row b)=Pb at *
 generalize pad (row (1:Fp p))=P0 at *
 generalize d.len-1=n1 at *
 simp -implicitDefEqProofs [Z3c,Z3c_B,e1,e2,e3,e4,e5,e6,e7,hi64,hx,w1,List.replicate]
def K_sGcd (O:Oracle):Prop:=∀(p:Int) [IsP p] (a b:Fp p),a≠0→a.len≤64→b.len≤64 →
 ask O F3j [(D.int .i64 p),(D.arr 64 .leaf (ints .u8 (pad (row a)))),(D.arr 64 .leaf (ints .u8 (pad (row b))))]=some (D.arr 64 .leaf (ints .u8 (pad (row (Pol.gcd a b)))))
theorem k_sGcd (hT:T F3j=some Z3j) (hdg:K_sDeg (den T A)) (hb:K_sBezout (den T A)):K_sGcd (den T A):=by
 intro p i a b h0 hal hbl
 have e1:=hdg p a hal
 have e2:=hb p a b (.inl h0) hal hbl
 have hp:=Pol.len_pos h0
 have hge:¬ ((a.len:Int)-1<0):=by omega
 refine ask_of hT rfl ?_
 unfold Pol.gcd
 generalize pad (row (Pol.bezout a b).1)=P1 at *
 generalize pad (row (Pol.bezout a b).2.1)=P2 at *
 generalize pad (row (Pol.bezout a b).2.2)=P3 at *
 generalize pad (row a)=Pa at *
 generalize pad (row b)=Pb at *
 generalize (a.len:Int)-1=n1 at *
 simp -implicitDefEqProofs [Z3j,Z3j_B,dn_cond,e1,e2,hge,List.replicate]
def K_sT (O:Oracle):Prop:=∀(p:Int) [IsP p],ask O F3x []=some (D.arr 64 .leaf (ints .u8 (pad (row (Pol.X:Fp p)))))
theorem k_sT (hT:T F3x=some Z3x):K_sT (den T A):=by
 intro p i
 have e:((pad []).set 0 0).set 1 1=pad [0,1]:=by decide +kernel
 have h0:(pad [])[0]? = some 0:=by decide +kernel
 have h1:(pad [])[1]? = some 0:=by decide +kernel
 rw [row_X]
 refine ask_of hT rfl ?_
 simp -implicitDefEqProofs [Z3x,Z3x_B,e,h0,h1]
open Classical in
theorem l_sIrr {O:Oracle} (hdg:K_sDeg O) (hpw:K_sPowMod O) (hg:K_sGcd O) (ha:K_sAdd O) (ht:K_sT O) {p:Int} [IsP p] {m:Fp p} (hm:m≠0) (hml:m.len≤13) {n:Nat} (hn:n+1=m.len):∀(f k:Nat),1≤k→k+f=n/2+1→∃P':List Int,
 dn O 0 (.loop Z3m_L0) ⟨[(0,(.d (.int .i64 p))),(3,.ptr 0 []),(5,(.d (.int .i64 n))),(6,.ptr 1 []),(7,(.d (.int .i64 k)))],[.box false (D.arr 64 .leaf (ints .u8 (pad (row m)))),.box false (D.arr 64 .leaf (ints .u8 (pad (row (pw Pol.X (p.toNat^(k-1))%m)))))]⟩ =
  if ∀k',k≤k'→2*k'≤n→(Pol.gcd m (frW m k')).len=1 then some (.exit 0,⟨[(0,(.d (.int .i64 p))),(3,.ptr 0 []),(5,(.d (.int .i64 n))),(6,.ptr 1 []),(7,(.d (.int .i64 (((n/2+1:Nat):Int))))),(19,(.d (.bool false)))],[.box false (D.arr 64 .leaf (ints .u8 (pad (row m)))),.box false (D.arr 64 .leaf (ints .u8 P'))]⟩)
  else some (.ret,⟨[(4,(.d (.bool false)))],[.hole,.hole]⟩)
 | 0,k,hk,hf=>by
  obtain rfl:k=n/2+1:=by omega
  refine ⟨pad (row (pw Pol.X (p.toNat^(n/2+1-1))%m)),?_⟩
  rw [if_pos (fun k' h1 h2=>by omega)]
  have w1:IntKind.i64.wrap (2*((n/2+1:Nat):Int))=2*((n/2+1:Nat):Int):=w64 (by omega)
  have hlt:¬ (2*((n/2+1:Nat):Int)≤n):=by omega
  refine dn_stop ?_
  generalize ((n/2+1:Nat):Int)=k1 at *
  generalize pad (row (pw Pol.X (p.toNat^(n/2+1-1))%m))=P1 at *
  generalize pad (row m)=Pm at *
  simp -implicitDefEqProofs [Z3m_L0,dn_cond,w1,hlt]
 | f+1,k,hk,hf=>by
  have hp:=IsP.pos (p:=p)
  have hp7:=IsP.le (p:=p)
  have w1:IntKind.i64.wrap (2*(k:Int))=2*(k:Int):=w64 (by omega)
  have hlt:2*(k:Int)≤n:=by omega
  have w4:IntKind.i64.wrap ((k:Int)+1)=((k+1:Nat):Int):=(w64 (x:=(k:Int)+1) (by omega)).trans (by omega)
  have hl1:=Pol.len_mod (pw Pol.X (p.toNat^(k-1))) hm
  have hl2:=Pol.len_mod (pw Pol.X (p.toNat^k)) hm
  have e1:=hpw p (pw Pol.X (p.toNat^(k-1))%m) p m hm (by omega) (by omega) (by omega) (by omega)
  have e2:pw (pw Pol.X (p.toNat^(k-1))%m) p.toNat%m=pw Pol.X (p.toNat^k)%m:=by
   rw [Pol.pow_mod _ hm,pw_pw,←Nat.pow_succ,show (k-1).succ=k by omega]
  rw [e2] at e1
  have e3:=ht p
  have hX:(Pol.X:Fp p).len≤64:=by rw [Pol.len_X]; omega
  have e4:=ha p (-1) (pw Pol.X (p.toNat^k)%m) Pol.X (by omega) (by omega) (by omega) hX
  rw [sub_comb] at e4
  have e4':pw Pol.X (p.toNat^k)%m-Pol.X=frW m k:=rfl
  rw [e4'] at e4
  have hl3:(frW m k).len≤64:=Pol.len_sub_le (by omega) hX
  have e5:=hg p m (frW m k) hm (by omega) hl3
  have hgm:=Pol.gcd_monic (a:=m) (b:=frW m k) (.inl hm)
  have hgl:=(Pol.gcd_dv_left (a:=m) (b:=frW m k) (.inl hm)).len hm
  have e6:=hdg p (Pol.gcd m (frW m k)) (by omega)
  have hg1:=Pol.len_pos hgm.2
  by_cases hc:(Pol.gcd m (frW m k)).len=1
  ·obtain ⟨P',ih⟩:=l_sIrr hdg hpw hg ha ht hm hml hn f (k+1) (by omega) (by omega)
   rw [show k+1-1=k by omega] at ih
   refine ⟨P',?_⟩
   have hiff:(∀k',k≤k'→2*k'≤n→(Pol.gcd m (frW m k')).len=1)↔∀k',k+1≤k'→2*k'≤n→(Pol.gcd m (frW m k')).len=1:=by
    constructor
    ·intro h k' h1 h2; exact h k' (by omega) h2
    ·intro h k' h1 h2
     by_cases hkk:k'=k
     ·rw [hkk]; exact hc
     ·exact h k' (by omega) h2
   rw [propext hiff]
   refine dn_round ?_ ih
   rw [hc] at e6
   have e7:((1:Nat):Int)-1=0:=rfl
   rw [e7] at e6
   generalize pad (row (Pol.gcd m (frW m k)))=Pg at *
   generalize pad (row (frW m k))=Pw at *
   generalize pad (row (pw Pol.X (p.toNat^k)%m))=P2 at *
   generalize pad (row (pw Pol.X (p.toNat^(k-1))%m))=P1 at *
   generalize pad (row (Pol.X:Fp p))=PX at *
   generalize pad (row m)=Pm at *
   simp -implicitDefEqProofs [Z3m_L0,dn_cond,w1,hlt,e1,e3,e4,e5,e6,w4]
  ·refine ⟨pad [],?_⟩
   rw [if_neg (fun h=>hc (h k (Nat.le_refl k) (by omega)))]
   have hne:¬ (((Pol.gcd m (frW m k)).len:Int)-1=0):=by omega
   refine dn_back ?_
   generalize ((Pol.gcd m (frW m k)).len:Int)-1=g1 at *
   generalize pad (row (Pol.gcd m (frW m k)))=Pg at *
   generalize pad (row (frW m k))=Pw at *
   generalize pad (row (pw Pol.X (p.toNat^k)%m))=P2 at *
   generalize pad (row (pw Pol.X (p.toNat^(k-1))%m))=P1 at *
   generalize pad (row (Pol.X:Fp p))=PX at *
   generalize pad (row m)=Pm at *
   simp -implicitDefEqProofs [Z3m_L0,dn_cond,w1,hlt,e1,e3,e4,e5,e6,hne]
open Classical in
def K_sIrr (O:Oracle):Prop:=∀(p:Int) [IsP p] (m:Fp p),m≠0→m.len≤13→ask O F3m [(D.int .i64 p),(D.arr 64 .leaf (ints .u8 (pad (row m))))]=some (D.bool (decide (Irr m)))
open Classical in
theorem k_sIrr (hT:T F3m=some Z3m) (hdg:K_sDeg (den T A)) (hmo:K_sMod (den T A)) (hpw:K_sPowMod (den T A)) (hg:K_sGcd (den T A)) (ha:K_sAdd (den T A)) (ht:K_sT (den T A)):K_sIrr (den T A):=by
 intro p i m hm hml
 have e1:=hdg p m (by omega)
 have e2:=ht p
 have e3:=hmo p Pol.X m hm (by rw [Pol.len_X]; omega) (by omega)
 have h1:=Pol.len_pos hm
 refine ask_of hT rfl ?_
 by_cases h2:2≤m.len
 ·obtain ⟨P',e4⟩:=l_sIrr (O:=den T A) hdg hpw hg ha ht hm hml (n:=m.len-1) (by omega) ((m.len-1)/2) 1 (Nat.le_refl 1) (by omega)
  have e5:pw (Pol.X:Fp p) (p.toNat^(1-1))=Pol.X:=by rw [Nat.sub_self,Nat.pow_zero,pw_1]
  rw [e5,irr_test h2 hml] at e4
  rw [show ((m.len:Int)-1)=((m.len-1:Nat):Int) by omega] at e1
  have hlt:¬ (((m.len-1:Nat):Int)<1):=by omega
  have e01:((1:Nat):Int)=1:=rfl
  rw [e01] at e4
  by_cases hi:Irr m
  ·rw [if_pos hi] at e4
   rw [decide_eq_true hi]
   generalize (((m.len-1)/2+1:Nat):Int)=k1 at *
   generalize ((m.len-1:Nat):Int)=n1 at *
   generalize pad (row (Pol.X%m))=P1 at *
   generalize pad (row (Pol.X:Fp p))=PX at *
   generalize pad (row m)=Pm at *
   simp -implicitDefEqProofs [Z3m,Z3m_B,dn_cond,e1,e2,e3,e4,hlt,List.replicate]
  ·rw [if_neg hi] at e4
   rw [decide_eq_false hi]
   generalize ((m.len-1:Nat):Int)=n1 at *
   generalize pad (row (Pol.X%m))=P1 at *
   generalize pad (row (Pol.X:Fp p))=PX at *
   generalize pad (row m)=Pm at *
   simp -implicitDefEqProofs [Z3m,Z3m_B,dn_cond,e1,e2,e3,e4,hlt,List.replicate]
 ·have hl:m.len=1:=by omega
  rw [hl] at e1
  have e7:((1:Nat):Int)-1=0:=rfl
  rw [e7] at e1
  rw [decide_eq_false (fun h:Irr m=>h2 h.len)]
  generalize pad (row (Pol.X%m))=P1 at *
  generalize pad (row (Pol.X:Fp p))=PX at *
  generalize pad (row m)=Pm at *
  simp -implicitDefEqProofs [Z3m,Z3m_B,dn_cond,e1,e2,e3,List.replicate]
end Pe

namespace Pe
open Go Gq
variable {T:Nat→Option Fn} {A:Oracle}
def puts:List Int→Nat→List Int→List Int
 | [],_,cur=>cur
 | d::ds,i,cur=>puts ds (i+1) (cur.set i d)
theorem puts_length:∀(ds:List Int) (i:Nat) (cur:List Int),(puts ds i cur).length=cur.length
 | [],_,_=>rfl
 | d::ds,i,cur=>by rw [puts,puts_length,List.length_set]
theorem puts_cf:∀(ds:List Int) (i:Nat) (cur:List Int) (j:Nat),i+ds.length≤cur.length→cf (puts ds i cur) j=if i≤j∧j<i+ds.length then cf ds (j-i) else cf cur j
 | [],i,cur,j,_=>by rw [puts,if_neg (by rintro ⟨h1,h2⟩; rw [List.length_nil] at h2; omega)]
 | d::ds,i,cur,j,h=>by
  simp at h
  rw [puts,puts_cf ds (i+1) _ j (by rw [List.length_set]; omega),cf_set,List.length_cons]
  by_cases h1:j=i
  ·subst h1
   rw [if_neg (by omega),if_pos ⟨rfl,by omega⟩,if_pos (by omega),Nat.sub_self]; rfl
  ·by_cases h2:i+1≤j∧j<i+1+ds.length
   ·rw [if_pos h2,if_pos (by omega)]
    obtain ⟨k,hk⟩:∃k,j-i=k+1:=⟨j-i-1,by omega⟩
    rw [hk,show j-(i+1)=k by omega]
    simp [cf]
   ·rw [if_neg h2,if_neg (by omega),if_neg (by omega)]
theorem puts_pad {ds:List Int} (h:ds.length≤64):puts ds 0 (pad [])=pad ds:=by
 symm
 apply pad_eq (by rw [puts_length,pad_length])
 intro i hi
 rw [puts_cf _ _ _ _ (by rw [pad_length]; omega)]
 by_cases h1:i<ds.length
 ·rw [if_pos (by omega),Nat.sub_zero]
 ·rw [if_neg (by omega),pad_cf (by simp),cf_ge (by omega),cf_ge (by simp)]
theorem l_sOf {O:Oracle} {p:Int} [IsP p] {z:List Int}:∀(f:Nat) (n:Int) (i:Nat) (cur:List Int),0≤n→n<2^f→n<9223372036854775807→i+f≤64→cur.length=64→∃i':Nat,
 dn O 0 (.loop Z3s_L0) ⟨[(0,(.d (.int .i64 p))),(1,(.d (.int .i64 n))),(4,.ptr 0 []),(5,.ptr 1 []),(6,(.d (.int .i64 i)))],[.box false (D.arr 64 .leaf (ints .u8 z)),.box false (D.arr 64 .leaf (ints .u8 cur))]⟩ =
  some (.exit 0,⟨[(0,(.d (.int .i64 p))),(1,(.d (.int .i64 0))),(4,.ptr 0 []),(5,.ptr 1 []),(6,(.d (.int .i64 i'))),(9,(.d (.bool false)))],[.box false (D.arr 64 .leaf (ints .u8 z)),.box false (D.arr 64 .leaf (ints .u8 (puts (dgs p f n) i cur)))]⟩)
 | 0,n,i,cur,h0,hn,hm,hi,hc=>by
  obtain rfl:n=0:=by simp at hn; omega
  exact ⟨i,dn_stop (by simp -implicitDefEqProofs [Z3s_L0,dn_cond,dgs,puts])⟩
 | f+1,n,i,cur,h0,hn,hm,hi,hc=>by
  have hp:=IsP.ge (p:=p)
  have hp7:=IsP.le (p:=p)
  by_cases hz:n=0
  ·subst hz
   refine ⟨i,?_⟩
   rw [dgs,if_pos (Int.le_refl 0),puts]
   exact dn_stop (by simp -implicitDefEqProofs [Z3s_L0,dn_cond])
  ·have hd:n/p<2^f:=by
    apply Int.ediv_lt_of_lt_mul (by omega)
    have:(2:Int)^(f+1)=2^f*2:=Int.pow_succ _ _
    have h2:(2:Int)^f*2≤2^f*p:=Int.mul_le_mul_of_nonneg_left hp (Int.pow_nonneg (by omega))
    omega
   have hdn:0≤n/p:=Int.ediv_nonneg (by omega) (by omega)
   have hdl:n/p≤n:=Int.ediv_le_self _ h0
   obtain ⟨i',e⟩:=l_sOf (O:=O) (p:=p) (z:=z) f (n/p) (i+1) (cur.set i (n%p)) hdn hd (by omega) (by omega) (by simpa using hc)
   have hpos:0<n:=by omega
   have hr:0≤n%p∧n%p<p:=⟨Int.emod_nonneg _ (by omega),Int.emod_lt_of_pos _ (by omega)⟩
   have w1:IntKind.i64.wrap (n.tdiv p)=n/p:=by rw [Int.tdiv_eq_ediv_of_nonneg h0,w64 (by omega)]
   have w2:n.tmod p=n%p:=Int.tmod_eq_emod_of_nonneg h0
   have w3:IntKind.u8.wrap (n%p)=n%p:=w8 (by omega)
   have w4:IntKind.i64.wrap ((i:Int)+1)=((i+1:Nat):Int):=(w64 (x:=(i:Int)+1) (by omega)).trans (by omega)
   have hp0:p≠0:=by omega
   have hi64:i<64:=by omega
   have hic:i<cur.length:=by omega
   refine ⟨i',?_⟩
   rw [dgs,if_neg (by omega),puts]
   refine dn_round ?_ e
   simp -implicitDefEqProofs [Z3s_L0,dn_cond,hpos,w1,w2,w3,w4,hp0,hi64,hic]
def K_sOf (O:Oracle):Prop:=∀(p:Int) [IsP p] (n:Int),0≤n→n<4611686018427387904→ask O F3s [(D.int .i64 p),(D.int .i64 n)]=some (D.arr 64 .leaf (ints .u8 (pad (row (numP p n)))))
theorem k_sOf (hT:T F3s=some Z3s):K_sOf (den T A):=by
 intro p i n h0 hn
 obtain ⟨i',e⟩:=l_sOf (O:=den T A) (p:=p) (z:=pad []) 64 n 0 (pad []) h0 (by omega) (by omega) (by omega) (pad_length _)
 rw [puts_pad (dgs_le p 64 n),←row_numP (by omega)] at e
 have e0:((0:Nat):Int)=0:=rfl
 rw [e0] at e
 refine ask_of hT rfl ?_
 generalize pad (row (numP p n))=R at *
 simp -implicitDefEqProofs [Z3s,Z3s_B,e]
theorem beqs_ints (k:IntKind):∀{l m:List Int},l.length=m.length→D.beqs .int (ints k l) (ints k m)=some (decide (l=m))
 | [],[],_=>by simp [D.beqs,ints]
 | x::l,y::m,h=>by
  have e:D.beqs .int (ints k (x::l)) (ints k (y::m))=(D.beq .int (.int k x) (.int k y)).bind fun b=>if b then D.beqs .int (ints k l) (ints k m) else some false:=rfl
  rw [e]
  have e2:D.beq .int (.int k x) (.int k y)=some (decide (x=y)):=by simp [D.beq]
  rw [e2,Option.bind_some,beqs_ints k (by simpa using h)]
  by_cases h1:x=y
  ·subst h1; simp
  ·simp [h1]
theorem beq_P {l m:List Int} (hl:l.length=64) (hm:m.length=64):D.beq (.arr 64 .leaf .int) (D.arr 64 .leaf (ints .u8 l)) (D.arr 64 .leaf (ints .u8 m))=some (decide (l=m)):=by
 have e:D.beq (.arr 64 .leaf .int) (D.arr 64 .leaf (ints .u8 l)) (D.arr 64 .leaf (ints .u8 m))=if 64=64∧64=64∧Sh.beq .leaf .leaf∧Sh.beq .leaf .leaf then D.beqs .int (ints .u8 l) (ints .u8 m) else none:=rfl
 rw [e,if_pos ⟨rfl,rfl,rfl,rfl⟩,beqs_ints _ (by omega)]
theorem pad_row_inj {p:Int} {a b:Fp p} (ha:a.len≤64) (hb:b.len≤64):pad (row a)=pad (row b)↔a=b:=by
 constructor
 ·intro h
  rw [←polOf_pad ha,h,polOf_pad hb]
 ·rintro rfl; rfl
section
variable {p:Int} [IsP p]
structure SInv (a0:Fp p) (k:Int) (a:Fp p) (out:Facs p):Prop where
 ne:a≠0
 eq:a0=a*prodF out
 ok:FacOk out
 so:out.Pairwise fun x y=>numOf x.1<numOf y.1
 lt:∀x∈out,numOf x.1<k
 ge:∀q,Irr q→Monic q→Dv q a→k≤numOf q
 ln:out.length+a.len≤13
structure SEnd (a0 a:Fp p) (out:Facs p):Prop where
 ne:a≠0
 eq:a0=a*prodF out
 ok:FacOk out
 so:out.Pairwise fun x y=>numOf x.1<numOf y.1
 irr:2≤a.len→Irr a∧∀x∈out,numOf x.1<numOf (mon a)
 ln:out.length+a.len≤13
theorem mon_irr_dv {q a:Fp p} (hq:Irr q) (h:Dv q a):Dv (mon q) a:=(mon_dv hq.ne).2 h
theorem SInv.small {a0 a:Fp p} {n:Nat} {k:Int} {out:Facs p} (h:SInv a0 k a out) (_hn:n≤12) (hk:p^n≤k):NoSmall n a:=by
 intro q hq hd
 have h1:=h.ge _ hq.mon (mon_monic hq.ne) (mon_irr_dv hq hd)
 have h2:=numOf_in (mon q)
 rw [mon_len hq.ne] at h2
 apply Classical.byContradiction
 intro hx
 have:=ipow_mono (p:=p) (by have:=IsP.pos (p:=p); omega) (show q.len≤n by omega)
 omega
theorem SInv.step {a0 a:Fp p} {n:Nat} {k:Int} {out:Facs p} (h:SInv a0 k a out) (hn1:1≤n) (hn:n≤12) (hk:p^n≤k) (hk2:k<2*p^n) {j:Nat} {r:Fp p} (h1:a=r*pw (numP p k) j) (h2:¬ Dv (numP p k) r) :
 SInv a0 (k+1) r (if j=0 then out else out++[(numP p k,j)]):=by
 obtain ⟨m1,m2⟩:=numP_monic hn hk hk2
 have hb:=ppow_le (p:=p) hn
 have hpos:=ppow_pos (p:=p) n
 have hnum:numOf (numP p k)=k:=numOf_numP ⟨by omega,by omega⟩
 have hr0:r≠0:=fun h0=>h.ne (by rw [h1,h0,Gq.zero_mul])
 have ge':∀q,Irr q→Monic q→Dv q r→k+1≤numOf q:=by
  intro q hq hm hd
  have g1:=h.ge q hq hm (by rw [h1]; exact hd.mul_right _)
  have g2:numOf q≠k:=fun e=>by
   have:q=numP p k:=numOf_inj (by rw [e,hnum])
   exact h2 (this▸hd)
  omega
 by_cases hj:j=0
 ·subst hj
  rw [if_pos rfl]
  rw [pw,Gq.mul_one] at h1
  subst h1
  exact ⟨h.ne,h.eq,h.ok,h.so,fun x hx=>by have:=h.lt x hx; omega,ge',h.ln⟩
 ·rw [if_neg hj]
  have hda:Dv (numP p k) a:=by
   obtain ⟨i,rfl⟩:∃i,j=i+1:=⟨j-1,by omega⟩
   rw [h1,pw]
   exact ((Dv.refl _).mul_left _).mul_left _
  have hi:Irr (numP p k):=by
   refine Irr.of_dv (by omega) fun u hu=>?_
   have hul:=hu.len m1.2
   have hu0:u≠0:=fun h0=>by
    obtain ⟨c,hc⟩:=hu
    exact m1.2 (by rw [hc,h0,Gq.zero_mul])
   have hup:=Pol.len_pos hu0
   by_cases hu1:u.len=1
   ·exact .inl hu1
   ·right
    obtain ⟨q,q1,q2,q3⟩:=irr_ex u.len u (Nat.le_refl _) (by omega)
    have g1:=h.ge q q1 q2 ((q3.trans hu).trans hda)
    have g2:=q3.len hu0
    apply Classical.byContradiction
    intro hx
    have g3:=numOf_len (a:=q) (b:=numP p k) (by omega)
    omega
  have hlt:r.len<a.len:=by
   obtain ⟨i,rfl⟩:∃i,j=i+1:=⟨j-1,by omega⟩
   have hi0:=pw_ne hi.ne i
   have l1:=Pol.len_mul hi0 hi.ne
   have l2:=Pol.len_mul hr0 (Pol.mul_ne hi0 hi.ne)
   have l3:=Pol.len_pos hi0
   rw [h1,pw]; omega
  refine ⟨hr0,?_,h.ok.snoc hi m1 (by omega) fun x hx e=>?_,?_,?_,ge',?_⟩
  ·rw [h.eq,prodF_snoc]
   conv=>lhs; rw [h1]
   exact ring_of [r,pw (numP p k) j,prodF out] rfl
  ·have:=h.lt x hx
   rw [e,hnum] at this; omega
  ·rw [List.pairwise_append]
   refine ⟨h.so,List.pairwise_singleton _ _,fun x hx y hy=>?_⟩
   simp at hy; subst hy
   have:=h.lt x hx
   rw [hnum]; exact this
  ·intro x hx
   rcases List.mem_append.1 hx with hx | hx
   ·have:=h.lt x hx; omega
   ·simp at hx; subst hx; rw [hnum]; omega
  ·have:=h.ln
   simp; omega
theorem SInv.next {a0 a:Fp p} {n:Nat} {out:Facs p} (h:SInv a0 (2*p^n) a out) (hn:n≤11):SInv a0 (p^(n+1)) a out:=by
 refine ⟨h.ne,h.eq,h.ok,h.so,fun x hx=>?_,fun q hq hm hd=>?_,h.ln⟩
 ·have:=h.lt x hx
  have:=ppow_succ (p:=p) n
  omega
 ·have h1:=h.ge q hq hm hd
  have hq0:=Pol.len_pos hm.2
  rcases Nat.lt_or_ge (n+1) q.len with h2 | h2
  ·obtain ⟨d,hd'⟩:∃d,q.len=d+1:=⟨q.len-1,by omega⟩
   have hl:=hd.len h.ne
   have hln:=h.ln
   have h3:=numOf_monic (n:=d) (by omega) hm hd'
   have:=ipow_mono (p:=p) (by have:=IsP.pos (p:=p); omega) (show n+1≤d by omega)
   omega
  ·exfalso
   obtain ⟨d,hd'⟩:∃d,q.len=d+1:=⟨q.len-1,by omega⟩
   have h3:=numOf_monic (n:=d) (by omega) hm hd'
   have:=ipow_mono (p:=p) (by have:=IsP.pos (p:=p); omega) (show d≤n by omega)
   omega
theorem SInv.init {a:Fp p} (ha:a≠0) (hl:a.len≤13):SInv a (p^1) a []:=
 ⟨ha,(Gq.mul_one a).symm,⟨by simp,.nil⟩,.nil,by simp,fun q hq hm _=>by
  have h1:=hq.len
  obtain ⟨d,hd'⟩:∃d,q.len=d+1:=⟨q.len-1,by omega⟩
  by_cases hd12:d≤12
  ·have h3:=numOf_monic (n:=d) hd12 hm hd'
   have:=ipow_mono (p:=p) (by have:=IsP.pos (p:=p); omega) (show 1≤d by omega)
   omega
  ·have h4:=numOf_len (a:=numP p (p^1)) (b:=q) (by
    have:=(numP_monic (p:=p) (n:=1) (by omega) (Int.le_refl _) (by have:=ppow_pos (p:=p) 1; omega)).2
    omega)
   have h5:numOf (numP p (p^1))=p^1:=numOf_numP ⟨Int.le_of_lt (ppow_pos 1),by have:=ppow_le (p:=p) (n:=1) (by omega); omega⟩
   omega,by simpa using hl⟩
theorem SEnd.fac {a0 a:Fp p} {out:Facs p} (h:SEnd a0 a out) (h0:a0≠0):Pe.fac a0=if 2≤a.len then out++[(mon a,1)] else out:=by
 apply fac_eq h0
 have hP:=prodF_monic h.ok
 have hld:a0.ld=a.ld:=by rw [h.eq,Pol.ld_mul h.ne hP.2,hP.1,Gq.mul_one]
 split
 ·rename_i hl
  obtain ⟨hi,hx⟩:=h.irr hl
  refine ⟨h.ok.snoc hi.mon (mon_monic h.ne) (Nat.le_refl 1) fun x hx' e=>?_,?_,?_⟩
  ·have:=hx x hx'
   rw [e] at this; omega
  ·rw [List.pairwise_append]
   refine ⟨h.so,List.pairwise_singleton _ _,fun x hx' y hy=>?_⟩
   simp at hy; subst hy; exact hx x hx'
  ·rw [prodF_snoc,hld]
   show a0=Pol.C a.ld*(prodF out*pw (mon a) 1)
   rw [pw_1,h.eq]
   conv=>lhs; rw [eq_mon h.ne]
   exact ring_of [Pol.C a.ld,mon a,prodF out] rfl
 ·rename_i hl
  have hp:=Pol.len_pos h.ne
  obtain ⟨c,hc,rfl⟩:=unit_of_len (show a.len=1 by omega)
  refine ⟨h.ok,h.so,?_⟩
  rw [hld,Pol.ld_C hc]; exact h.eq
end
end Pe

namespace Pe
open Go Gq
variable {T:Nat→Option Fn} {A:Oracle}
section
variable {p:Int} [IsP p]
end
end Pe


namespace Pe
open Go Gq
variable {T:Nat→Option Fn} {A:Oracle}
section
variable {p:Int} [IsP p]
end
theorem l_sPower {O:Oracle} {p:Int} [IsP p]:∀(n:Nat) (out:Int),n≤12→0<out→out*p^n≤1000000000000000 →
 dn O 0 (.loop Z42_L0) ⟨[(0,(.d (.int .i64 p))),(1,(.d (.int .i64 n))),(5,(.d (.int .i64 out)))],[]⟩ =
  some (.exit 0,⟨[(0,(.d (.int .i64 p))),(1,(.d (.int .i64 0))),(5,(.d (.int .i64 (out*p^n)))),(7,(.d (.bool false)))],[]⟩)
 | 0,out,_,h1,h2=>by
  rw [Int.pow_zero,Int.mul_one]
  exact dn_stop (by simp -implicitDefEqProofs [Z42_L0,dn_cond])
 | n+1,out,hn,h1,h2=>by
  have hp:=IsP.pos (p:=p)
  have e:out*p^(n+1)=out*p*p^n:=by rw [Int.pow_succ,Int.mul_assoc,Int.mul_comm p]
  have h3:1≤p^n:=ppow_pos n
  have h4:0<out*p:=Int.mul_pos h1 hp
  have h5:out*p*1≤out*p*p^n:=Int.mul_le_mul_of_nonneg_left h3 (by omega)
  rw [e] at h2 ⊢
  have h0:(0:Int)<(n:Int)+1:=by omega
  have w1:IntKind.i64.wrap (out*p)=out*p:=w64 (by omega)
  have w2:IntKind.i64.wrap (n:Int)=n:=w64 (by omega)
  refine dn_round ?_ (l_sPower n (out*p) (by omega) h4 h2)
  simp -implicitDefEqProofs [Z42_L0,dn_cond,h0,w1,w2]
def K_sPower (O:Oracle):Prop:=∀(p:Int) [IsP p] (n:Nat),n≤12→ask O F42 [(D.int .i64 p),(D.int .i64 n)]=some (D.int .i64 (p^n))
theorem k_sPower (hT:T F42=some Z42):K_sPower (den T A):=by
 intro p i n hn
 have hb:=ppow_le (p:=p) hn
 have e:=l_sPower (O:=den T A) (p:=p) n 1 hn (by omega) (by omega)
 rw [Int.one_mul] at e
 refine ask_of hT rfl ?_
 simp -implicitDefEqProofs [Z42,Z42_B,e]
section
variable {p:Int} [IsP p]
end
end Pe

namespace Pe
open Go Gq
variable {T:Nat→Option Fn} {A:Oracle}
def sumW (l:List Int):Nat→Int
 | 0=>0
 | n+1=>IntKind.i64.wrap (sumW l n+cf l n)
end Pe

namespace Pe
open Go Gq
variable {T:Nat→Option Fn} {A:Oracle}
end Pe


namespace Pe
open Go Gq
variable {T:Nat→Option Fn} {A:Oracle}
open Classical in
def K_isIrr (O:Oracle):Prop:=∀(p:Int) [IsP p] (a:Fp p),a.len≤13→ask O F1k [(D.int .i64 p),(D.sl .leaf (ints .i64 (row a)))]=some (D.bool (decide (Monic a∧Irr a)))
open Classical in
theorem k_isIrr (hT:T F1k=some Z1k) (hld:C_lead (den T A)) (hdg:C_degree (den T A)) (hf:K_fac (den T A)):K_isIrr (den T A):=by
 intro p i a hal
 have e1:=hld (row a) (by rw [row_length]; omega)
 rw [ld_row] at e1
 have e2:=hdg (row a) (by rw [row_length]; omega)
 rw [row_length] at e2
 refine ask_of hT rfl ?_
 by_cases h1:a.ld=1
 ·have h1':=(rep_one_iff a.ld).2 h1
  have hM:=(monic_iff a).2 h1
  rw [h1'] at e1
  by_cases h2:2≤a.len
  ·obtain ⟨f1,f2,e3⟩:=hf p a hM.2 hal
   have hiff:=irr_fac hM f1
   have hlt:¬ ((a.len:Int)-1<1):=by omega
   have hlt2:¬ ((a.len:Int)<2):=by omega
   have hlt3:(2:Int)≤a.len:=by omega
   have key:(∃q,fac a=[(q,1)])↔(Monic a∧Irr a):=⟨fun h=>⟨hM,hiff.1 h⟩,fun h=>hiff.2 h.2⟩
   generalize fac a=L at *
   cases L with
   | nil=>
    rw [decide_eq_false (fun h0=>by obtain ⟨q,h⟩:=key.2 h0; cases h)]
    simp -implicitDefEqProofs [Z1k,Z1k_B,dn_cond,e1,e2,e3,hlt]
   | cons x L=>
    cases L with
    | nil=>
     obtain ⟨q,k⟩:=x
     by_cases hk:k=1
     ·subst hk
      rw [decide_eq_true (key.1 ⟨q,rfl⟩)]
      simp -implicitDefEqProofs [Z1k,Z1k_B,dn_cond,e1,e2,e3,hlt,facD]
     ·rw [decide_eq_false (fun h0=>by obtain ⟨q',h⟩:=key.2 h0; simp at h; exact hk h.2)]
      have hk':¬ ((k:Int)=1):=by omega
      simp -implicitDefEqProofs [Z1k,Z1k_B,dn_cond,e1,e2,e3,hlt,facD,hk']
    | cons y L=>
     rw [decide_eq_false (fun h0=>by obtain ⟨q',h⟩:=key.2 h0; simp at h)]
     have hk':¬ (((L.length:Int)+1+1)=1):=by omega
     simp -implicitDefEqProofs [Z1k,Z1k_B,dn_cond,e1,e2,e3,hlt,hk']
  ·have hlt:((a.len:Int)-1<1):=by omega
   have hlt2:((a.len:Int)<2):=by omega
   rw [decide_eq_false (fun h=>h2 h.2.len)]
   simp -implicitDefEqProofs [Z1k,Z1k_B,dn_cond,e1,e2,hlt]
 ·have h1':=mt (rep_one_iff a.ld).1 h1
  rw [decide_eq_false (fun h=>h1 h.1.1)]
  simp -implicitDefEqProofs [Z1k,Z1k_B,dn_cond,e1,h1']
def C_IsPoly (O:Oracle):Prop:=∀(p:Int) (l:List Int),Bytes l→l.length=64→ask O Fh [(D.int .i64 p),(D.arr 64 .leaf (ints .u8 l))]=some (D.bool (isP p&&isPl p l))
theorem c_IsPoly (hT:T Fh=some Zh) (hp:C_isPrime (den T A)) (hi:C_isPoly (den T A)):C_IsPoly (den T A):=by
 intro p l hb hl
 have e1:=hp p
 have e2:=hi p l hb hl
 refine ask_of hT rfl ?_
 by_cases h:isP p=true
 ·simp -implicitDefEqProofs [Zh,Zh_B,e1,e2,h]
 ·simp -implicitDefEqProofs [Zh,Zh_B,e1,h]
structure Fld {p:Int} [IsP p] (m:Fp p):Prop where
 mon:Monic m
 two:2≤m.len
 five:m.len≤5
 irr:Irr m
def IsFld (p:Int) (l:List Int):Prop:=∃(_:IsP p) (m:Fp p),l=pad (row m)∧Fld m
theorem isFld_bad {p:Int} {l:List Int} (h:isP p=true→isPl p l=false):¬ IsFld p l:=by
 rintro ⟨ip,m,rfl,hm⟩
 have:=h isP_true
 rw [isPl_row] at this
 cases this
theorem isFld_good {p:Int} [IsP p] {a:Fp p} (hl:a.len≤64):IsFld p (pad (row a))↔Fld a:=by
 constructor
 ·rintro ⟨ip,m,e,hm⟩
  have hml:=hm.five
  rw [(pad_row_inj hl (by omega)).1 e]
  exact hm
 ·intro h; exact ⟨_,a,rfl,h⟩
open Classical in
def C_isField (O:Oracle):Prop:=∀(p:Int) (l:List Int),Bytes l→l.length=64→ask O F15 [(D.int .i64 p),(D.arr 64 .leaf (ints .u8 l))]=some (D.bool (decide (IsFld p l)))
open Classical in
theorem c_isField (hT:T F15=some Z15) (hro:C_rowOf (den T A)) (hip:C_IsPoly (den T A)) (hdg:C_degree (den T A)) (hwi:C_within (den T A)) (hir:K_isIrr (den T A)):C_isField (den T A):=by
 intro p l hb hl
 have e1:=hro l hb hl
 have e2:=hip p l hb hl
 refine ask_of hT rfl ?_
 rcases arg1 p hb hl with ⟨h1,h2⟩ | ⟨ip,a,hal,rfl⟩
 ·have h3:(isP p&&isPl p l)=false:=by
   cases hx:isP p
   ·rfl
   ·rw [h2 hx]; rfl
  rw [decide_eq_false (isFld_bad h2)]
  rw [h3] at e2
  simp -implicitDefEqProofs [Z15,Z15_B,e1,e2]
 ·rw [isP_true,isPl_row] at e2
  rw [trim_pad a hal] at e1
  have e3:=hdg (row a) (by rw [row_length]; omega)
  rw [row_length] at e3
  have e4:=hwi ((a.len:Int)-1) 1 4
  by_cases h:2≤a.len∧a.len≤5
  ·have h3:decide ((1:Int)≤(a.len:Int)-1∧(a.len:Int)-1≤4)=true:=decide_eq_true (by omega)
   rw [h3] at e4
   have e5:=hir p a (by omega)
   have h6:decide (IsFld p (pad (row a)))=decide (Monic a∧Irr a):=decide_eq_decide.2 ((isFld_good hal).trans ⟨fun g=>⟨g.mon,g.irr⟩,fun g=>⟨g.1,h.1,h.2,g.2⟩⟩)
   rw [h6]
   generalize decide (Monic a∧Irr a)=b at *
   generalize pad (row a)=Pa at *
   simp -implicitDefEqProofs [Z15,Z15_B,e1,e2,e3,e4,e5]
  ·have h3:decide ((1:Int)≤(a.len:Int)-1∧(a.len:Int)-1≤4)=false:=decide_eq_false (by omega)
   rw [h3] at e4
   rw [decide_eq_false (fun g=>h ⟨((isFld_good hal).1 g).two,((isFld_good hal).1 g).five⟩)]
   generalize pad (row a)=Pa at *
   simp -implicitDefEqProofs [Z15,Z15_B,e1,e2,e3,e4]
def IsRes {p:Int} [IsP p] (m:Fp p) (l:List Int):Prop:=∃a:Fp p,a.len<m.len∧l=pad (row a)
noncomputable abbrev fldD {p:Int} (m:Fp p):D:=.st [.leaf,.leaf] [.int .i64 p,(D.sl .leaf (ints .i64 (row m)))]
open Classical in
def C_isRes (O:Oracle):Prop:=∀(p:Int) [IsP p] (m:Fp p) (l:List Int),m.len≤64→Bytes l→l.length=64→ask O F10 [fldD m,(D.arr 64 .leaf (ints .u8 l))]=some (D.bool (decide (IsRes m l)))
theorem isRes_iff {p:Int} [IsP p] {m a:Fp p} (hm:m.len≤64) (ha:a.len≤64):IsRes m (pad (row a))↔a.len<m.len:=by
 constructor
 ·rintro ⟨b,h1,h2⟩
  rw [(pad_row_inj ha (by omega)).1 h2]; exact h1
 ·intro h; exact ⟨a,h,rfl⟩
open Classical in
theorem c_isRes (hT:T F10=some Z10) (hi:C_isPoly (den T A)) (hro:C_rowOf (den T A)) (hdg:C_degree (den T A)):C_isRes (den T A):=by
 intro p ip m l hm hb hl
 have e1:=hi p l hb hl
 refine ask_of hT rfl ?_
 by_cases h:isPl p l=true
 ·obtain ⟨a,hal,rfl⟩:=row_of_isPl hb hl h
  rw [h] at e1
  have e2:=hro _ hb hl
  rw [trim_pad a hal] at e2
  have e3:=hdg (row a) (by rw [row_length]; omega)
  rw [row_length] at e3
  have e4:=hdg (row m) (by rw [row_length]; omega)
  rw [row_length] at e4
  have h5:decide ((a.len:Int)-1<(m.len:Int)-1)=decide (IsRes m (pad (row a))):=decide_eq_decide.2 ((show _↔a.len<m.len by omega).trans (isRes_iff hm hal).symm)
  rw [←h5]
  generalize pad (row a)=Pa at *
  simp -implicitDefEqProofs [Z10,Z10_B,e1,e2,e3,e4]
 ·rw [decide_eq_false (fun ⟨a,h1,h2⟩=>h (by rw [h2]; exact isPl_row))]
  have h':isPl p l=false:=by simpa using h
  rw [h'] at e1
  simp -implicitDefEqProofs [Z10,Z10_B,e1]
def K_fieldOf (O:Oracle):Prop:=∀(p:Int) [IsP p] (m:Fp p),m.len≤64→ask O Fx [(D.int .i64 p),(D.arr 64 .leaf (ints .u8 (pad (row m))))]=some (fldD m)
theorem k_fieldOf (hT:T Fx=some Zx) (hro:K_rowOf (den T A)):K_fieldOf (den T A):=by
 intro p ip m hm
 have e1:=hro p m hm
 refine ask_of hT rfl ?_
 generalize pad (row m)=Pm at *
 simp -implicitDefEqProofs [Zx,Zx_B,e1,List.replicate]
end Pe

namespace Pe
open Go Gq
variable {T:Nat→Option Fn} {A:Oracle}
abbrev drSh:List Sh:=[.leaf,.arr 64 .leaf,.arr 64 .leaf,.arr 64 .leaf]
abbrev drD (n:Int) (u v w:List Int):D:=.st drSh [(D.int .i64 n),(D.arr 64 .leaf (ints .u8 u)),(D.arr 64 .leaf (ints .u8 v)),(D.arr 64 .leaf (ints .u8 w))]
def IsDr (n:Int) (u v w:List Int):Prop:=∃(_:IsP n) (m g d:Fp n),u=pad (row m)∧v=pad (row g)∧w=pad (row d)∧Fld m∧g.len<m.len∧d.len<m.len∧d≠0
theorem isDr_iff {p:Int} [IsP p] {m:Fp p} (hm:Fld m) {v w:List Int}:IsDr p (pad (row m)) v w↔IsRes m v∧IsRes m w∧w≠pad []:=by
 have h5:=hm.five
 constructor
 ·rintro ⟨ip,m',g,d,e1,rfl,rfl,h1,h2,h3,h4⟩
  have h6:=h1.five
  obtain rfl:=(pad_row_inj (by omega) (by omega)).1 e1
  refine ⟨⟨g,h2,rfl⟩,⟨d,h3,rfl⟩,fun h=>h4 ?_⟩
  rw [←row_zero (p:=p)] at h
  exact (pad_row_inj (by omega) (by rw [Pol.len_zero]; omega)).1 h
 ·rintro ⟨⟨g,h2,rfl⟩,⟨d,h3,rfl⟩,h4⟩
  exact ⟨_,m,g,d,rfl,rfl,rfl,hm,h2,h3,fun h=>h4 (by rw [h,row_zero])⟩
theorem isDr_fld {n:Int} {u v w:List Int} (h:IsDr n u v w):IsFld n u:=by
 obtain ⟨ip,m,g,d,e1,_,_,h1,_⟩:=h
 exact ⟨ip,m,e1,h1⟩
open Classical in
def C_IsDr (O:Oracle) (F:Nat):Prop:=∀(n:Int) (u v w:List Int),Bytes u→u.length=64→Bytes v→v.length=64→Bytes w→w.length=64→ask O F [drD n u v w]=some (D.bool (decide (IsDr n u v w)))
open Classical in
theorem c_IsDr (hT:T Fg=some Zg) (hif:C_isField (den T A)) (hfo:K_fieldOf (den T A)) (hir:C_isRes (den T A)):C_IsDr (den T A) Fg:=by
 intro n u v w bu gu bv gv bw gw
 have e1:=hif n u bu gu
 refine ask_of hT rfl ?_
 by_cases hf:IsFld n u
 ·rw [decide_eq_true hf] at e1
  obtain ⟨ip,m,rfl,hm⟩:=hf
  have h5:=hm.five
  have e2:=hfo n m (by omega)
  have e3:=hir n m v (by omega) bv gv
  have e4:=hir n m w (by omega) bw gw
  have e5:=beq_P gw (pad_length [])
  have h6:decide (IsDr n (pad (row m)) v w)=(decide (IsRes m v)&&decide (IsRes m w) && !decide (w=pad [])):=by
   have h7:decide (IsDr n (pad (row m)) v w)=decide (IsRes m v∧IsRes m w∧w≠pad []):=decide_eq_decide.2 (isDr_iff hm)
   rw [h7]
   by_cases h1:IsRes m v <;> by_cases h2:IsRes m w <;> by_cases h3:w=pad [] <;> simp [h1,h2,h3]
  rw [h6]
  generalize pad (row m)=Pm at *
  cases hb1:decide (IsRes m v) <;> cases hb2:decide (IsRes m w) <;> rw [hb1] at e3 <;> rw [hb2] at e4 <;> simp -implicitDefEqProofs [Zg,Zg_B,dn_cond,e1,e2,e3,e4,e5,List.replicate]
 ·rw [decide_eq_false hf] at e1
  rw [decide_eq_false (fun h=>hf (isDr_fld h))]
  simp -implicitDefEqProofs [Zg,Zg_B,dn_cond,e1,List.replicate]
open Classical in
theorem c_sDr (hT:T F4c=some Z4c) (hc:C_sCode (den T A)) (hmo:K_sMonic (den T A)) (hdg:K_sDeg (den T A)) (hin:C_sIn (den T A)) (hir:K_sIrr (den T A)):C_IsDr (den T A) F4c:=by
 intro n u v w bu gu bv gv bw gw
 have e1:=hc n [u,v,w] (by intro x hx; simp at hx; rcases hx with rfl | rfl | rfl <;> exact ⟨by assumption,by assumption⟩) (by simp)
 rw [show List.map arr8 [u,v,w]=[(D.arr 64 .leaf (ints .u8 u)),(D.arr 64 .leaf (ints .u8 v)),(D.arr 64 .leaf (ints .u8 w))] from rfl] at e1
 refine ask_of hT rfl ?_
 by_cases hp:isP n=true∧isPl n u=true∧isPl n v=true∧isPl n w=true
 ·obtain ⟨p1,p2,p3,p4⟩:=hp
  have hcc:codeP n [u,v,w]=0:=by simp [codeP,p1,p2,p3,p4]
  rw [hcc] at e1
  have ip:=isP_of p1
  obtain ⟨m,hml,rfl⟩:=row_of_isPl bu gu p2
  obtain ⟨g,hgl,rfl⟩:=row_of_isPl bv gv p3
  obtain ⟨d,hdl,rfl⟩:=row_of_isPl bw gw p4
  have e2:=hmo n m hml
  have e3:=hdg n m hml
  have e4:=hdg n g hgl
  have e5:=hdg n d hdl
  have e6:=hin ((m.len:Int)-1) 1 4
  have t3:pad (row d)=pad []↔d=0:=by
   rw [←row_zero (p:=n),pad_row_inj hdl (by rw [Pol.len_zero]; omega)]
  have t4:decide (pad (row d)=pad [])=decide (d=0):=decide_eq_decide.2 t3
  have e8:=beq_P (pad_length (row d)) (pad_length [])
  rw [t4] at e8
  by_cases hM:Monic m
  ·rw [decide_eq_true hM] at e2
   by_cases h:2≤m.len∧m.len≤5
   ·have h3:decide ((1:Int)≤(m.len:Int)-1∧(m.len:Int)-1≤4)=true:=decide_eq_true (by omega)
    rw [h3] at e6
    have e7:=hir n m hM.2 (by omega)
    by_cases hI:Irr m
    ·rw [decide_eq_true hI] at e7
     have hF:Fld m:=⟨hM,h.1,h.2,hI⟩
     have h8:decide (IsDr n (pad (row m)) (pad (row g)) (pad (row d)))=(decide ((g.len:Int)-1<(m.len:Int)-1)&&decide ((d.len:Int)-1<(m.len:Int)-1) && !decide (d=0)):=by
      have h7:decide (IsDr n (pad (row m)) (pad (row g)) (pad (row d)))=decide (g.len<m.len∧d.len<m.len∧d≠0):=decide_eq_decide.2 ((isDr_iff hF).trans (by
       rw [isRes_iff (by omega) hgl,isRes_iff (by omega) hdl]
       rw [Ne,t3]))
      rw [h7]
      have t1:((g.len:Int)-1<(m.len:Int)-1)↔g.len<m.len:=by omega
      have t2:((d.len:Int)-1<(m.len:Int)-1)↔d.len<m.len:=by omega
      have t5:decide ((g.len:Int)-1<(m.len:Int)-1)=decide (g.len<m.len):=decide_eq_decide.2 t1
      have t6:decide ((d.len:Int)-1<(m.len:Int)-1)=decide (d.len<m.len):=decide_eq_decide.2 t2
      rw [t5,t6]
      by_cases x1:g.len<m.len <;> by_cases x2:d.len<m.len <;> by_cases x3:d=0 <;> simp [x1,x2,x3]
     rw [h8]
     generalize (m.len:Int)-1=m1 at *
     generalize (g.len:Int)-1=g1 at *
     generalize (d.len:Int)-1=d1 at *
     generalize decide (d=0)=bz at *
     generalize pad (row m)=Pm at *
     generalize pad (row g)=Pg at *
     generalize pad (row d)=Pd at *
     cases hb1:decide (g1<m1) <;> cases hb2:decide (d1<m1) <;> simp -implicitDefEqProofs [Z4c,Z4c_B,dn_cond,e1,e2,e3,e4,e5,e6,e7,e8,hb1,hb2,List.replicate]
    ·rw [decide_eq_false hI] at e7
     rw [decide_eq_false (fun hd=>hI ((isFld_good hml).1 (isDr_fld hd)).irr)]
     generalize (m.len:Int)-1=m1 at *
     generalize pad (row m)=Pm at *
     generalize pad (row g)=Pg at *
     generalize pad (row d)=Pd at *
     simp -implicitDefEqProofs [Z4c,Z4c_B,dn_cond,e1,e2,e3,e6,e7,List.replicate]
   ·have h3:decide ((1:Int)≤(m.len:Int)-1∧(m.len:Int)-1≤4)=false:=decide_eq_false (by omega)
    rw [h3] at e6
    rw [decide_eq_false (fun hd=>h ⟨((isFld_good hml).1 (isDr_fld hd)).two,((isFld_good hml).1 (isDr_fld hd)).five⟩)]
    generalize (m.len:Int)-1=m1 at *
    generalize pad (row m)=Pm at *
    generalize pad (row g)=Pg at *
    generalize pad (row d)=Pd at *
    simp -implicitDefEqProofs [Z4c,Z4c_B,dn_cond,e1,e2,e3,e6,List.replicate]
  ·rw [decide_eq_false hM] at e2
   rw [decide_eq_false (fun hd=>hM ((isFld_good hml).1 (isDr_fld hd)).mon)]
   generalize pad (row m)=Pm at *
   generalize pad (row g)=Pg at *
   generalize pad (row d)=Pd at *
   simp -implicitDefEqProofs [Z4c,Z4c_B,dn_cond,e1,e2,List.replicate]
 ·have hcc:codeP n [u,v,w]=1:=by
   unfold codeP
   rw [if_neg]
   rintro ⟨h1,h2⟩
   simp at h2
   exact hp ⟨h1,h2⟩
  rw [hcc] at e1
  rw [decide_eq_false (by
   rintro ⟨ip,m,g,d,rfl,rfl,rfl,_⟩
   exact hp ⟨isP_true,isPl_row,isPl_row,isPl_row⟩)]
  simp -implicitDefEqProofs [Z4c,Z4c_B,dn_cond,e1,List.replicate]
open Classical in
noncomputable def codeDr (n:Int) (u v w:List Int) (ls:List (List Int)):Int:=if IsDr n u v w∧ls.all (isPl n)=true then 0 else 1
def C_drCode (O:Oracle) (F:Nat):Prop:=∀(n:Int) (u v w:List Int) (ls:List (List Int)),Bytes u→u.length=64→Bytes v→v.length=64→Bytes w→w.length=64→Arrs ls→ls.length<2000000 →
 ask O F [drD n u v w,.sl (.arr 64 .leaf) (ls.map arr8)]=some (D.int .i64 (codeDr n u v w ls))
theorem fn_drPoly {n:Int} {u v w:List Int} {ls:List (List Int)} (h:Arrs ls) (hT1:T Fw=some Zw) (hi:C_isPoly (den T A)):FnBool (den T A) Fw [] [.ip (drD n u v w)] (ls.map arr8) fun x=>isPl n x.nums:=by
 refine ⟨fun x hx=>by simp at hx,fun x hx=>by simp at hx; subst hx; rfl,fun x hx=>?_,fun x hx=>?_⟩
 ·obtain ⟨n,_,rfl⟩:=List.mem_map.1 hx; rfl
 ·obtain ⟨l,hn,rfl⟩:=List.mem_map.1 hx
  have e:=hi n l (h l hn).2 (h l hn).1
  have e2:=nums_arr8 l
  refine ask_of hT1 rfl ?_
  simp -implicitDefEqProofs [Zw,Zw_B,e,e2]
open Classical in
theorem c_drCode (hT:T Fv=some Zv) (hT1:T Fw=some Zw) (hd:C_IsDr (den T A) Fg) (hi:C_isPoly (den T A)) (ha:C_allOf (den T A) Fs (.arr 64 .leaf)):C_drCode (den T A) Fv:=by
 intro n u v w ls bu gu bv gv bw gw h hl
 have e:=ha _ _ _ _ _ (fn_drPoly (n:=n) (u:=u) (v:=v) (w:=w) h hT1 hi) (fun x hx=>by obtain ⟨n,_,rfl⟩:=List.mem_map.1 hx; rfl) (by simpa using hl)
 rw [all_arrs] at e
 have e1:=hd n u v w bu gu bv gv bw gw
 unfold codeDr
 refine ask_of hT rfl ?_
 by_cases h1:IsDr n u v w
 ·rw [decide_eq_true h1] at e1
  cases h2:ls.all (isPl n)
  ·rw [h2] at e
   rw [if_neg (by simp)]
   simp -implicitDefEqProofs [Zv,Zv_B,e1,e,dn_cond]
  ·rw [h2] at e
   rw [if_pos ⟨h1,rfl⟩]
   simp -implicitDefEqProofs [Zv,Zv_B,e1,e,dn_cond]
 ·rw [decide_eq_false h1] at e1
  rw [if_neg (fun h=>h1 h.1)]
  simp -implicitDefEqProofs [Zv,Zv_B,e1,dn_cond]
open Classical in
theorem c_sDrCode (hT:T F47=some Z47) (hd:C_IsDr (den T A) F4c) (hc:C_sCode (den T A)):C_drCode (den T A) F47:=by
 intro n u v w ls bu gu bv gv bw gw h hl
 have e:=hc n ls h hl
 have e1:=hd n u v w bu gu bv gv bw gw
 unfold codeDr
 refine ask_of hT rfl ?_
 by_cases h1:IsDr n u v w
 ·rw [decide_eq_true h1] at e1
  have hp:isP n=true:=by obtain ⟨ip,_⟩:=h1; exact isP_true
  unfold codeP at e
  cases h2:ls.all (isPl n)
  ·rw [h2,if_neg (by simp)] at e
   rw [if_neg (by simp)]
   simp -implicitDefEqProofs [Z47,Z47_B,e1,e,dn_cond]
  ·rw [h2,if_pos ⟨hp,rfl⟩] at e
   rw [if_pos ⟨h1,rfl⟩]
   simp -implicitDefEqProofs [Z47,Z47_B,e1,e,dn_cond]
 ·rw [decide_eq_false h1] at e1
  rw [if_neg (fun h=>h1 h.1)]
  simp -implicitDefEqProofs [Z47,Z47_B,e1,dn_cond]
end Pe

namespace Pe
open Go Gq
variable {T:Nat→Option Fn} {A:Oracle}
section
variable {p:Int} [IsP p]
noncomputable def frIt (m:Fp p):Nat→Fp p→Fp p
 | 0,a=>a
 | k+1,a=>frIt m k (pw a p.toNat%m)
theorem frIt_len {m:Fp p} (hm:m≠0):∀(k:Nat) (a:Fp p),a.len<m.len→(frIt m k a).len<m.len
 | 0,_,h=>h
 | k+1,_a,_=>frIt_len hm k _ (Pol.len_mod _ hm)
theorem frIt_mk {m:Fp p}:∀(k:Nat) (a:Fp p),Quo.mk m (frIt m k a)=pw (Quo.mk m a) (p.toNat^k)
 | 0,a=>by rw [Nat.pow_zero,pw_1]; rfl
 | k+1,a=>by
  show Quo.mk m (frIt m k (pw a p.toNat%m))=_
  rw [frIt_mk k,Pol.mk_mod,Quo.mk_pow,pw_pw,Nat.pow_succ,Nat.mul_comm]
theorem frIt_mod {m:Fp p} (hm:Fld m) (k:Nat) {a:Fp p} (ha:a.len<m.len):frIt m (k%(m.len-1)) a=frIt m k a:=by
 have h2:=hm.two
 have h5:=hm.five
 have small:p^(m.len-1)<1000000000000:=by
  have h1:=ipow_mono (p:=p) (by have:=IsP.pos (p:=p); omega) (show m.len-1≤12 by omega)
  have h7:=ppow_le (p:=p) (n:=12) (by omega)
  omega
 have hd:∀x:Quo m,pw x (p.toNat^(m.len-1))=x:=fermat_all hm.irr (by omega) small
 have hq:∀(q:Nat) (x:Quo m),pw x (p.toNat^((m.len-1)*q))=x:=by
  intro q
  induction q with
  | zero=>intro x; rw [Nat.mul_zero,Nat.pow_zero,pw_1]
  | succ q ih=>intro x; rw [Nat.mul_succ,Nat.pow_add,←pw_pw,ih,hd]
 have h0:m≠0:=hm.mon.2
 have e:Quo.mk m (frIt m (k%(m.len-1)) a)=Quo.mk m (frIt m k a):=by
  rw [frIt_mk,frIt_mk]
  have hk:k=(m.len-1)*(k/(m.len-1))+k%(m.len-1):=(Nat.div_add_mod k (m.len-1)).symm
  have:p.toNat^k=p.toNat^((m.len-1)*(k/(m.len-1)))*p.toNat^(k%(m.len-1)):=by rw [←Nat.pow_add,←hk]
  rw [this,←pw_pw,hq]
 have e2:=(Pol.mod_eq_iff h0).2 e
 rwa [Pol.mod_small (frIt_len h0 _ _ ha),Pol.mod_small (frIt_len h0 _ _ ha)] at e2
noncomputable def invm (m a:Fp p):Fp p:=(Pol.bezout a m).2.1%m
theorem invm_len {m:Fp p} (hm:m≠0) (a:Fp p):(invm m a).len<m.len:=Pol.len_mod _ hm
theorem invm_ok {m a:Fp p} (hm:Fld m) (ha:a≠0) (hal:a.len<m.len):Quo.mk m (invm m a)*Quo.mk m a=1:=by
 have h0:m≠0:=hm.mon.2
 have e:=Pol.bezout_eq (a:=a) (b:=m) (.inl ha)
 have hg:Pol.gcd a m=1:=by
  have h1:=Pol.gcd_monic (a:=a) (b:=m) (.inl ha)
  have h2:=Pol.gcd_dv_left (a:=a) (b:=m) (.inl ha)
  have h3:=Pol.gcd_dv_right (a:=a) (b:=m) (.inl ha)
  refine h1.eq_one ?_
  rcases hm.irr.dv h3 with h | h
  ·exact h
  ·have:=h2.len ha
   omega
 rw [hg] at e
 unfold invm
 rw [Pol.mk_mod]
 have:Quo.mk m ((Pol.bezout a m).2.1*a+(Pol.bezout a m).2.2*m)=Quo.mk m 1:=by rw [e]
 rw [Quo.mk_add,Quo.mk_mul,Quo.mk_mul] at this
 have hm0:Quo.mk m m=0:=dv_iff_mk.1 (Dv.refl m)
 rw [hm0,Gq.mul_zero,Gq.add_zero] at this
 exact this
end
theorem prod_len {p:Int} [IsP p] {a b:Fp p} {n:Nat} (ha:a.len≤n) (hb:b.len≤n):(a*b).len≤2*n:=by
 by_cases h:a=0
 ·rw [h,Gq.zero_mul,Pol.len_zero]; omega
 ·by_cases h2:b=0
  ·rw [h2,Gq.mul_zero,Pol.len_zero]; omega
  ·have:=Pol.len_mul h h2; omega
def K_product (O:Oracle):Prop:=∀(p:Int) [IsP p] (m a b:Fp p),m≠0→m.len≤64→a.len≤1000→b.len≤1000→ask O F13 [fldD m,(D.sl .leaf (ints .i64 (row a))),(D.sl .leaf (ints .i64 (row b)))]=some (D.sl .leaf (ints .i64 (row (a*b%m))))
theorem k_product (hT:T F13=some Z13) (ht:K_times (den T A)) (hr:K_rest (den T A)):K_product (den T A):=by
 intro p ip m a b hm hml ha hb
 have e1:=ht p a b (by omega) (by omega)
 have hl:=prod_len (n:=1000) ha hb
 have e2:=hr p (a*b) m hm (by omega) (by omega)
 refine ask_of hT rfl ?_
 simp -implicitDefEqProofs [Z13,Z13_B,e1,e2]
theorem l_frob {O:Oracle} (hpw:K_power O) {p:Int} [IsP p] {m:Fp p} (hm:m≠0) (hml:m.len≤64) {n:Nat} (hn:n<1000000):∀(k i:Nat) (a:Fp p),i+k=n→a.len≤1000 →
 dn O 0 (.loop Zz_L0) ⟨[(1,(.d (.sl .leaf (ints .i64 (row a))))),(3,.ptr 0 []),(11,(.d (.int .i64 n))),(12,(.d (.int .i64 i)))],[.box false (fldD m)]⟩ =
  some (.exit 0,⟨[(1,(.d (.sl .leaf (ints .i64 (row (frIt m k a)))))),(3,.ptr 0 []),(11,(.d (.int .i64 n))),(12,(.d (.int .i64 n))),(13,(.d (.bool false)))],[.box false (fldD m)]⟩)
 | 0,i,a,hi,ha=>by
  obtain rfl:i=n:=by omega
  exact dn_stop (by simp -implicitDefEqProofs [Zz_L0,dn_cond,frIt])
 | k+1,i,a,hi,ha=>by
  have hp:=IsP.pos (p:=p)
  have hp7:=IsP.le (p:=p)
  have hlt:i<n:=by omega
  have w4:IntKind.i64.wrap ((i:Int)+1)=((i+1:Nat):Int):=(w64 (x:=(i:Int)+1) (by omega)).trans (by omega)
  have e1:=hpw p a p m hm (by omega) (by omega) (by omega) (by omega)
  have hl:=Pol.len_mod (pw a p.toNat) hm
  refine dn_round ?_ (l_frob hpw hm hml hn k (i+1) (pw a p.toNat%m) (by omega) (by omega))
  simp -implicitDefEqProofs [Zz_L0,dn_cond,hlt,e1,w4]
def K_frob (O:Oracle):Prop:=∀(p:Int) [IsP p] (m a:Fp p) (k:Nat),2≤m.len→m.len≤64→a.len≤1000→k<1000000→ask O Fz [fldD m,(D.sl .leaf (ints .i64 (row a))),(D.int .i64 k)]=some (D.sl .leaf (ints .i64 (row (frIt m (k%(m.len-1)) a))))
theorem k_frob (hT:T Fz=some Zz) (hpw:K_power (den T A)) (hdg:C_degree (den T A)):K_frob (den T A):=by
 intro p ip m a k h2 hml ha hk
 have hm:m≠0:=fun h=>by rw [h,Pol.len_zero] at h2; omega
 have e1:=hdg (row m) (by rw [row_length]; omega)
 rw [row_length,show ((m.len:Int)-1)=((m.len-1:Nat):Int) by omega] at e1
 have hlt:=Nat.mod_lt k (show 0<m.len-1 by omega)
 have e2:=l_frob (O:=den T A) hpw hm hml (n:=k%(m.len-1)) (by omega) (k%(m.len-1)) 0 a (Nat.zero_add _) ha
 have e00:((0:Nat):Int)=0:=rfl
 rw [e00] at e2
 have w1:(k:Int).tmod ((m.len-1:Nat):Int)=((k%(m.len-1):Nat):Int):=by rw [Int.tmod_eq_emod_of_nonneg (by omega)]; rfl
 have h0:((m.len-1:Nat):Int)≠0:=by omega
 refine ask_of hT rfl ?_
 generalize row (frIt m (k%(m.len-1)) a)=R at *
 generalize ((k%(m.len-1):Nat):Int)=n1 at *
 generalize ((m.len-1:Nat):Int)=m1 at *
 simp -implicitDefEqProofs [Zz,Zz_B,e1,e2,w1,h0]
def K_sTimes6 (O:Oracle):Prop:=∀(p:Int) [IsP p] (m a b:Fp p) (v w:List Int),m≠0→m.len≤64→a.len≤64→b.len≤64→ask O F4i [drD p (pad (row m)) v w,(D.arr 64 .leaf (ints .u8 (pad (row a)))),(D.arr 64 .leaf (ints .u8 (pad (row b))))]=some (D.arr 64 .leaf (ints .u8 (pad (row (a*b%m)))))
theorem k_sTimes6 (hT:T F4i=some Z4i) (hmm:K_sMulMod (den T A)):K_sTimes6 (den T A):=by
 intro p ip m a b v w hm hml ha hb
 have e1:=hmm p a b m hm hml ha hb
 refine ask_of hT rfl ?_
 generalize pad (row (a*b%m))=R at *
 generalize pad (row a)=Pa at *
 generalize pad (row b)=Pb at *
 generalize pad (row m)=Pm at *
 simp -implicitDefEqProofs [Z4i,Z4i_B,e1,List.replicate]
theorem l_sUp6 {O:Oracle} (hpw:K_sPowMod O) {p:Int} [IsP p] {m:Fp p} {v w z:List Int} (hm:m≠0) (hml:m.len≤64):∀(k:Nat) (a:Fp p),k<1000000→a.len≤64 →
 dn O 0 (.loop Z4j_L0) ⟨[(2,(.d (.int .i64 k))),(3,.ptr 0 []),(4,.ptr 1 []),(6,.ptr 2 [])],[.box false (drD p (pad (row m)) v w),.box false (D.arr 64 .leaf (ints .u8 (pad (row a)))),.box false (D.arr 64 .leaf (ints .u8 z))]⟩ =
  some (.exit 0,⟨[(2,(.d (.int .i64 0))),(3,.ptr 0 []),(4,.ptr 1 []),(6,.ptr 2 []),(8,(.d (.bool false)))],[.box false (drD p (pad (row m)) v w),.box false (D.arr 64 .leaf (ints .u8 (pad (row (frIt m k a))))),.box false (D.arr 64 .leaf (ints .u8 z))]⟩)
 | 0,a,hk,ha=>by
  refine dn_stop ?_
  show _=some (_,(⟨_,[_,.box false (D.arr 64 .leaf (ints .u8 (pad (row a)))),_]⟩:St))
  generalize pad (row a)=Pa at *
  generalize pad (row m)=Pm at *
  simp -implicitDefEqProofs [Z4j_L0,dn_cond]
 | k+1,a,hk,ha=>by
  have hp:=IsP.pos (p:=p)
  have hp7:=IsP.le (p:=p)
  have w4:IntKind.i64.wrap (((k+1:Nat):Int)-1)=(k:Int):=(w64 (x:=((k+1:Nat):Int)-1) (by omega)).trans (by omega)
  have hlt:(0:Int)<((k+1:Nat):Int):=by omega
  have e1:=hpw p a p m hm ha hml (by omega) (by omega)
  have hl:=Pol.len_mod (pw a p.toNat) hm
  refine dn_round ?_ (l_sUp6 hpw hm hml k (pw a p.toNat%m) (by omega) (by omega))
  generalize ((k+1:Nat):Int)=k1 at *
  generalize pad (row (pw a p.toNat%m))=R at *
  generalize pad (row a)=Pa at *
  generalize pad (row m)=Pm at *
  simp -implicitDefEqProofs [Z4j_L0,dn_cond,hlt,e1,w4]
def K_sUp6 (O:Oracle):Prop:=∀(p:Int) [IsP p] (m a:Fp p) (v w:List Int) (k:Nat),m≠0→m.len≤64→a.len≤64→k<1000000→ask O F4j [drD p (pad (row m)) v w,(D.arr 64 .leaf (ints .u8 (pad (row a)))),(D.int .i64 k)]=some (D.arr 64 .leaf (ints .u8 (pad (row (frIt m k a)))))
theorem k_sUp6 (hT:T F4j=some Z4j) (hpw:K_sPowMod (den T A)):K_sUp6 (den T A):=by
 intro p ip m a v w k hm hml ha hk
 have e1:=l_sUp6 (O:=den T A) (v:=v) (w:=w) (z:=pad []) hpw hm hml k a hk ha
 refine ask_of hT rfl ?_
 generalize pad (row (frIt m k a))=R at *
 generalize pad (row a)=Pa at *
 generalize pad (row m)=Pm at *
 simp -implicitDefEqProofs [Z4j,Z4j_B,e1,List.replicate]
def K_drField (O:Oracle):Prop:=∀(p:Int) [IsP p] (m:Fp p) (v w:List Int),m.len≤64→ask O Fb [drD p (pad (row m)) v w]=some (fldD m)
theorem k_drField (hT:T Fb=some Zb) (hfo:K_fieldOf (den T A)):K_drField (den T A):=by
 intro p ip m v w hml
 have e1:=hfo p m hml
 refine ask_of hT rfl ?_
 generalize pad (row m)=Pm at *
 simp -implicitDefEqProofs [Zb,Zb_B,e1,List.replicate]
end Pe

namespace Pe
open Go Gq
variable {T:Nat→Option Fn} {A:Oracle}
section
variable {p:Int} [IsP p]
theorem one_ne_quo {m:Fp p} (h2:2≤m.len):(1:Quo m)≠0:=fun h=>by
 have:Dv m 1:=dv_iff_mk.2 h
 have:=this.len Pol.one_ne
 rw [Pol.len_one] at this
 omega
theorem pw_res {m c:Fp p} (hm:Fld m) (hc:c≠0) (hcl:c.len<m.len) (k:Nat):pw c k%m≠0∧(pw c k%m).len<m.len:=by
 have h0:m≠0:=hm.mon.2
 refine ⟨fun h=>?_,Pol.len_mod _ h0⟩
 have h1:Quo.mk m (pw c k)=0:=by rw [←Pol.mk_mod,h]; rfl
 rw [Quo.mk_pow] at h1
 have h2:=invm_ok hm hc hcl
 have h3:pw (Quo.mk m (invm m c)*Quo.mk m c) k=0:=by rw [pw_mul,h1,Gq.mul_zero]
 rw [h2,pw_one] at h3
 exact one_ne_quo hm.two h3
end
end Pe



namespace Pe
open Go Gq
variable {T:Nat→Option Fn} {A:Oracle}
end Pe


namespace Pe
open Go Gq
variable {T:Nat→Option Fn} {A:Oracle}
end Pe

namespace Pe
open Go Gq
variable {T:Nat→Option Fn} {A:Oracle}
noncomputable abbrev skD {p:Int} (a:List (Fp p)):D:=.sl .leaf (a.map fun c=>(D.sl .leaf (ints .i64 (row c))))
section
variable {p:Int} [IsP p]
noncomputable def svI (m x:Fp p):Nat→List (Fp p)→Fp p→Fp p
 | _,[],out=>out
 | i,c::cs,out=>svI m x (i+1) cs (out+c*frIt m (i%(m.len-1)) x%m)
theorem svI_len {m x:Fp p} (hm:m≠0):∀(i:Nat) (a:List (Fp p)) (out:Fp p),out.len<m.len→(svI m x i a out).len<m.len
 | _,[],_,h=>h
 | i,c::cs,out,h=>svI_len hm (i+1) cs _ (by
  have h1:=Pol.len_mod (c*frIt m (i%(m.len-1)) x) hm
  have:=Pol.len_add_le (a:=out) (b:=c*frIt m (i%(m.len-1)) x%m) (n:=m.len-1) (by omega) (by omega)
  omega)
noncomputable def sv6 (m g d x:Fp p):Fp p:=Pol.X%m*x%m+g*frIt m 1 x%m+d*frIt m 2 x%m
theorem svI_6 {m g d x:Fp p} (hm:Fld m) (hx:x.len<m.len):svI m x 0 [Pol.X%m,g,d] 0=sv6 m g d x:=by
 show 0+Pol.X%m*frIt m (0%(m.len-1)) x%m+g*frIt m (1%(m.len-1)) x%m+d*frIt m (2%(m.len-1)) x%m=_
 rw [frIt_mod hm 0 hx,frIt_mod hm 1 hx,frIt_mod hm 2 hx,Gq.zero_add]
 rfl
theorem sv6_len {m g d x:Fp p} (hm:m≠0):(sv6 m g d x).len<m.len:=by
 have h1:=Pol.len_mod (Pol.X%m*x) hm
 have h2:=Pol.len_mod (g*frIt m 1 x) hm
 have h3:=Pol.len_mod (d*frIt m 2 x) hm
 have h4:=Pol.len_add_le (a:=Pol.X%m*x%m) (b:=g*frIt m 1 x%m) (n:=m.len-1) (by omega) (by omega)
 have h5:=Pol.len_add_le (a:=Pol.X%m*x%m+g*frIt m 1 x%m) (b:=d*frIt m 2 x%m) (n:=m.len-1) h4 (by omega)
 unfold sv6
 omega
noncomputable def dvL (m g d:Fp p):List (Zp p)→Fp p→Fp p→Fp p
 | [],out,_=>out
 | c::cs,out,now=>dvL m g d cs (out+Pol.C c*now) (sv6 m g d now)
theorem dvL_len {m g d:Fp p} (hm:m≠0):∀(cs:List (Zp p)) (out now:Fp p),out.len<m.len→now.len<m.len→(dvL m g d cs out now).len<m.len
 | [],_,_,h,_=>h
 | c::cs,out,now,h,h2=>dvL_len hm cs _ _ (by
  have:=Pol.len_add_le (a:=out) (b:=Pol.C c*now) (n:=m.len-1) (by omega) (Nat.le_trans (Pol.len_le (Pol.lt_Cmul _ now.lt_len)) (by omega))
  omega) (sv6_len hm)
end
section
variable {p:Int}
noncomputable def tlC (a:Fp p) (i:Nat):List (Zp p):=(List.range' i (a.len-i)).map a.c
theorem tlC_end (a:Fp p):tlC a a.len=[]:=by unfold tlC; rw [Nat.sub_self]; rfl
theorem tlC_cons (a:Fp p) {i:Nat} (h:i<a.len):tlC a i=a.c i::tlC a (i+1):=by
 unfold tlC
 rw [show a.len-i=(a.len-(i+1))+1 by omega,List.range'_succ,List.map_cons]
end
theorem l_value {O:Oracle} (hfr:K_frob O) (hpr:K_product O) (hco:K_combine2 O) {p:Int} [IsP p] {m x:Fp p} {a:List (Fp p)} (h2:2≤m.len) (hml:m.len≤64) (hx:x.len≤1000) (ha:a.length<100000) (hal:∀c∈a,c.len≤1000):∀(k i:Nat) (out:Fp p),i+k=a.length→out.len≤64 →
 dn O 0 (.loop Z14_L0) ⟨[(2,(.d (.sl .leaf (ints .i64 (row x))))),(3,.ptr 0 []),(7,(.d (.sl .leaf (ints .i64 (row out))))),(10,.d (skD a)),(11,(.d (.int .i64 a.length))),(12,(.d (.int .i64 i)))],[.box false (fldD m)]⟩ =
  some (.exit 0,⟨[(2,(.d (.sl .leaf (ints .i64 (row x))))),(3,.ptr 0 []),(7,(.d (.sl .leaf (ints .i64 (row (svI m x i (a.drop i) out)))))),(10,.d (skD a)),(11,(.d (.int .i64 a.length))),(12,(.d (.int .i64 a.length))),(13,(.d (.bool false)))],[.box false (fldD m)]⟩)
 | 0,i,out,hi,ho=>by
  obtain rfl:i=a.length:=by omega
  rw [List.drop_length]
  show _=some (_,(⟨[_,_,(7,(.d (.sl .leaf (ints .i64 (row out))))),_,_,_,_],_⟩:St))
  exact dn_stop (by simp -implicitDefEqProofs [Z14_L0,dn_cond])
 | k+1,i,out,hi,ho=>by
  have hm:m≠0:=fun h=>by rw [h,Pol.len_zero] at h2; omega
  have hlt:i<a.length:=by omega
  have hci:=hal _ (List.getElem_mem hlt)
  have w4:IntKind.i64.wrap ((i:Int)+1)=((i+1:Nat):Int):=(w64 (x:=(i:Int)+1) (by omega)).trans (by omega)
  have e1:=hfr p m x i h2 hml hx (by omega)
  have hfl:(frIt m (i%(m.len-1)) x).len≤1000:=by
   by_cases hz:i%(m.len-1)=0
   ·rw [hz]; exact hx
   ·obtain ⟨j,hj⟩:=Nat.exists_eq_succ_of_ne_zero hz
    rw [hj]
    have:=frIt_len hm j (pw x p.toNat%m) (Pol.len_mod _ hm)
    show (frIt m j (pw x p.toNat%m)).len≤1000
    omega
  have e2:=hpr p m a[i] (frIt m (i%(m.len-1)) x) hm hml hci hfl
  have hl:=Pol.len_mod (a[i]*frIt m (i%(m.len-1)) x) hm
  have e3:=hco p out (a[i]*frIt m (i%(m.len-1)) x%m) (by omega) (by omega)
  have hl2:=Pol.len_add_le (a:=out) (b:=a[i]*frIt m (i%(m.len-1)) x%m) (n:=64) ho (by omega)
  have ih:=l_value hfr hpr hco h2 hml hx ha hal k (i+1) (out+a[i]*frIt m (i%(m.len-1)) x%m) (by omega) hl2
  have hsv:svI m x i (a.drop i) out=svI m x (i+1) (a.drop (i+1)) (out+a[i]*frIt m (i%(m.len-1)) x%m):=by
   rw [List.drop_eq_getElem_cons hlt]; rfl
  rw [hsv]
  refine dn_round ?_ ih
  generalize row (out+a[i]*frIt m (i%(m.len-1)) x%m)=R1 at *
  generalize row (a[i]*frIt m (i%(m.len-1)) x%m)=R2 at *
  generalize row (frIt m (i%(m.len-1)) x)=R3 at *
  simp -implicitDefEqProofs [Z14_L0,dn_cond,hlt,e1,e2,e3,w4]
def K_value (O:Oracle):Prop:=∀(p:Int) [IsP p] (m x:Fp p) (a:List (Fp p)),2≤m.len→m.len≤64→x.len≤1000→a.length<100000→(∀c∈a,c.len≤1000)→ask O F14 [fldD m,skD a,(D.sl .leaf (ints .i64 (row x)))]=some (D.sl .leaf (ints .i64 (row (svI m x 0 a 0))))
theorem k_value (hT:T F14=some Z14) (hfr:K_frob (den T A)) (hpr:K_product (den T A)) (hco:K_combine2 (den T A)):K_value (den T A):=by
 intro p ip m x a h2 hml hx ha hal
 have e:=l_value (O:=den T A) hfr hpr hco h2 hml hx ha hal a.length 0 0 (Nat.zero_add _) (by rw [Pol.len_zero]; omega)
 have e00:((0:Nat):Int)=0:=rfl
 rw [e00,row_zero,ints_nil,List.drop_zero] at e
 refine ask_of hT rfl ?_
 generalize row (svI m x 0 a 0)=R at *
 simp -implicitDefEqProofs [Z14,Z14_B,e]
def K_letterAction (O:Oracle):Prop:=∀(p:Int) [IsP p] (m g d:Fp p),m≠0→m.len≤64→g.len≤64→d.len≤64→ask O Fe [drD p (pad (row m)) (pad (row g)) (pad (row d))]=some (skD [Pol.X%m,g,d])
theorem k_letterAction (hT:T Fe=some Ze) (hfi:K_drField (den T A)) (hle:C_letter (den T A)) (hr:K_rest (den T A)) (hro:K_rowOf (den T A)):K_letterAction (den T A):=by
 intro p ip m g d hm hml hg hd
 have e1:=hfi p m (pad (row g)) (pad (row d)) hml
 have e2:=hle
 unfold C_letter at e2
 have e3:=hr p Pol.X m hm (by rw [Pol.len_X]; omega) (by omega)
 rw [row_X] at e3
 have e4:=hro p g hg
 have e5:=hro p d hd
 have e9:skD [Pol.X%m,g,d]=.sl .leaf [(D.sl .leaf (ints .i64 (row (Pol.X%m)))),(D.sl .leaf (ints .i64 (row g))),(D.sl .leaf (ints .i64 (row d)))]:=rfl
 rw [e9]
 refine ask_of hT rfl ?_
 generalize row (Pol.X%m)=R1 at *
 generalize pad (row m)=Pm at *
 generalize pad (row g)=Pg at *
 generalize pad (row d)=Pd at *
 simp -implicitDefEqProofs [Ze,Ze_B,e1,e2,e3,e4,e5,List.replicate]
theorem l_drVal {O:Oracle} (hva:K_value O) (hco:K_combine O) {p:Int} [IsP p] {m g d a:Fp p} {z:List Int} (hm:Fld m) (hg:g.len<m.len) (hd:d.len<m.len) (hal:a.len≤64):∀(k i:Nat) (out now:Fp p),i+k=a.len→out.len<m.len→now.len<m.len→∃now':List Int,
 dn O 0 (.loop Z9_L0) ⟨[(6,.ptr 3 []),(9,.ptr 5 []),(10,.d (skD [Pol.X%m,g,d])),(11,(.d (.sl .leaf (ints .i64 (row now))))),(12,(.d (.sl .leaf (ints .i64 (row out))))),(36,(.d (.sl .leaf (ints .i64 (row a))))),(37,(.d (.int .i64 a.len))),(38,(.d (.int .i64 i)))],[.hole,.hole,.hole,.box false (D.arr 64 .leaf (ints .u8 z)),.hole,.box false (fldD m)]⟩ =
  some (.exit 0,⟨[(6,.ptr 3 []),(9,.ptr 5 []),(10,.d (skD [Pol.X%m,g,d])),(11,(.d (.sl .leaf (ints .i64 now')))),(12,(.d (.sl .leaf (ints .i64 (row (dvL m g d (tlC a i) out now)))))),(36,(.d (.sl .leaf (ints .i64 (row a))))),(37,(.d (.int .i64 a.len))),(38,(.d (.int .i64 a.len))),(39,(.d (.bool false)))],[.hole,.hole,.hole,.box false (D.arr 64 .leaf (ints .u8 z)),.hole,.box false (fldD m)]⟩)
 | 0,i,out,now,hi,ho,hn=>by
  obtain rfl:i=a.len:=by omega
  rw [tlC_end]
  refine ⟨row now,?_⟩
  show _=some (_,(⟨[_,_,_,_,(12,(.d (.sl .leaf (ints .i64 (row out))))),_,_,_,_],_⟩:St))
  exact dn_stop (by simp -implicitDefEqProofs [Z9_L0,dn_cond])
 | k+1,i,out,now,hi,ho,hn=>by
  have hp:=IsP.pos (p:=p)
  have hp7:=IsP.le (p:=p)
  have h0:m≠0:=hm.mon.2
  have h5:=hm.five
  have h2:=hm.two
  have hlt:i<a.len:=by omega
  have hlt2:i<(row a).length:=by rw [row_length]; omega
  have hx:(row a)[i]=rep (a.c i):=by rw [←cf_lt hlt2,row_cf]
  have hr:=rep_in (a.c i)
  have w4:IntKind.i64.wrap ((i:Int)+1)=((i+1:Nat):Int):=(w64 (x:=(i:Int)+1) (by omega)).trans (by omega)
  have e1:=hco p (rep (a.c i)) out now (by omega) (by omega) (by omega) (by omega)
  rw [zp_rep] at e1
  have hXl:=Pol.len_mod (Pol.X:Fp p) h0
  have e2:=hva p m now [Pol.X%m,g,d] h2 (by omega) (by omega) (by simp) (by
   intro c hc
   simp at hc
   rcases hc with rfl | rfl | rfl <;> omega)
  rw [svI_6 hm hn] at e2
  have hl:=Pol.len_add_le (a:=out) (b:=Pol.C (a.c i)*now) (n:=m.len-1) (by omega) (Nat.le_trans (Pol.len_le (Pol.lt_Cmul _ now.lt_len)) (by omega))
  obtain ⟨now',ih⟩:=l_drVal hva hco (z:=z) hm hg hd hal k (i+1) (out+Pol.C (a.c i)*now) (sv6 m g d now) (by omega) (by omega) (sv6_len h0)
  rw [tlC_cons a hlt]
  refine ⟨now',dn_round ?_ ih⟩
  generalize row (out+Pol.C (a.c i)*now)=R1 at *
  generalize row (sv6 m g d now)=R2 at *
  generalize row (Pol.X%m)=R3 at *
  simp -implicitDefEqProofs [Z9_L0,dn_cond,hlt,hx,e1,e2,w4]
noncomputable def drVal {p:Int} [IsP p] (m g d a x:Fp p):Fp p:=dvL m g d (tlC a 0) 0 (x%m)
open Classical in
noncomputable def drValD (n:Int) (u v w a x:List Int):D:=
 if h:IsDr n u v w∧isPl n a=true∧isPl n x=true then
  haveI:IsP n:=h.1.choose
  .tup [(D.arr 64 .leaf (ints .u8 (pad (row (drVal (polOf n u) (polOf n v) (polOf n w) (polOf n a) (polOf n x)))))),(D.int .i64 0)]
 else .tup [(D.arr 64 .leaf (ints .u8 (pad []))),(D.int .i64 1)]
theorem drValD_bad {n:Int} {u v w a x:List Int} (h:¬ (IsDr n u v w∧isPl n a=true∧isPl n x=true)):drValD n u v w a x=.tup [(D.arr 64 .leaf (ints .u8 (pad []))),(D.int .i64 1)]:=by
 unfold drValD
 rw [dif_neg h]
theorem drValD_good {p:Int} [IsP p] {m g d a x:Fp p} (h:IsDr p (pad (row m)) (pad (row g)) (pad (row d))) (hm:m.len≤64) (hg:g.len≤64) (hd:d.len≤64) (ha:a.len≤64) (hx:x.len≤64) :
 drValD p (pad (row m)) (pad (row g)) (pad (row d)) (pad (row a)) (pad (row x))=.tup [(D.arr 64 .leaf (ints .u8 (pad (row (drVal m g d a x))))),(D.int .i64 0)]:=by
 unfold drValD
 rw [dif_pos ⟨h,isPl_row,isPl_row⟩,polOf_pad hm,polOf_pad hg,polOf_pad hd,polOf_pad ha,polOf_pad hx]
theorem codeDr_one2 {n:Int} {u v w a x:List Int} (h:¬ (IsDr n u v w∧isPl n a=true∧isPl n x=true)):codeDr n u v w [a,x]=1:=by
 unfold codeDr
 rw [if_neg]
 rintro ⟨h1,h2⟩
 simp at h2
 exact h ⟨h1,h2⟩
theorem codeDr_zero2 {n:Int} {u v w a x:List Int} (h1:IsDr n u v w) (h2:isPl n a=true) (h3:isPl n x=true):codeDr n u v w [a,x]=0:=by
 unfold codeDr
 rw [if_pos ⟨h1,by simp [h2,h3]⟩]
theorem drVal_len {p:Int} [IsP p] {m g d a x:Fp p} (hm:m≠0):(drVal m g d a x).len<m.len:=
 dvL_len hm _ _ _ (by rw [Pol.len_zero]; exact Pol.len_pos hm) (Pol.len_mod _ hm)
def K_DrVal (O:Oracle) (F:Nat):Prop:=∀(n:Int) (u v w a x:List Int),Bytes u→u.length=64→Bytes v→v.length=64→Bytes w→w.length=64→Bytes a→a.length=64→Bytes x→x.length=64→ask O F [drD n u v w,(D.arr 64 .leaf (ints .u8 a)),(D.arr 64 .leaf (ints .u8 x))]=some (drValD n u v w a x)
theorem k_DrVal (hT:T F9=some Z9) (hcd:C_drCode (den T A) Fv) (hfi:K_drField (den T A)) (hla:K_letterAction (den T A)) (hro:K_rowOf (den T A)) (hr:K_rest (den T A)) (hva:K_value (den T A)) (hco:K_combine (den T A)) (hto:C_told (den T A)):K_DrVal (den T A) F9:=by
 intro n u v w a x bu gu bv gv bw gw ba ga bx gx
 have e1:=hcd n u v w [a,x] bu gu bv gv bw gw (by intro y hy; simp at hy; rcases hy with rfl | rfl <;> exact ⟨by assumption,by assumption⟩) (by simp)
 rw [show List.map arr8 [a,x]=[(D.arr 64 .leaf (ints .u8 a)),(D.arr 64 .leaf (ints .u8 x))] from rfl] at e1
 refine ask_of hT rfl ?_
 by_cases h:IsDr n u v w∧isPl n a=true∧isPl n x=true
 ·obtain ⟨h1,h2,h3⟩:=h
  rw [codeDr_zero2 h1 h2 h3] at e1
  have h1':=h1
  obtain ⟨ip,m,g,d,rfl,rfl,rfl,hm,hg,hd,hd0⟩:=h1
  obtain ⟨b,hbl,rfl⟩:=row_of_isPl ba ga h2
  obtain ⟨y,hyl,rfl⟩:=row_of_isPl bx gx h3
  have h5:=hm.five
  have h0:m≠0:=hm.mon.2
  rw [drValD_good h1' (by omega) (by omega) (by omega) hbl hyl]
  have e2:=hfi n m (pad (row g)) (pad (row d)) (by omega)
  have e3:=hla n m g d h0 (by omega) (by omega) (by omega)
  have e4:=hro n y hyl
  have e5:=hr n y m h0 (by omega) (by omega)
  have e6:=hro n b hbl
  obtain ⟨now',e7⟩:=l_drVal (O:=den T A) (z:=pad []) hva hco hm hg hd hbl b.len 0 0 (y%m) (Nat.zero_add _) (by rw [Pol.len_zero]; exact Pol.len_pos h0) (Pol.len_mod _ h0)
  have e00:((0:Nat):Int)=0:=rfl
  have e01:dvL m g d (tlC b 0) 0 (y%m)=drVal m g d b y:=rfl
  rw [e00,e01,row_zero,ints_nil] at e7
  have hvl:=drVal_len (g:=g) (d:=d) (a:=b) (x:=y) h0
  have e8:=hto (row (drVal m g d b y)) (row_bytes _) (by rw [row_length]; omega)
  unfold toldD at e8
  rw [if_pos (by rw [row_length]; omega)] at e8
  generalize row (drVal m g d b y)=R1 at *
  generalize row (y%m)=R2 at *
  generalize row (Pol.X%m)=R3 at *
  generalize pad (row m)=Pm at *
  generalize pad (row g)=Pg at *
  generalize pad (row d)=Pd at *
  generalize pad (row b)=Pb at *
  generalize pad (row y)=Py at *
  simp -implicitDefEqProofs [Z9,Z9_B,dn_cond,e1,e2,e3,e4,e5,e6,e7,e8,List.replicate]
 ·rw [codeDr_one2 h] at e1
  rw [drValD_bad h]
  simp -implicitDefEqProofs [Z9,Z9_B,dn_cond,e1,List.replicate]
end Pe


namespace Pe
open Go Gq
variable {T:Nat→Option Fn} {A:Oracle}
end Pe

namespace Pe
open Go Gq
variable {T:Nat→Option Fn} {A:Oracle}
end Pe

namespace Pe
open Go Gq
variable {T:Nat→Option Fn} {A:Oracle}
section
variable {p:Int}
open Classical in
noncomputable def stl (S:List (Fp p)):Nat→Nat
 | 0=>0
 | n+1=>if S[n]? = some 0 then stl S n else n+1
noncomputable def trimS (S:List (Fp p)):List (Fp p):=S.take (stl S S.length)
theorem stl_le (S:List (Fp p)):∀n,stl S n≤n
 | 0=>Nat.le_refl 0
 | n+1=>by
  unfold stl
  split
  ·have:=stl_le S n; omega
  ·omega
theorem stl_zero (S:List (Fp p)):∀n j,stl S n≤j→j<n→S[j]? = some 0
 | 0,j,_,h=>by omega
 | n+1,j,h1,h2=>by
  unfold stl at h1
  split at h1
  ·rename_i h0
   by_cases hj:j=n
   ·rw [hj]; exact h0
   ·exact stl_zero S n j h1 (by omega)
  ·omega
end
section
variable {p:Int} [IsP p]
theorem svI_zeros {m x:Fp p} (hm:m≠0):∀(i:Nat) (S:List (Fp p)) (out:Fp p),(∀a∈S,a=0)→svI m x i S out=out
 | _,[],_,_=>rfl
 | i,c::cs,out,h=>by
  have hc:=h c (by simp)
  subst hc
  show svI m x (i+1) cs (out+0*frIt m (i%(m.len-1)) x%m)=out
  rw [Gq.zero_mul,Pol.zero_mod hm,Gq.add_zero]
  exact svI_zeros hm (i+1) cs out fun a ha=>h a (by simp [ha])
theorem svI_append {m x:Fp p}:∀(i:Nat) (S R:List (Fp p)) (out:Fp p),svI m x i (S++R) out=svI m x (i+S.length) R (svI m x i S out)
 | _,[],_,_=>rfl
 | i,c::cs,R,out=>by
  show svI m x (i+1) (cs++R) _=svI m x (i+(cs.length+1)) R (svI m x (i+1) cs _)
  rw [svI_append (i+1) cs R,show i+(cs.length+1)=i+1+cs.length by omega]
theorem svI_trim {m x:Fp p} (hm:m≠0) (S:List (Fp p)):svI m x 0 (trimS S) 0=svI m x 0 S 0:=by
 have e:=svI_append (m:=m) (x:=x) 0 (S.take (stl S S.length)) (S.drop (stl S S.length)) 0
 rw [List.take_append_drop] at e
 have hz:∀a∈S.drop (stl S S.length),a=0:=by
  intro a ha
  obtain ⟨j,hj,rfl⟩:=List.getElem_of_mem ha
  rw [List.length_drop] at hj
  have:=stl_zero S S.length (stl S S.length+j) (by omega) (by omega)
  rw [List.getElem_drop]
  rw [List.getElem?_eq_getElem (by omega)] at this
  exact Option.some.inj this
 rw [e,svI_zeros hm _ _ _ hz]
 rfl
end
theorem l_sktrim {O:Oracle} {p:Int} [IsP p] {S:List (Fp p)} (hS:S.length<100000):∀n:Nat,n≤S.length →
 dn O 0 (.loop Z23_L0) ⟨[(0,.d (skD S)),(3,(.d (.int .i64 n)))],[]⟩=some (.exit 0,⟨[(0,.d (skD S)),(3,(.d (.int .i64 (stl S n)))),(16,(.d (.bool false)))],[]⟩)
 | 0,_=>dn_stop (by simp -implicitDefEqProofs [Z23_L0,dn_cond,stl])
 | n+1,hn=>by
  have hlt:n<S.length:=by omega
  have w1:IntKind.i64.wrap (((n+1:Nat):Int)-1)=(n:Int):=(w64 (x:=((n+1:Nat):Int)-1) (by omega)).trans (by omega)
  have h0:(0:Int)<((n+1:Nat):Int):=by omega
  unfold stl
  by_cases hz:S[n]? = some 0
  ·rw [if_pos hz]
   rw [List.getElem?_eq_getElem hlt] at hz
   have hz':S[n]=0:=Option.some.inj hz
   have hlen:(S[n]).len=0:=by rw [hz',Pol.len_zero]
   refine dn_round ?_ (l_sktrim hS n (by omega))
   generalize ((n+1:Nat):Int)=n1 at *
   simp -implicitDefEqProofs [Z23_L0,dn_cond,hlt,w1,h0,hlen]
  ·rw [if_neg hz]
   rw [List.getElem?_eq_getElem hlt] at hz
   have hlen:(S[n]).len≠0:=fun h=>hz (by rw [Pol.len_zero_iff.1 h])
   refine dn_stop ?_
   generalize ((n+1:Nat):Int)=n1 at *
   simp -implicitDefEqProofs [Z23_L0,dn_cond,hlt,w1,h0,hlen]
def K_sktrim (O:Oracle):Prop:=∀(p:Int) [IsP p] (S:List (Fp p)),S.length<100000→ask O F23 [skD S]=some (skD (trimS S))
theorem k_sktrim (hT:T F23=some Z23):K_sktrim (den T A):=by
 intro p ip S hS
 have e:=l_sktrim (O:=den T A) hS S.length (Nat.le_refl _)
 have hle:=stl_le S S.length
 have hL:(S.map fun c=>(D.sl .leaf (ints .i64 (row c)))).length=S.length:=List.length_map ..
 have e9:skD (trimS S)=.sl .leaf ((S.map fun c=>(D.sl .leaf (ints .i64 (row c)))).take (stl S S.length)):=by unfold trimS; rw [←List.map_take]
 have e8:skD S=.sl .leaf (S.map fun c=>(D.sl .leaf (ints .i64 (row c)))):=rfl
 rw [e9]
 rw [e8] at e ⊢
 refine ask_of hT rfl ?_
 generalize stl S S.length=n at *
 generalize (S.map fun c=>(D.sl .leaf (ints .i64 (row c))))=LD at *
 generalize S.length=sl at *
 subst hL
 simp -implicitDefEqProofs [Z23,Z23_B,e,hle]
noncomputable abbrev skP {p:Int} (S:List (Fp p)):List (List Int):=S.map fun a=>pad (row a)
end Pe

namespace Pe
open Go Gq
variable {T:Nat→Option Fn} {A:Oracle}
end Pe

namespace Pe
open Go Gq
variable {T:Nat→Option Fn} {A:Oracle}
section
variable {p:Int}
noncomputable def addAt (Q:List (Fp p)) (n:Nat) (v:Fp p):List (Fp p):=Q.set n ((Q[n]?).getD 0+v)
theorem addAt_length (Q:List (Fp p)) (n:Nat) (v:Fp p):(addAt Q n v).length=Q.length:=by unfold addAt; rw [List.length_set]
end
section
variable {p:Int} [IsP p]
noncomputable def byIn (m x:Fp p) (i:Nat):Nat→List (Fp p)→List (Fp p)→List (Fp p)
 | _,[],Q=>Q
 | k,y::ys,Q=>byIn m x i (k+1) ys (addAt Q (i+k) (x*frIt m (i%(m.len-1)) y%m))
noncomputable def byOut (m:Fp p) (b:List (Fp p)):Nat→List (Fp p)→List (Fp p)→List (Fp p)
 | _,[],Q=>Q
 | i,x::xs,Q=>byOut m b (i+1) xs (byIn m x i 0 b Q)
theorem byIn_length (m x:Fp p) (i:Nat):∀(k:Nat) (b Q:List (Fp p)),(byIn m x i k b Q).length=Q.length
 | _,[],_=>rfl
 | k,y::ys,Q=>by
  show (byIn m x i (k+1) ys (addAt Q (i+k) _)).length=_
  rw [byIn_length,addAt_length]
theorem byOut_length (m:Fp p) (b:List (Fp p)):∀(i:Nat) (a Q:List (Fp p)),(byOut m b i a Q).length=Q.length
 | _,[],_=>rfl
 | i,x::xs,Q=>by
  show (byOut m b (i+1) xs (byIn m x i 0 b Q)).length=_
  rw [byOut_length,byIn_length]
end
end Pe

namespace Pe
open Go Gq
variable {T:Nat→Option Fn} {A:Oracle}
theorem frIt_1000 {p:Int} [IsP p] {m y:Fp p} (hm:m≠0) (hml:m.len≤64) (hy:y.len≤64) (k:Nat):(frIt m k y).len≤64:=by
 cases k with
 | zero=>exact hy
 | succ k=>
  have:=frIt_len hm k (pw y p.toNat%m) (Pol.len_mod _ hm)
  show (frIt m k (pw y p.toNat%m)).len≤64
  omega
theorem l_by0 {O:Oracle} (hfr:K_frob O) (hpr:K_product O) (hco:K_combine2 O) {p:Int} [IsP p] {m x:Fp p} {a b:List (Fp p)} (h2:2≤m.len) (hml:m.len≤64) (hx:x.len≤64) (hb:∀c∈b,c.len≤64) {N i:Nat} (hN:N<100000) (hi:i+b.length≤N) {cp:Option Nat}:∀(r k:Nat) (Q:List (Fp p)),k+r=b.length→Q.length=N→(∀c∈Q,c.len≤64) →
 (∀c∈byIn m x i k (b.drop k) Q,c.len≤64) ∧
 dn O 0 (.loop Zy_L0) ⟨[(2,.d (skD b)),(3,.ptr 0 []),(7,.sl 1 [] 0 N cp),(8,(.d (.int .i64 i))),(9,(.d (.sl .leaf (ints .i64 (row x))))),(27,.d (skD a)),(28,(.d (.int .i64 a.length))),(29,(.d (.int .i64 i))),(34,.d (skD b)),(35,(.d (.int .i64 b.length))),(36,(.d (.int .i64 k)))],[.box false (fldD m),.sl false .leaf (Q.map fun c=>(D.sl .leaf (ints .i64 (row c))))]⟩ =
  some (.exit 2,⟨[(2,.d (skD b)),(3,.ptr 0 []),(7,.sl 1 [] 0 N cp),(8,(.d (.int .i64 i))),(9,(.d (.sl .leaf (ints .i64 (row x))))),(27,.d (skD a)),(28,(.d (.int .i64 a.length))),(29,(.d (.int .i64 i))),(34,.d (skD b)),(35,(.d (.int .i64 b.length))),(36,(.d (.int .i64 b.length))),(37,(.d (.bool false)))],[.box false (fldD m),.sl false .leaf ((byIn m x i k (b.drop k) Q).map fun c=>(D.sl .leaf (ints .i64 (row c))))]⟩)
 | 0,k,Q,hk,hq,hQ=>by
  obtain rfl:k=b.length:=by omega
  rw [List.drop_length]
  refine ⟨hQ,dn_stop ?_⟩
  show _=some (_,(⟨_,[_,.sl false .leaf (Q.map fun c=>(D.sl .leaf (ints .i64 (row c))))]⟩:St))
  generalize (Q.map fun c=>(D.sl .leaf (ints .i64 (row c))))=LQ at *
  simp -implicitDefEqProofs [Zy_L0,dn_cond]
 | r+1,k,Q,hk,hq,hQ=>by
  have hm:m≠0:=fun h=>by rw [h,Pol.len_zero] at h2; omega
  have hlt:k<b.length:=by omega
  have hm1:=List.getElem_mem hlt
  have hbk:=hb _ hm1
  have hik:i+k<N:=by omega
  have hikQ:i+k<Q.length:=by omega
  have hq1:=hQ _ (List.getElem_mem hikQ)
  have w0:IntKind.i64.wrap ((i:Int)+k)=((i+k:Nat):Int):=(w64 (x:=(i:Int)+k) (by omega)).trans (by omega)
  have hs0:(0:Int)≤(i:Int)+k:=by omega
  have hs1:((i:Int)+k).toNat=i+k:=by omega
  have w4:IntKind.i64.wrap ((k:Int)+1)=((k+1:Nat):Int):=(w64 (x:=(k:Int)+1) (by omega)).trans (by omega)
  have e1:=hfr p m b[k] i h2 hml (by omega) (by omega)
  have hfl:=frIt_1000 hm hml hbk (i%(m.len-1))
  have e2:=hpr p m x (frIt m (i%(m.len-1)) b[k]) hm hml (by omega) (by omega)
  have hl:=Pol.len_mod (x*frIt m (i%(m.len-1)) b[k]) hm
  have e3:=hco p Q[i+k] (x*frIt m (i%(m.len-1)) b[k]%m) (by omega) (by omega)
  have hl2:=Pol.len_add_le (a:=Q[i+k]) (b:=x*frIt m (i%(m.len-1)) b[k]%m) (n:=64) hq1 (by omega)
  have hadd:addAt Q (i+k) (x*frIt m (i%(m.len-1)) b[k]%m)=Q.set (i+k) (Q[i+k]+x*frIt m (i%(m.len-1)) b[k]%m):=by
   unfold addAt; rw [List.getElem?_eq_getElem hikQ]; rfl
  have hQ':∀c∈addAt Q (i+k) (x*frIt m (i%(m.len-1)) b[k]%m),c.len≤64:=fun c hc=>by
   rw [hadd] at hc
   rcases List.mem_or_eq_of_mem_set hc with h | rfl
   ·exact hQ c h
   ·exact hl2
  obtain ⟨g1,ih⟩:=l_by0 hfr hpr hco (a:=a) h2 hml hx hb hN hi (cp:=cp) r (k+1) (addAt Q (i+k) (x*frIt m (i%(m.len-1)) b[k]%m)) (by omega) (by rw [addAt_length]; exact hq) hQ'
  have hby:byIn m x i k (b.drop k) Q=byIn m x i (k+1) (b.drop (k+1)) (addAt Q (i+k) (x*frIt m (i%(m.len-1)) b[k]%m)):=by
   rw [List.drop_eq_getElem_cons hlt]; rfl
  rw [hby]
  refine ⟨g1,dn_round ?_ ih⟩
  have hset:((addAt Q (i+k) (x*frIt m (i%(m.len-1)) b[k]%m)).map fun c=>(D.sl .leaf (ints .i64 (row c))))=(Q.map fun c=>(D.sl .leaf (ints .i64 (row c)))).set (i+k) (D.sl .leaf (ints .i64 (row (Q[i+k]+x*frIt m (i%(m.len-1)) b[k]%m)))):=by
   rw [hadd,List.map_set]
  rw [hset]
  have hLQ:(Q.map fun c=>(D.sl .leaf (ints .i64 (row c)))).length=N:=by rw [List.length_map]; exact hq
  have hx2:∀h:i+k<(Q.map fun c=>(D.sl .leaf (ints .i64 (row c)))).length,(Q.map fun c=>(D.sl .leaf (ints .i64 (row c))))[i+k]'h=(D.sl .leaf (ints .i64 (row Q[i+k]))):=fun h=>by rw [List.getElem_map]
  generalize row (Q[i+k]+x*frIt m (i%(m.len-1)) b[k]%m)=R1 at *
  generalize row (x*frIt m (i%(m.len-1)) b[k]%m)=R2 at *
  generalize row (frIt m (i%(m.len-1)) b[k])=R3 at *
  generalize row Q[i+k]=R4 at *
  generalize (Q.map fun c=>(D.sl .leaf (ints .i64 (row c))))=LQ at *
  simp -implicitDefEqProofs [Zy_L0,dn_cond,hlt,hik,hs0,hs1,hLQ,hx2,e1,e2,e3,w0,w4]
theorem l_by1 {O:Oracle} (hfr:K_frob O) (hpr:K_product O) (hco:K_combine2 O) {p:Int} [IsP p] {m:Fp p} {a b:List (Fp p)} (h2:2≤m.len) (hml:m.len≤64) (ha:∀c∈a,c.len≤64) (hb:∀c∈b,c.len≤64) {N:Nat} (hN:N<100000) (hab:a.length+b.length≤N+1) (hb1:1≤b.length) {cp:Option Nat}:∀(r i:Nat) (Q:List (Fp p)),i+r=a.length→Q.length=N→(∀c∈Q,c.len≤64) →
 (∀c∈byOut m b i (a.drop i) Q,c.len≤64) ∧
 dn O 0 (.loop Zy_L1) ⟨[(2,.d (skD b)),(3,.ptr 0 []),(7,.sl 1 [] 0 N cp),(27,.d (skD a)),(28,(.d (.int .i64 a.length))),(29,(.d (.int .i64 i)))],[.box false (fldD m),.sl false .leaf (Q.map fun c=>(D.sl .leaf (ints .i64 (row c))))]⟩ =
  some (.exit 0,⟨[(2,.d (skD b)),(3,.ptr 0 []),(7,.sl 1 [] 0 N cp),(27,.d (skD a)),(28,(.d (.int .i64 a.length))),(29,(.d (.int .i64 a.length))),(30,(.d (.bool false)))],[.box false (fldD m),.sl false .leaf ((byOut m b i (a.drop i) Q).map fun c=>(D.sl .leaf (ints .i64 (row c))))]⟩)
 | 0,i,Q,hi,hq,hQ=>by
  obtain rfl:i=a.length:=by omega
  rw [List.drop_length]
  refine ⟨hQ,dn_stop ?_⟩
  show _=some (_,(⟨_,[_,.sl false .leaf (Q.map fun c=>(D.sl .leaf (ints .i64 (row c))))]⟩:St))
  generalize (Q.map fun c=>(D.sl .leaf (ints .i64 (row c))))=LQ at *
  simp -implicitDefEqProofs [Zy_L1,dn_cond]
 | r+1,i,Q,hi,hq,hQ=>by
  have hlt:i<a.length:=by omega
  have hm1:=List.getElem_mem hlt
  have w4:IntKind.i64.wrap ((i:Int)+1)=((i+1:Nat):Int):=(w64 (x:=(i:Int)+1) (by omega)).trans (by omega)
  obtain ⟨g1,e1⟩:=l_by0 hfr hpr hco (a:=a) h2 hml (ha _ hm1) hb hN (i:=i) (by omega) (cp:=cp) b.length 0 Q (Nat.zero_add _) hq hQ
  have e00:((0:Nat):Int)=0:=rfl
  rw [e00,List.drop_zero] at e1
  rw [List.drop_zero] at g1
  obtain ⟨g2,ih⟩:=l_by1 hfr hpr hco h2 hml ha hb hN hab hb1 (cp:=cp) r (i+1) (byIn m a[i] i 0 b Q) (by omega) (by rw [byIn_length]; exact hq) g1
  have hby:byOut m b i (a.drop i) Q=byOut m b (i+1) (a.drop (i+1)) (byIn m a[i] i 0 b Q):=by
   rw [List.drop_eq_getElem_cons hlt]; rfl
  rw [hby]
  refine ⟨g2,dn_round ?_ ih⟩
  generalize ((byIn m a[i] i 0 b Q).map fun c=>(D.sl .leaf (ints .i64 (row c))))=LQ2 at *
  generalize (Q.map fun c=>(D.sl .leaf (ints .i64 (row c))))=LQ at *
  simp -implicitDefEqProofs [Zy_L1,dn_cond,hlt,e1,w4]
noncomputable def mulS {p:Int} [IsP p] (m:Fp p) (a b:List (Fp p)):List (Fp p):=byOut m b 0 a (List.replicate (a.length+b.length-1) 0)
def K_by (O:Oracle):Prop:=∀(p:Int) [IsP p] (m:Fp p) (a b:List (Fp p)),2≤m.len→m.len≤64→(∀c∈a,c.len≤64)→(∀c∈b,c.len≤64)→a.length<10000→b.length<10000 →
 ask O Fy [fldD m,skD a,skD b]=some (if a.length=0∨b.length=0 then skD ([]:List (Fp p)) else skD (trimS (mulS m a b)))
theorem k_by (hT:T Fy=some Zy) (hfr:K_frob (den T A)) (hpr:K_product (den T A)) (hco:K_combine2 (den T A)) (htr:K_sktrim (den T A)):K_by (den T A):=by
 intro p ip m a b h2 hml ha hb hal hbl
 have hsa:skD a=.sl .leaf (a.map fun c=>(D.sl .leaf (ints .i64 (row c)))):=rfl
 have hsb:skD b=.sl .leaf (b.map fun c=>(D.sl .leaf (ints .i64 (row c)))):=rfl
 have hLa:(a.map fun c=>(D.sl .leaf (ints .i64 (row c)))).length=a.length:=List.length_map ..
 have hLb:(b.map fun c=>(D.sl .leaf (ints .i64 (row c)))).length=b.length:=List.length_map ..
 by_cases h0:a.length=0∨b.length=0
 ·rw [if_pos h0,hsa,hsb]
  refine ask_of hT rfl ?_
  generalize (a.map fun c=>(D.sl .leaf (ints .i64 (row c))))=LA at *
  generalize (b.map fun c=>(D.sl .leaf (ints .i64 (row c))))=LB at *
  rcases h0 with h0 | h0
  ·rw [h0] at hLa
   simp -implicitDefEqProofs [Zy,Zy_B,dn_cond,hLa,List.replicate]
  ·rw [h0] at hLb
   by_cases h1:LA.length=0
   ·simp -implicitDefEqProofs [Zy,Zy_B,dn_cond,h1,List.replicate]
   ·simp -implicitDefEqProofs [Zy,Zy_B,dn_cond,h1,hLb,List.replicate]
 ·rw [if_neg h0]
  have ha1:1≤a.length:=by omega
  have hb1:1≤b.length:=by omega
  have hz:((List.replicate (a.length+b.length-1) (0:Fp p)).map fun c=>(D.sl .leaf (ints .i64 (row c))))=List.replicate (a.length+b.length-1) (.sl .leaf []):=by rw [List.map_replicate,row_zero,ints_nil]
  have hl0:∀c∈List.replicate (a.length+b.length-1) (0:Fp p),c.len≤64:=fun c hc=>by rw [List.eq_of_mem_replicate hc,Pol.len_zero]; omega
  obtain ⟨g1,e1⟩:=l_by1 (O:=den T A) hfr hpr hco h2 hml ha hb (N:=a.length+b.length-1) (by omega) (by omega) hb1 (cp:=some (a.length+b.length-1)) a.length 0 (List.replicate (a.length+b.length-1) 0) (Nat.zero_add _) (List.length_replicate ..) hl0
  have e00:((0:Nat):Int)=0:=rfl
  have em:byOut m b 0 (a.drop 0) (List.replicate (a.length+b.length-1) 0)=mulS m a b:=by rw [List.drop_zero]; rfl
  rw [e00,em,hz] at e1
  have hml2:(mulS m a b).length=a.length+b.length-1:=by unfold mulS; rw [byOut_length,List.length_replicate]
  have e2:=htr p (mulS m a b) (by omega)
  have hsm:skD (mulS m a b)=.sl .leaf ((mulS m a b).map fun c=>(D.sl .leaf (ints .i64 (row c)))):=rfl
  have hLm:((mulS m a b).map fun c=>(D.sl .leaf (ints .i64 (row c)))).length=a.length+b.length-1:=by rw [List.length_map]; exact hml2
  have ht:((mulS m a b).map fun c=>(D.sl .leaf (ints .i64 (row c)))).take (a.length+b.length-1)=((mulS m a b).map fun c=>(D.sl .leaf (ints .i64 (row c)))):=List.take_of_length_le (by omega)
  rw [hsm] at e2
  have n1:¬ ((a.length:Int)=0):=by omega
  have n2:¬ ((b.length:Int)=0):=by omega
  have n1':a.length≠0:=by omega
  have n2':b.length≠0:=by omega
  have w1:IntKind.i64.wrap ((a.length:Int)+b.length)=(a.length:Int)+b.length:=w64 (by omega)
  have w2:IntKind.i64.wrap ((a.length:Int)+b.length-1)=((a.length+b.length-1:Nat):Int):=(w64 (by omega)).trans (by omega)
  have h24:(a.length+b.length-1)*24≤1099511627776:=by omega
  generalize skD (trimS (mulS m a b))=TD at *
  rw [hsa,hsb] at e1 ⊢
  refine ask_of hT rfl ?_
  generalize ((mulS m a b).map fun c=>(D.sl .leaf (ints .i64 (row c))))=LM at *
  generalize (a.map fun c=>(D.sl .leaf (ints .i64 (row c))))=LA at *
  generalize (b.map fun c=>(D.sl .leaf (ints .i64 (row c))))=LB at *
  generalize a.length+b.length-1=N at *
  simp -implicitDefEqProofs [Zy,Zy_B,dn_cond,hLa,hLb,n1',n2',w1,w2,h24,e1,e2,hLm,ht,List.replicate]
end Pe

namespace Pe
open Go Gq
variable {T:Nat→Option Fn} {A:Oracle}
end Pe

namespace Pe
open Go Gq
variable {T:Nat→Option Fn} {A:Oracle}
section
variable {p:Int}
theorem addAt_get_ne {Q:List (Fp p)} {n j:Nat} {v:Fp p} (h:n≠j):(addAt Q n v)[j]? = Q[j]?:=by
 unfold addAt; rw [List.getElem?_set_ne h]
end
section
variable {p:Int} [IsP p]
theorem byIn_get_ge {m x:Fp p} {i n:Nat}:∀(k:Nat) (b Q:List (Fp p)),i+k+b.length≤n→(byIn m x i k b Q)[n]? = Q[n]?
 | _,[],_,_=>rfl
 | k,y::ys,Q,h=>by
  rw [List.length_cons] at h
  show (byIn m x i (k+1) ys (addAt Q (i+k) _))[n]? = _
  rw [byIn_get_ge (k+1) ys _ (by omega),addAt_get_ne (by omega)]
theorem byOut_get_ge {m:Fp p} {b:List (Fp p)} {n:Nat}:∀(i:Nat) (a Q:List (Fp p)),i+a.length+b.length≤n+1→(byOut m b i a Q)[n]? = Q[n]?
 | _,[],_,_=>rfl
 | i,x::xs,Q,h=>by
  rw [List.length_cons] at h
  show (byOut m b (i+1) xs (byIn m x i 0 b Q))[n]? = _
  rw [byOut_get_ge (i+1) xs _ (by omega),byIn_get_ge 0 b Q (by omega)]
theorem byIn_snoc {m x y:Fp p} {i:Nat}:∀(k:Nat) (b Q:List (Fp p)),byIn m x i k (b++[y]) Q=addAt (byIn m x i k b Q) (i+(k+b.length)) (x*frIt m (i%(m.len-1)) y%m)
 | _,[],_=>rfl
 | k,z::zs,Q=>by
  show byIn m x i (k+1) (zs++[y]) (addAt Q (i+k) _)=addAt (byIn m x i (k+1) zs (addAt Q (i+k) _)) _ _
  rw [byIn_snoc (k+1) zs,List.length_cons,show i+(k+1+zs.length)=i+(k+(zs.length+1)) by omega]
theorem byOut_snoc {m x:Fp p} {b:List (Fp p)}:∀(i:Nat) (a Q:List (Fp p)),byOut m b i (a++[x]) Q=byIn m x (i+a.length) 0 b (byOut m b i a Q)
 | _,[],_=>rfl
 | i,z::zs,Q=>by
  show byOut m b (i+1) (zs++[x]) (byIn m z i 0 b Q)=byIn m x _ 0 b (byOut m b (i+1) zs (byIn m z i 0 b Q))
  rw [byOut_snoc (i+1) zs,List.length_cons,show i+1+zs.length=i+(zs.length+1) by omega]
theorem mul_mod_ne {m x y:Fp p} (hi:Irr m) (hx:x≠0) (hxl:x.len<m.len) (hy:y≠0) (hyl:y.len<m.len):x*y%m≠0:=fun h=>by
 rcases hi.prime ((dv_iff_mod hi.ne).2 h) with h | h
 ·have:=Dv.len h hx; omega
 ·have:=Dv.len h hy; omega
theorem frIt_ne {m:Fp p} (hm:Fld m):∀(k:Nat) (y:Fp p),y≠0→y.len<m.len→frIt m k y≠0
 | 0,_,h,_=>h
 | k+1,y,h,hl=>by
  obtain ⟨h1,h2⟩:=pw_res hm h hl p.toNat
  exact frIt_ne hm k _ h1 h2
end
section
variable {p:Int}
theorem stl_last {S:List (Fp p)}:∀(n k:Nat),stl S n=k+1→S[k]? ≠ some 0
 | 0,k,h=>by cases h
 | n+1,k,h=>by
  unfold stl at h
  split at h
  ·exact stl_last n k h
  ·rename_i h0
   obtain rfl:n=k:=by omega
   exact h0
theorem stl_top {S:List (Fp p)} {n:Nat} (h:S[n]? ≠ some 0):stl S (n+1)=n+1:=by
 unfold stl; rw [if_neg h]
theorem trimS_form {S:List (Fp p)} (h:(trimS S).length≠0):∃a x,trimS S=a++[x]∧x≠0:=by
 have hle:=stl_le S S.length
 have hl:(trimS S).length=stl S S.length:=by unfold trimS; rw [List.length_take]; omega
 obtain ⟨k,hk⟩:∃k,stl S S.length=k+1:=⟨stl S S.length-1,by omega⟩
 have h1:=stl_last _ _ hk
 have hlt:k<S.length:=by omega
 rw [List.getElem?_eq_getElem hlt] at h1
 refine ⟨S.take k,S[k],?_,fun h=>h1 (by rw [h])⟩
 unfold trimS
 rw [hk,List.take_succ_eq_append_getElem hlt]
theorem trimS_top {S:List (Fp p)} {n:Nat} (hl:S.length=n+1) (h:S[n]? ≠ some 0):trimS S=S:=by
 unfold trimS
 rw [hl,stl_top h,←hl,List.take_length]
end
section
variable {p:Int} [IsP p]
theorem mulS_top {m x y:Fp p} (hm:Fld m) {a b:List (Fp p)} (hx:x≠0) (hxl:x.len<m.len) (hy:y≠0) (hyl:y.len<m.len):trimS (mulS m (a++[x]) (b++[y]))=mulS m (a++[x]) (b++[y]):=by
 have hl:(mulS m (a++[x]) (b++[y])).length=a.length+b.length+1:=by
  unfold mulS
  rw [byOut_length,List.length_replicate,List.length_append,List.length_append]
  simp only [List.length_cons,List.length_nil]; omega
 refine trimS_top hl ?_
 have hfy:frIt m (a.length%(m.len-1)) y≠0:=frIt_ne hm _ y hy hyl
 have hfl:=frIt_len hm.mon.2 (a.length%(m.len-1)) y hyl
 have hne:=mul_mod_ne hm.irr hx hxl hfy hfl
 unfold mulS
 rw [byOut_snoc,byIn_snoc]
 unfold addAt
 rw [byIn_get_ge _ _ _ (by omega),byOut_get_ge _ _ _ (by rw [List.length_append,List.length_cons,List.length_nil]; omega)]
 have hN:0+a.length+(0+b.length)=a.length+b.length:=by omega
 rw [hN,List.getElem?_set_self (by rw [byIn_length,byOut_length,List.length_replicate,List.length_append,List.length_append]; simp only [List.length_cons,List.length_nil]; omega)]
 rw [List.getElem?_replicate,if_pos (by rw [List.length_append,List.length_append]; simp only [List.length_cons,List.length_nil]; omega)]
 show some ((0:Fp p)+_)≠some 0
 rw [Gq.zero_add,show 0+a.length=a.length by omega]
 exact fun h=>hne (Option.some.inj h)
noncomputable def prodS (m:Fp p) (a b:List (Fp p)):List (Fp p):=if a.length=0∨b.length=0 then [] else trimS (mulS m a b)
end
end Pe

namespace Pe
open Go Gq
variable {T:Nat→Option Fn} {A:Oracle}
section
variable {p:Int} [IsP p]
theorem addAt_lens {N n:Nat} {Q:List (Fp p)} {v:Fp p} (hQ:∀c∈Q,c.len≤N) (hv:v.len≤N):∀c∈addAt Q n v,c.len≤N:=fun c hc=>by
 unfold addAt at hc
 rcases List.mem_or_eq_of_mem_set hc with h | rfl
 ·exact hQ c h
 ·refine Pol.len_add_le ?_ hv
  cases he:Q[n]? with
  | none=>show (0:Fp p).len≤N; rw [Pol.len_zero]; omega
  | some w=>exact hQ w (List.mem_of_getElem? he)
end
end Pe



namespace Pe
open Go Gq
variable {T:Nat→Option Fn} {A:Oracle}
abbrev z6:List Int:=List.replicate 6 0
section
variable {p:Int} [IsP p]
noncomputable def mono (p:Int) (i:Nat):Fp p:=numP p (p^i)
end
end Pe

namespace Pe
open Go Gq
variable {T:Nat→Option Fn} {A:Oracle}
section
variable {O:Oracle} {g:Nat} {first caps:List D}
structure CmpRow (O:Oracle) (g:Nat) (first caps:List D) (f:D→Int) (s:Sh) (cs:List D):Prop where
 nf:noTup first
 nc:noTup caps
 nx:noTup cs
 sh:AllSh s cs
 ask:∀x∈cs,∀y∈cs,∃v:Int,ask O g (first++[x,y]++caps)=some (D.int .i64 v)∧(v<0↔f x<f y)
theorem CmpRow.perm {f:D→Int} {s:Sh} {cs ds:List D} (h:CmpRow O g first caps f s cs) (p:ds.Perm cs):CmpRow O g first caps f s ds:=
 ⟨h.nf,h.nc,fun x hx=>h.nx x (p.subset hx),fun x hx=>h.sh x (p.subset hx),fun x hx y hy=>h.ask x (p.subset hx) y (p.subset hy)⟩
theorem CmpRow.call {f:D→Int} {s:Sh} {cs:List D} (h:CmpRow O g first caps f s cs) {hp:Heap} {np:Nat} {news:List Nat} {x y:D} (hx:x∈cs) (hy:y∈cs) :
 ∃v:Int,kCall O np hp .flat news (g,first.map .d,caps.map .d) [.d x,.d y]=some (.d (D.int .i64 v),hp)∧(v<0↔f x<f y):=by
 have e:toDs hp (first.map .d++[.d x,.d y]++caps.map .d)=some (first++[x,y]++caps):=
  toDs_app hp (toDs_app hp (toDs_map hp h.nf) (toDs_map hp (ds:=[x,y]) (by intro z hz; simp at hz; rcases hz with rfl | rfl; exact h.nx _ hx; exact h.nx _ hy))) (toDs_map hp h.nc)
 obtain ⟨v,e1,e2⟩:=h.ask x hx y hy
 refine ⟨v,?_,e2⟩
 rw [kCall_flat,e,Option.bind_some,kAsk_ask,e1,Option.bind_some,kAns_flat,show (D.int IntKind.i64 v).flat=true from rfl,if_pos rfl]
end
end Pe

namespace Pe
open Go Gq
variable {T:Nat→Option Fn} {A:Oracle}
section
variable {p:Int}
noncomputable def elim (a b:Fp p):Fp p:=b+Pol.C (-(b.c (a.len-1)))*a
noncomputable def redS:List (Fp p)→Fp p→Fp p
 | [],a=>a
 | b::bs,a=>redS bs (elim b a)
noncomputable def insS (a:Fp p):List (Fp p)→List (Fp p)
 | []=>[a]
 | b::bs=>if b.len<a.len then a::(b::bs).map (elim a) else elim a b::insS a bs
theorem insS_perm (a:Fp p):∀L:List (Fp p),(insS a L).Perm (L.map (elim a)++[a])
 | []=>.refl _
 | b::bs=>by
  unfold insS
  split
  ·exact (List.perm_append_singleton a ((b::bs).map (elim a))).symm
  ·exact (insS_perm a bs).cons _
theorem c_ge {a:Fp p} {n:Nat} (h:a.len≤n):a.c n=0:=a.lt_len n h
theorem elim_c (a b:Fp p) (n:Nat):(elim a b).c n=b.c n + -(b.c (a.len-1))*a.c n:=by
 unfold elim; rw [Pol.c_add,Pol.c_Cmul]
theorem insS_mem {a c:Fp p}:∀{L:List (Fp p)},c∈insS a L→c=a∨∃b∈L,c=elim a b:=fun {L} h=>by
 have:=(insS_perm a L).subset h
 rcases List.mem_append.1 this with h | h
 ·obtain ⟨b,hb,rfl⟩:=List.mem_map.1 h; exact .inr ⟨b,hb,rfl⟩
 ·exact .inl (by simpa using h)
noncomputable abbrev rowD (a:Fp p):D:=(D.sl .leaf (ints .i64 (row a)))
theorem redS_keep {n:Nat}:∀{L:List (Fp p)} {a:Fp p},(∀b∈L,b.len≤n)→(redS L a).c n=a.c n
 | [],_,_=>rfl
 | b::L,a,h=>by
  show (redS L (elim b a)).c n=_
  rw [redS_keep (L:=L) (fun c hc=>h c (by simp [hc])),elim_c,c_ge (a:=b) (h b (by simp)),Gq.mul_zero,Gq.add_zero]
end
section
variable {p:Int} [IsP p]
structure Desc (N:Nat) (L:List (Fp p)):Prop where
 pw:L.Pairwise fun x y=>y.len<x.len
 mon:∀b∈L,Monic b
 le:∀b∈L,b.len≤N
theorem Desc.nil (N:Nat):Desc N ([]:List (Fp p)):=⟨List.Pairwise.nil,(fun _ h=>by cases h),(fun _ h=>by cases h)⟩
theorem Desc.tail {N:Nat} {b:Fp p} {L:List (Fp p)} (h:Desc N (b::L)):Desc N L∧∀c∈L,c.len<b.len:=
 ⟨⟨h.pw.tail,fun c hc=>h.mon c (by simp [hc]),fun c hc=>h.le c (by simp [hc])⟩,(List.pairwise_cons.1 h.pw).1⟩
theorem Desc.length:∀{N:Nat} {L:List (Fp p)},Desc N L→L.length≤N
 | N,[],_=>Nat.zero_le _
 | N,b::L,h=>by
  obtain ⟨h1,h2⟩:=h.tail
  have hb:=Pol.len_pos (h.mon b (by simp)).2
  have hle:=h.le b (by simp)
  have:=Desc.length (N:=b.len-1) ⟨h1.pw,h1.mon,fun c hc=>by have:=h2 c hc; omega⟩
  rw [List.length_cons]; omega
theorem elim_le {N:Nat} {a b:Fp p} (ha:a.len≤N) (hb:b.len≤N):(elim a b).len≤N:=by
 unfold elim
 refine Pol.len_add_le hb (Pol.len_le fun i hi=>?_)
 rw [Pol.c_Cmul,c_ge (a:=a) (by omega),Gq.mul_zero]
theorem elim_at {a:Fp p} (ha:Monic a) (b:Fp p):(elim a b).c (a.len-1)=0:=by
 rw [elim_c,show a.c (a.len-1)=1 from ha.1,Gq.mul_one]
 exact Gq.add_neg _
theorem redS_le {N:Nat}:∀{L:List (Fp p)} {a:Fp p},(∀b∈L,b.len≤N)→a.len≤N→(redS L a).len≤N
 | [],_,_,ha=>ha
 | b::L,a,h,ha=>redS_le (L:=L) (fun c hc=>h c (by simp [hc])) (elim_le (h b (by simp)) ha)
theorem redS_zero {N:Nat}:∀{L:List (Fp p)} {a:Fp p},Desc N L→∀b∈L,(redS L a).c (b.len-1)=0
 | b::L,a,h,c,hc=>by
  obtain ⟨h1,h2⟩:=h.tail
  show (redS L (elim b a)).c _=0
  rcases List.mem_cons.1 hc with rfl | hc
  ·rw [redS_keep (L:=L) (fun d hd=>by have:=h2 d hd; omega),elim_at (h.mon c (by simp))]
  ·exact redS_zero h1 c hc
theorem redS_ne {N:Nat} {L:List (Fp p)} {a:Fp p} (h:Desc N L) (h0:redS L a≠0):∀b∈L,b.len≠(redS L a).len:=fun b hb e=>by
 have h1:=redS_zero (a:=a) h b hb
 rw [e] at h1
 exact Pol.ld_ne h0 h1
theorem elim_mon {a b:Fp p} (hb:Monic b) (hne:b.len≠a.len):Monic (elim a b)∧(elim a b).len=b.len:=by
 have hbp:=Pol.len_pos hb.2
 rcases Nat.lt_or_ge b.len a.len with h | h
 ·have:elim a b=b:=by
   unfold elim
   rw [c_ge (by omega),Gq.neg_zero,Pol.C_zero,Gq.zero_mul,Gq.add_zero]
  rw [this]; exact ⟨hb,rfl⟩
 ·have hc:(elim a b).c (b.len-1)=1:=by
   rw [elim_c,c_ge (a:=a) (by omega),Gq.mul_zero,Gq.add_zero]; exact hb.1
  have hl:(elim a b).len=b.len:=by
   have h1:(elim a b).len=(b.len-1)+1:=Pol.len_eq (Pol.lt_iff.2 (by
    rw [Nat.sub_add_cancel hbp]; exact elim_le h (Nat.le_refl _))) (by rw [hc]; exact Fd.one_ne)
   omega
  refine ⟨⟨by unfold Pol.ld; rw [hl]; exact hc,fun h0=>?_⟩,hl⟩
  rw [h0,Pol.len_zero] at hl
  omega
theorem insS_desc {N:Nat} {a:Fp p} (ha:Monic a) (hal:a.len≤N):∀{L:List (Fp p)},Desc N L→(∀b∈L,b.len≠a.len)→Desc N (insS a L)
 | [],_,_=>⟨List.pairwise_singleton _ _,fun b hb=>by simp [insS] at hb; rw [hb]; exact ha,fun b hb=>by simp [insS] at hb; rw [hb]; exact hal⟩
 | b::L,h,hne=>by
  obtain ⟨h1,h2⟩:=h.tail
  have hall:∀c∈b::L,Monic (elim a c)∧(elim a c).len=c.len:=fun c hc=>elim_mon (h.mon c hc) (hne c hc)
  refine ⟨?_,fun c hc=>?_,fun c hc=>?_⟩
  ·unfold insS
   split
   ·rename_i hlt
    refine List.pairwise_cons.2 ⟨fun c hc=>?_,?_⟩
    ·obtain ⟨d,hd,rfl⟩:=List.mem_map.1 hc
     rw [(hall d hd).2]
     rcases List.mem_cons.1 hd with rfl | hd
     ·exact hlt
     ·have:=h2 d hd; omega
    ·rw [List.pairwise_map]
     refine h.pw.imp_of_mem fun {x y} hx hy hxy=>?_
     rw [(hall x hx).2,(hall y hy).2]; exact hxy
   ·rename_i hge
    refine List.pairwise_cons.2 ⟨fun c hc=>?_,(insS_desc ha hal h1 fun c hc=>hne c (by simp [hc])).pw⟩
    rw [(hall b (by simp)).2]
    rcases insS_mem hc with rfl | ⟨d,hd,rfl⟩
    ·have:=hne b (by simp); omega
    ·rw [(hall d (by simp [hd])).2]; exact h2 d hd
  ·rcases insS_mem hc with rfl | ⟨d,hd,rfl⟩
   ·exact ha
   ·exact (hall d hd).1
  ·rcases insS_mem hc with rfl | ⟨d,hd,rfl⟩
   ·exact hal
   ·rw [(hall d hd).2]; exact h.le d hd
noncomputable def putS (L:List (Fp p)) (x:Fp p):List (Fp p):=by
 classical exact if redS L x=0 then L else insS (Gq.mon (redS L x)) L
theorem putS_zero {L:List (Fp p)} {x:Fp p} (h:redS L x=0):putS L x=L:=by unfold putS; rw [if_pos h]
theorem putS_ne {L:List (Fp p)} {x:Fp p} (h:redS L x≠0):putS L x=insS (Gq.mon (redS L x)) L:=by unfold putS; rw [if_neg h]
theorem putS_desc {N:Nat} {L:List (Fp p)} {x:Fp p} (h:Desc N L) (hx:x.len≤N):Desc N (putS L x):=by
 by_cases h0:redS L x=0
 ·rw [putS_zero h0]; exact h
 ·rw [putS_ne h0]
  exact insS_desc (mon_monic h0) (by rw [mon_len h0]; exact redS_le h.le hx) h fun b hb=>by rw [mon_len h0]; exact redS_ne h h0 b hb
end
section
variable {p:Int}
end
end Pe

namespace Pe
open Go Gq
variable {T:Nat→Option Fn} {A:Oracle}
section
variable {p:Int} [IsP p]
end
end Pe



namespace Pe
open Go Gq
variable {T:Nat→Option Fn} {A:Oracle}
noncomputable abbrev padD {p:Int} (a:Fp p):D:=(D.arr 64 .leaf (ints .u8 (pad (row a))))
theorem map_padD {p:Int} (xs:List (Fp p)):(skP xs).map arr8=xs.map padD:=by unfold skP; rw [List.map_map]; rfl
section
variable {p:Int} [IsP p]
theorem l_polys {O:Oracle} (hpo:K_poly O) {xs:List (Fp p)} (hl:xs.length<2000000) (hx:∀x∈xs,x.len≤64):∀(r i:Nat) (cp:Option Nat),i+r=xs.length→∃cp':Option Nat,
 dn O 0 (.loop Z1a_L0) ⟨[(3,.sl 0 [] 0 i cp),(6,.d (.sl .leaf (xs.map rowD))),(7,(.d (.int .i64 xs.length))),(8,(.d (.int .i64 i)))],[.sl false (.arr 64 .leaf) ((xs.take i).map padD),.hole,.hole]⟩ =
  some (.exit 0,⟨[(3,.sl 0 [] 0 xs.length cp'),(6,.d (.sl .leaf (xs.map rowD))),(7,(.d (.int .i64 xs.length))),(8,(.d (.int .i64 xs.length))),(9,(.d (.bool false)))],[.sl false (.arr 64 .leaf) (xs.map padD),.hole,.hole]⟩)
 | 0,i,cp,hi=>by
  obtain rfl:i=xs.length:=by omega
  rw [List.take_length]
  refine ⟨cp,dn_stop ?_⟩
  generalize xs.map padD=XD at *
  generalize xs.map rowD=RD at *
  simp -implicitDefEqProofs [Z1a_L0,dn_cond]
 | r+1,i,cp,hi=>by
  have hlt:i<xs.length:=by omega
  have hm:=List.getElem_mem hlt
  have e1:=hpo p xs[i] (hx _ hm)
  have hXD:(xs.map rowD).length=xs.length:=List.length_map ..
  have hxi:∀h:i<(xs.map rowD).length,(xs.map rowD)[i]'h=(D.sl .leaf (ints .i64 (row xs[i]))):=fun h=>by rw [List.getElem_map]
  have w4:IntKind.i64.wrap ((i:Int)+1)=((i+1:Nat):Int):=(w64 (x:=(i:Int)+1) (by omega)).trans (by omega)
  have h24:(i+1)*64≤1099511627776:=by omega
  have htk:(xs.take (i+1)).map padD=(xs.take i).map padD++[(D.arr 64 .leaf (ints .u8 (pad (row xs[i]))))]:=by rw [List.take_succ_eq_append_getElem hlt,List.map_append]; rfl
  have hL:((xs.take i).map padD).length=i:=by rw [List.length_map,List.length_take]; omega
  have htt:((xs.take i).map padD).take i=(xs.take i).map padD:=List.take_of_length_le (by omega)
  obtain ⟨cp',ih⟩:=l_polys hpo hl hx r (i+1) none (by omega)
  refine ⟨cp',dn_round ?_ ih⟩
  rw [htk]
  generalize pad (row xs[i])=Pi at *
  generalize row xs[i]=Ri at *
  generalize (xs.take i).map padD=TD at *
  generalize xs.map rowD=XD at *
  simp -implicitDefEqProofs [Z1a_L0,dn_cond,hlt,hXD,hxi,e1,h24,hL,htt,w4,List.replicate]
def K_polys (O:Oracle):Prop:=∀(p:Int) [IsP p] (xs:List (Fp p)),xs.length<2000000→(∀x∈xs,x.len≤64)→ask O F1a [.sl .leaf (xs.map rowD)]=some (.sl (.arr 64 .leaf) (xs.map padD))
end
theorem k_polys (hT:T F1a=some Z1a) (hpo:K_poly (den T A)):K_polys (den T A):=by
 intro p ip xs hl hx
 obtain ⟨cp,e⟩:=l_polys (O:=den T A) hpo hl hx xs.length 0 (some 0) (Nat.zero_add _)
 have e00:((0:Nat):Int)=0:=rfl
 rw [e00,List.take_zero,List.map_nil] at e
 have h1:(xs.map padD).length=xs.length:=List.length_map ..
 have h2:(xs.map rowD).length=xs.length:=List.length_map ..
 have htk:(xs.map padD).take xs.length=xs.map padD:=List.take_of_length_le (by omega)
 refine ask_of hT rfl ?_
 generalize xs.map padD=XD at *
 generalize xs.map rowD=RD at *
 simp -implicitDefEqProofs [Z1a,Z1a_B,h1,h2,htk,e]
end Pe


namespace Pe
open Go Gq
variable {T:Nat→Option Fn} {A:Oracle}
section
variable {p:Int}
end
section
variable {p:Int} [IsP p]
end
end Pe


namespace Pe
open Go Gq
variable {T:Nat→Option Fn} {A:Oracle}
end Pe

namespace Pe
open Go Gq
variable {T:Nat→Option Fn} {A:Oracle}
end Pe


namespace Pe
open Go Gq
variable {T:Nat→Option Fn} {A:Oracle}
section
variable {p:Int} [IsP p]
end
end Pe


namespace Pe
open Go Gq
variable {T:Nat→Option Fn} {A:Oracle}
abbrev Dr4:=Int×List Int×List Int×List Int
abbrev drE (q:Dr4):D:=.st [.leaf,.arr 64 .leaf,.arr 64 .leaf,.arr 64 .leaf] [(D.int .i64 q.1),(D.arr 64 .leaf (ints .u8 q.2.1)),(D.arr 64 .leaf (ints .u8 q.2.2.1)),(D.arr 64 .leaf (ints .u8 q.2.2.2))]
abbrev dqSh:Sh:=.st [.leaf,.arr 64 .leaf,.arr 64 .leaf,.arr 64 .leaf]
section
variable {p:Int} [IsP p]
noncomputable def mkq (p:Int) (l:List Int) (g d:Nat):Dr4:=(p,l,pad (row (numP p g)),pad (row (numP p d)))
noncomputable def inQ (p:Int) (l:List Int) (g:Nat):Nat→Nat→List Dr4
 | _,0=>[]
 | d,r+1=>mkq p l g d::inQ p l g (d+1) r
noncomputable def outQ (p:Int) (l:List Int) (n:Nat):Nat→Nat→List Dr4
 | _,0=>[]
 | g,r+1=>inQ p l g 1 (n-1)++outQ p l n (g+1) r
theorem inQ_length (p:Int) (l:List Int) (g:Nat):∀r d:Nat,(inQ p l g d r).length=r
 | 0,_=>rfl
 | r+1,d=>by rw [inQ,List.length_cons,inQ_length p l g r]
theorem outQ_length (p:Int) (l:List Int) (n:Nat):∀r g:Nat,(outQ p l n g r).length=r*(n-1)
 | 0,_=>by rw [outQ,Nat.zero_mul]; rfl
 | r+1,g=>by rw [outQ,List.length_append,inQ_length,outQ_length p l n r,Nat.succ_mul]; omega
theorem inQ_sh {p:Int} [IsP p] {l:List Int} (hl:l.length=64) {g:Nat}:∀r d:Nat,∀q∈inQ p l g d r,q.2.1.length=64∧q.2.2.1.length=64∧q.2.2.2.length=64
 | 0,_,q,h=>by cases h
 | r+1,d,q,h=>by
  rcases List.mem_cons.1 h with rfl | h
  ·exact ⟨hl,pad_length _,pad_length _⟩
  ·exact inQ_sh hl r (d+1) q h
theorem outQ_sh {p:Int} [IsP p] {l:List Int} (hl:l.length=64) {n:Nat}:∀r g:Nat,∀q∈outQ p l n g r,q.2.1.length=64∧q.2.2.1.length=64∧q.2.2.2.length=64
 | 0,_,q,h=>by cases h
 | r+1,g,q,h=>by
  rcases List.mem_append.1 h with h | h
  ·exact inQ_sh hl _ _ q h
  ·exact outQ_sh hl r (g+1) q h
theorem numP_of {O:Oracle} (hnu:K_numbered O) (hpo:K_poly O) {g:Nat} (hg:g<1000):ask O F1m [(D.int .i64 p),(D.int .i64 g)]=some (D.sl .leaf (ints .i64 (row (numP p g))))∧ask O F1z [(D.sl .leaf (ints .i64 (row (numP p g))))]=some (D.arr 64 .leaf (ints .u8 (pad (row (numP p g))))):=
 ⟨hnu p g (by omega) (by omega),hpo p (numP p g) (numP_len _)⟩
theorem l_all0 {O:Oracle} (hnu:K_numbered O) (hpo:K_poly O) {m:Fp p} {n g:Nat} (hn:n≤16) (hg:g<n):∀(r d:Nat) (Q:List Dr4) (cp:Option Nat),d+r=n→Q.length+r≤1000→∃cp':Option Nat,
 dn O 0 (.loop Zo_L0) ⟨[(0,(.d (.int .i64 p))),(3,.ptr 0 []),(5,.ptr 1 []),(6,(.d (.int .i64 n))),(7,.sl 2 [] 0 Q.length cp),(8,(.d (.int .i64 g))),(9,(.d (.int .i64 d))),(19,(.d (.int .i64 n))),(20,(.d (.int .i64 g)))],[.box false (D.arr 64 .leaf (ints .u8 (pad (row m)))),.box false (fldD m),.sl false dqSh (Q.map drE),.hole,.hole]⟩ =
  some (.exit 2,⟨[(0,(.d (.int .i64 p))),(3,.ptr 0 []),(5,.ptr 1 []),(6,(.d (.int .i64 n))),(7,.sl 2 [] 0 (Q.length+r) cp'),(8,(.d (.int .i64 g))),(9,(.d (.int .i64 n))),(19,(.d (.int .i64 n))),(20,(.d (.int .i64 g))),(25,(.d (.bool false)))],[.box false (D.arr 64 .leaf (ints .u8 (pad (row m)))),.box false (fldD m),.sl false dqSh ((Q++inQ p (pad (row m)) g d r).map drE),.hole,.hole]⟩)
 | 0,d,Q,cp,hd,hq=>by
  obtain rfl:d=n:=by omega
  refine ⟨cp,dn_stop ?_⟩
  rw [inQ,List.append_nil,Nat.add_zero]
  generalize Q.map drE=QD at *
  generalize pad (row m)=Pm at *
  simp -implicitDefEqProofs [Zo_L0,dn_cond]
 | r+1,d,Q,cp,hd,hq=>by
  have hlt:d<n:=by omega
  obtain ⟨e1,e2⟩:=numP_of (p:=p) hnu hpo (show g<1000 by omega)
  obtain ⟨e3,e4⟩:=numP_of (p:=p) hnu hpo (show d<1000 by omega)
  have w4:IntKind.i64.wrap ((d:Int)+1)=((d+1:Nat):Int):=(w64 (x:=(d:Int)+1) (by omega)).trans (by omega)
  have hQD:(Q.map drE).length=Q.length:=List.length_map ..
  have htq:(Q.map drE).take Q.length=Q.map drE:=List.take_of_length_le (by omega)
  have h200:(Q.length+1)*200≤1099511627776:=by omega
  obtain ⟨cp',ih⟩:=l_all0 hnu hpo (m:=m) hn hg r (d+1) (Q++[mkq p (pad (row m)) g d]) none (by omega) (by rw [List.length_append,List.length_singleton]; omega)
  rw [List.length_append,List.length_singleton,show Q.length+1+r=Q.length+(r+1) by omega,show Q++[mkq p (pad (row m)) g d]++inQ p (pad (row m)) g (d+1) r=Q++inQ p (pad (row m)) g d (r+1) by rw [List.append_assoc]; rfl] at ih
  refine ⟨cp',dn_round ?_ ih⟩
  rw [show (Q++[mkq p (pad (row m)) g d]).map drE=Q.map drE++[drD p (pad (row m)) (pad (row (numP p g))) (pad (row (numP p d)))] by rw [List.map_append]; rfl]
  have hfd:fldD m=.st [.leaf,.leaf] [(D.int .i64 p),(D.sl .leaf (ints .i64 (row m)))]:=rfl
  rw [hfd]
  generalize pad (row (numP p g))=P1 at *
  generalize pad (row (numP p d))=P2 at *
  generalize row (numP p g)=R1 at *
  generalize row (numP p d)=R2 at *
  generalize Q.map drE=QD at *
  generalize pad (row m)=Pm at *
  generalize row m=Rm at *
  generalize Q.length=ql at *
  simp -implicitDefEqProofs [Zo_L0,dn_cond,hlt,e1,e2,e3,e4,hQD,htq,h200,w4,List.replicate]
theorem l_all1 {O:Oracle} (hnu:K_numbered O) (hpo:K_poly O) {m:Fp p} {n:Nat} (hn:n≤16) (hn1:1≤n):∀(r g:Nat) (Q:List Dr4) (cp:Option Nat),g+r=n→Q.length≤g*16→∃(cp':Option Nat) (k:Nat),
 dn O 0 (.loop Zo_L1) ⟨[(0,(.d (.int .i64 p))),(3,.ptr 0 []),(5,.ptr 1 []),(6,(.d (.int .i64 n))),(7,.sl 2 [] 0 Q.length cp),(19,(.d (.int .i64 n))),(20,(.d (.int .i64 g)))],[.box false (D.arr 64 .leaf (ints .u8 (pad (row m)))),.box false (fldD m),.sl false dqSh (Q.map drE),.hole,.hole]⟩ =
  some (.exit 0,⟨[(0,(.d (.int .i64 p))),(3,.ptr 0 []),(5,.ptr 1 []),(6,(.d (.int .i64 n))),(7,.sl 2 [] 0 k cp'),(19,(.d (.int .i64 n))),(20,(.d (.int .i64 n))),(21,(.d (.bool false)))],[.box false (D.arr 64 .leaf (ints .u8 (pad (row m)))),.box false (fldD m),.sl false dqSh ((Q++outQ p (pad (row m)) n g r).map drE),.hole,.hole]⟩)∧k=(Q++outQ p (pad (row m)) n g r).length
 | 0,g,Q,cp,hg,hq=>by
  obtain rfl:g=n:=by omega
  refine ⟨cp,Q.length,dn_stop ?_,by rw [outQ,List.append_nil]⟩
  rw [outQ,List.append_nil]
  generalize Q.map drE=QD at *
  generalize pad (row m)=Pm at *
  simp -implicitDefEqProofs [Zo_L1,dn_cond]
 | r+1,g,Q,cp,hg,hq=>by
  have hlt:g<n:=by omega
  have w4:IntKind.i64.wrap ((g:Int)+1)=((g+1:Nat):Int):=(w64 (x:=(g:Int)+1) (by omega)).trans (by omega)
  obtain ⟨c1,e⟩:=l_all0 (O:=O) hnu hpo (m:=m) hn hlt (n-1) 1 Q cp (by omega) (by omega)
  have e01:((1:Nat):Int)=1:=rfl
  rw [e01] at e
  have hlen:(Q++inQ p (pad (row m)) g 1 (n-1)).length=Q.length+(n-1):=by rw [List.length_append,inQ_length]
  obtain ⟨c2,k,ih,hk⟩:=l_all1 hnu hpo (m:=m) hn hn1 r (g+1) (Q++inQ p (pad (row m)) g 1 (n-1)) c1 (by omega) (by rw [hlen]; omega)
  rw [hlen,List.append_assoc,show inQ p (pad (row m)) g 1 (n-1)++outQ p (pad (row m)) n (g+1) r=outQ p (pad (row m)) n g (r+1) from rfl] at ih
  rw [List.append_assoc,show inQ p (pad (row m)) g 1 (n-1)++outQ p (pad (row m)) n (g+1) r=outQ p (pad (row m)) n g (r+1) from rfl] at hk
  refine ⟨c2,k,dn_round ?_ ih,hk⟩
  generalize (Q++inQ p (pad (row m)) g 1 (n-1)).map drE=Q2 at *
  generalize Q.map drE=QD at *
  generalize pad (row m)=Pm at *
  generalize Q.length+(n-1)=ql2 at *
  simp -implicitDefEqProofs [Zo_L1,dn_cond,hlt,e,w4]
theorem l_sAll0 {O:Oracle} (hof:K_sOf O) {m:Fp p} {n g:Nat} (hn:n≤16) (hg:g<n):∀(r d:Nat) (Q:List Dr4) (cp:Option Nat),d+r=n→Q.length+r≤1000→∃cp':Option Nat,
 dn O 0 (.loop Z45_L0) ⟨[(0,(.d (.int .i64 p))),(3,.ptr 0 []),(5,.sl 1 [] 0 Q.length cp),(6,(.d (.int .i64 n))),(7,(.d (.int .i64 g))),(8,(.d (.int .i64 d)))],[.box false (D.arr 64 .leaf (ints .u8 (pad (row m)))),.sl false dqSh (Q.map drE),.hole,.hole]⟩ =
  some (.exit 2,⟨[(0,(.d (.int .i64 p))),(3,.ptr 0 []),(5,.sl 1 [] 0 (Q.length+r) cp'),(6,(.d (.int .i64 n))),(7,(.d (.int .i64 g))),(8,(.d (.int .i64 n))),(21,(.d (.bool false)))],[.box false (D.arr 64 .leaf (ints .u8 (pad (row m)))),.sl false dqSh ((Q++inQ p (pad (row m)) g d r).map drE),.hole,.hole]⟩)
 | 0,d,Q,cp,hd,hq=>by
  obtain rfl:d=n:=by omega
  refine ⟨cp,dn_stop ?_⟩
  rw [inQ,List.append_nil,Nat.add_zero]
  generalize Q.map drE=QD at *
  generalize pad (row m)=Pm at *
  simp -implicitDefEqProofs [Z45_L0,dn_cond]
 | r+1,d,Q,cp,hd,hq=>by
  have hlt:d<n:=by omega
  have e1:=hof p g (by omega) (by omega)
  have e2:=hof p d (by omega) (by omega)
  have w4:IntKind.i64.wrap ((d:Int)+1)=((d+1:Nat):Int):=(w64 (x:=(d:Int)+1) (by omega)).trans (by omega)
  have hQD:(Q.map drE).length=Q.length:=List.length_map ..
  have htq:(Q.map drE).take Q.length=Q.map drE:=List.take_of_length_le (by omega)
  have h200:(Q.length+1)*200≤1099511627776:=by omega
  obtain ⟨cp',ih⟩:=l_sAll0 hof (m:=m) hn hg r (d+1) (Q++[mkq p (pad (row m)) g d]) none (by omega) (by rw [List.length_append,List.length_singleton]; omega)
  rw [List.length_append,List.length_singleton,show Q.length+1+r=Q.length+(r+1) by omega,show Q++[mkq p (pad (row m)) g d]++inQ p (pad (row m)) g (d+1) r=Q++inQ p (pad (row m)) g d (r+1) by rw [List.append_assoc]; rfl] at ih
  refine ⟨cp',dn_round ?_ ih⟩
  rw [show (Q++[mkq p (pad (row m)) g d]).map drE=Q.map drE++[drD p (pad (row m)) (pad (row (numP p g))) (pad (row (numP p d)))] by rw [List.map_append]; rfl]
  generalize pad (row (numP p g))=P1 at *
  generalize pad (row (numP p d))=P2 at *
  generalize Q.map drE=QD at *
  generalize pad (row m)=Pm at *
  generalize Q.length=ql at *
  simp -implicitDefEqProofs [Z45_L0,dn_cond,hlt,e1,e2,hQD,htq,h200,w4,List.replicate]
theorem l_sAll1 {O:Oracle} (hof:K_sOf O) {m:Fp p} {n:Nat} (hn:n≤16) (hn1:1≤n):∀(r g:Nat) (Q:List Dr4) (cp:Option Nat),g+r=n→Q.length≤g*16→∃(cp':Option Nat) (k:Nat),
 dn O 0 (.loop Z45_L1) ⟨[(0,(.d (.int .i64 p))),(3,.ptr 0 []),(5,.sl 1 [] 0 Q.length cp),(6,(.d (.int .i64 n))),(7,(.d (.int .i64 g)))],[.box false (D.arr 64 .leaf (ints .u8 (pad (row m)))),.sl false dqSh (Q.map drE),.hole,.hole]⟩ =
  some (.exit 0,⟨[(0,(.d (.int .i64 p))),(3,.ptr 0 []),(5,.sl 1 [] 0 k cp'),(6,(.d (.int .i64 n))),(7,(.d (.int .i64 n))),(16,(.d (.bool false)))],[.box false (D.arr 64 .leaf (ints .u8 (pad (row m)))),.sl false dqSh ((Q++outQ p (pad (row m)) n g r).map drE),.hole,.hole]⟩)∧k=(Q++outQ p (pad (row m)) n g r).length
 | 0,g,Q,cp,hg,hq=>by
  obtain rfl:g=n:=by omega
  refine ⟨cp,Q.length,dn_stop ?_,by rw [outQ,List.append_nil]⟩
  rw [outQ,List.append_nil]
  generalize Q.map drE=QD at *
  generalize pad (row m)=Pm at *
  simp -implicitDefEqProofs [Z45_L1,dn_cond]
 | r+1,g,Q,cp,hg,hq=>by
  have hlt:g<n:=by omega
  have w4:IntKind.i64.wrap ((g:Int)+1)=((g+1:Nat):Int):=(w64 (x:=(g:Int)+1) (by omega)).trans (by omega)
  obtain ⟨c1,e⟩:=l_sAll0 (O:=O) hof (m:=m) hn hlt (n-1) 1 Q cp (by omega) (by omega)
  have e01:((1:Nat):Int)=1:=rfl
  rw [e01] at e
  have hlen:(Q++inQ p (pad (row m)) g 1 (n-1)).length=Q.length+(n-1):=by rw [List.length_append,inQ_length]
  obtain ⟨c2,k,ih,hk⟩:=l_sAll1 hof (m:=m) hn hn1 r (g+1) (Q++inQ p (pad (row m)) g 1 (n-1)) c1 (by omega) (by rw [hlen]; omega)
  rw [hlen,List.append_assoc,show inQ p (pad (row m)) g 1 (n-1)++outQ p (pad (row m)) n (g+1) r=outQ p (pad (row m)) n g (r+1) from rfl] at ih
  rw [List.append_assoc,show inQ p (pad (row m)) g 1 (n-1)++outQ p (pad (row m)) n (g+1) r=outQ p (pad (row m)) n g (r+1) from rfl] at hk
  refine ⟨c2,k,dn_round ?_ ih,hk⟩
  generalize (Q++inQ p (pad (row m)) g 1 (n-1)).map drE=Q2 at *
  generalize Q.map drE=QD at *
  generalize pad (row m)=Pm at *
  generalize Q.length+(n-1)=ql2 at *
  simp -implicitDefEqProofs [Z45_L1,dn_cond,hlt,e,w4]
end
theorem normL_most {p:Int} [IsP p] (most:Int):∀(n:Nat) (out:Int),0<out→(normL p most n out≤most↔out*p^n≤most)
 | 0,out,h0=>by rw [Int.pow_zero,Int.mul_one]; exact Iff.rfl
 | n+1,out,h0=>by
  have hp:=IsP.pos (p:=p)
  have e:out*p^(n+1)=out*p*p^n:=by rw [Int.pow_succ,Int.mul_assoc,Int.mul_comm p]
  unfold normL
  split
  ·rename_i h
   have h1:1≤p^(n+1):=ppow_pos (n+1)
   have h2:out*1≤out*p^(n+1):=Int.mul_le_mul_of_nonneg_left h1 (by omega)
   omega
  ·rw [e]
   exact normL_most most n (out*p) (Int.mul_pos h0 hp)
def manyQ (p:Int) (d:Nat):Nat:=(p^d).toNat
noncomputable def allQ (p:Int) (l:List Int) (n:Nat):List Dr4:=outQ p l n 0 n
def K_all (O:Oracle) (F:Nat):Prop:=∀(p:Int) [IsP p] (m:Fp p),Fld m→p^(m.len-1)≤16→ask O F [(D.int .i64 p),(D.arr 64 .leaf (ints .u8 (pad (row m))))]=some (.sl dqSh ((allQ p (pad (row m)) (manyQ p (m.len-1))).map drE))
theorem k_all (hT:T Fo=some Zo) (hfo:K_fieldOf (den T A)) (hdg:C_degree (den T A)) (hno:C_norm (den T A)) (hnu:K_numbered (den T A)) (hpo:K_poly (den T A)):K_all (den T A) Fo:=by
 intro p ip m hm h16
 have h5:=hm.five
 have h2:=hm.two
 have hp1:(1:Int)≤p^(m.len-1):=ppow_pos (m.len-1)
 have e1:=hfo p m (by omega)
 have e2:=hdg (row m) (by rw [row_length]; omega)
 rw [row_length,show (m.len:Int)-1=((m.len-1:Nat):Int) by omega] at e2
 have e3:=hno p (m.len-1) 1099511627776 (by omega) (by omega)
 rw [normL_eq (m.len-1) 1 (by omega) (by omega),Int.one_mul,show p^(m.len-1)=((manyQ p (m.len-1):Nat):Int) by unfold manyQ; omega] at e3
 have hn:manyQ p (m.len-1)≤16:=by unfold manyQ; omega
 have hn1:1≤manyQ p (m.len-1):=by unfold manyQ; omega
 generalize manyQ p (m.len-1)=n at *
 obtain ⟨c,k,e4,hk⟩:=l_all1 (O:=den T A) hnu hpo (m:=m) hn hn1 n 0 [] (some 0) (Nat.zero_add _) (by simp)
 have e00:((0:Nat):Int)=0:=rfl
 rw [e00,List.map_nil,List.length_nil,List.nil_append,show outQ p (pad (row m)) n 0 n=allQ p (pad (row m)) n from rfl] at e4
 rw [List.nil_append,show outQ p (pad (row m)) n 0 n=allQ p (pad (row m)) n from rfl] at hk
 have hL:((allQ p (pad (row m)) n).map drE).length=k:=by rw [List.length_map,hk]
 have htk:((allQ p (pad (row m)) n).map drE).take k=(allQ p (pad (row m)) n).map drE:=List.take_of_length_le (by omega)
 have hfd:fldD m=.st [.leaf,.leaf] [(D.int .i64 p),(D.sl .leaf (ints .i64 (row m)))]:=rfl
 rw [hfd] at e1 e4
 refine ask_of hT rfl ?_
 generalize (allQ p (pad (row m)) n).map drE=QD at *
 generalize pad (row m)=Pm at *
 generalize row m=Rm at *
 generalize m.len-1=d at *
 simp -implicitDefEqProofs [Zo,Zo_B,e1,e2,e3,e4,hL,htk]
theorem k_sAll (hT:T F45=some Z45) (hdg:K_sDeg (den T A)) (hct:K_sCount (den T A)) (hof:K_sOf (den T A)):K_all (den T A) F45:=by
 intro p ip m hm h16
 have h5:=hm.five
 have h2:=hm.two
 have hp1:(1:Int)≤p^(m.len-1):=ppow_pos (m.len-1)
 have e2:=hdg p m (by omega)
 rw [show (m.len:Int)-1=((m.len-1:Nat):Int) by omega] at e2
 have e3:=hct p (m.len-1) (by omega)
 rw [Int.min_eq_left (by omega),show p^(m.len-1)=((manyQ p (m.len-1):Nat):Int) by unfold manyQ; omega] at e3
 have hn:manyQ p (m.len-1)≤16:=by unfold manyQ; omega
 have hn1:1≤manyQ p (m.len-1):=by unfold manyQ; omega
 generalize manyQ p (m.len-1)=n at *
 obtain ⟨c,k,e4,hk⟩:=l_sAll1 (O:=den T A) hof (m:=m) hn hn1 n 0 [] (some 0) (Nat.zero_add _) (by simp)
 have e00:((0:Nat):Int)=0:=rfl
 rw [e00,List.map_nil,List.length_nil,List.nil_append,show outQ p (pad (row m)) n 0 n=allQ p (pad (row m)) n from rfl] at e4
 rw [List.nil_append,show outQ p (pad (row m)) n 0 n=allQ p (pad (row m)) n from rfl] at hk
 have hL:((allQ p (pad (row m)) n).map drE).length=k:=by rw [List.length_map,hk]
 have htk:((allQ p (pad (row m)) n).map drE).take k=(allQ p (pad (row m)) n).map drE:=List.take_of_length_le (by omega)
 refine ask_of hT rfl ?_
 generalize (allQ p (pad (row m)) n).map drE=QD at *
 generalize pad (row m)=Pm at *
 generalize m.len-1=d at *
 simp -implicitDefEqProofs [Z45,Z45_B,e2,e3,e4,hL,htk]
end Pe

namespace Pe
open Go Gq
variable {T:Nat→Option Fn} {A:Oracle}
section
variable {α:Type}
end
def Sh4 (q:Dr4):Prop:=q.2.1.length=64∧q.2.2.1.length=64∧q.2.2.2.length=64
def AdOk (p:Int) (l:List Int):Prop:=∃(_:IsP p) (m:Fp p),l=pad (row m)∧Fld m∧p^(m.len-1)≤16
open Classical in
noncomputable def adL (p:Int) (l:List Int):List Dr4:=
 if h:AdOk p l then
  haveI:IsP p:=h.choose
  allQ p l (manyQ p ((polOf p l).len-1))
 else []
open Classical in
noncomputable def adC (p:Int) (l:List Int):Int:=if codeP p [l]≠0 then codeP p [l] else if AdOk p l then 0 else 2
theorem adL_good {p:Int} [IsP p] {m:Fp p} (h:AdOk p (pad (row m))) (hm:m.len≤64):adL p (pad (row m))=allQ p (pad (row m)) (manyQ p (m.len-1)):=by
 unfold adL; rw [dif_pos h,polOf_pad hm]
theorem adL_bad {p:Int} {l:List Int} (h:¬ AdOk p l):adL p l=[]:=by unfold adL; rw [dif_neg h]
theorem adL_ok (p:Int) (l:List Int):(∀q∈adL p l,Sh4 q)∧(adL p l).length≤1000:=by
 by_cases h:AdOk p l
 ·have h':=h
  obtain ⟨ip,m,rfl,hm,h16⟩:=h
  have h5:=hm.five
  rw [adL_good h' (by omega)]
  refine ⟨outQ_sh (pad_length _) _ _,?_⟩
  unfold allQ
  rw [outQ_length]
  have hn:manyQ p (m.len-1)≤16:=by unfold manyQ; omega
  have:=Nat.mul_le_mul hn (show manyQ p (m.len-1)-1≤16 by omega)
  omega
 ·rw [adL_bad h]; exact ⟨(fun q hq=>by cases hq),by simp⟩
theorem codeP_zero {p:Int} {l:List Int} (hb:Bytes l) (hl:l.length=64) (h:codeP p [l]=0):∃(_:IsP p) (a:Fp p),a.len≤64∧l=pad (row a):=by
 unfold codeP at h
 split at h
 ·rename_i g
  rcases arg1 p hb hl with ⟨h1,h2⟩ | ⟨ip,a,hal,e⟩
  ·have h3:=h2 g.1
   have h4:=g.2
   simp [h3] at h4
  ·exact ⟨ip,a,hal,e⟩
 ·cases h
theorem adOk_fld {p:Int} [IsP p] {a:Fp p} (ha:a.len≤64):AdOk p (pad (row a))↔Fld a∧p^(a.len-1)≤16:=by
 constructor
 ·rintro ⟨ip,m,e,hm,h⟩
  have h5:=hm.five
  obtain rfl:=(pad_row_inj ha (by omega)).1 e
  exact ⟨hm,h⟩
 ·rintro ⟨h1,h2⟩; exact ⟨_,a,rfl,h1,h2⟩
noncomputable def adD (p:Int) (l:List Int):D:=.tup [.sl dqSh ((adL p l).map drE),(D.int .i64 (adC p l))]
theorem adC_one {p:Int} {l:List Int} (h:codeP p [l]≠0):adC p l=codeP p [l]∧adL p l=[]:=by
 refine ⟨by unfold adC; rw [if_pos h],adL_bad fun g=>h ?_⟩
 obtain ⟨ip,m,rfl,hm,_⟩:=g
 unfold codeP
 rw [if_pos ⟨isP_true,by simp [isPl_row]⟩]
theorem adC_two {p:Int} {l:List Int} (h:codeP p [l]=0) (h2:¬ AdOk p l):adC p l=2:=by
 unfold adC; rw [if_neg (by simpa using h),if_neg h2]
theorem adC_zero {p:Int} {l:List Int} (h:codeP p [l]=0) (h2:AdOk p l):adC p l=0:=by
 unfold adC; rw [if_neg (by simpa using h),if_pos h2]
def K_AllDrinfeld (O:Oracle) (F:Nat):Prop:=∀(p:Int) (l:List Int),Bytes l→l.length=64→ask O F [(D.int .i64 p),(D.arr 64 .leaf (ints .u8 l))]=some (adD p l)
open Classical in
theorem k_AllDrinfeld (hT:T F5=some Z5) (hc:C_polysCode (den T A)) (hif:C_isField (den T A)) (hro:K_rowOf (den T A)) (hdg:C_degree (den T A)) (hno:C_norm (den T A)) (hal:K_all (den T A) Fo):K_AllDrinfeld (den T A) F5:=by
 intro p l bl gl
 have e1:=hc p [l] (by intro x hx; simp at hx; subst hx; exact ⟨gl,bl⟩) (by simp)
 rw [show List.map arr8 [l]=[(D.arr 64 .leaf (ints .u8 l))] from rfl] at e1
 have e2:=hif p l bl gl
 unfold adD
 refine ask_of hT rfl ?_
 by_cases h0:codeP p [l]=0
 ·obtain ⟨ip,a,ha,rfl⟩:=codeP_zero bl gl h0
  rw [h0] at e1
  by_cases hf:Fld a
  ·rw [decide_eq_true ((isFld_good ha).2 hf)] at e2
   have h5:=hf.five
   have h2:=hf.two
   have e3:=hro p a ha
   have e4:=hdg (row a) (by rw [row_length]; omega)
   rw [row_length,show (a.len:Int)-1=((a.len-1:Nat):Int) by omega] at e4
   have e5:=hno p (a.len-1) 16 (by omega) (by omega)
   have hle:=normL_most (p:=p) 16 (a.len-1) 1 (by omega)
   rw [Int.one_mul] at hle
   by_cases h16:p^(a.len-1)≤16
   ·have hok:AdOk p (pad (row a)):=(adOk_fld ha).2 ⟨hf,h16⟩
    have e6:=hal p a hf h16
    have hgt:¬ 16<normL p 16 (a.len-1) 1:=by have:=hle.2 h16; omega
    rw [adC_zero h0 hok,adL_good hok ha]
    generalize (allQ p (pad (row a)) (manyQ p (a.len-1))).map drE=QD at *
    generalize normL p 16 (a.len-1) 1=nl at *
    generalize pad (row a)=Pa at *
    generalize row a=Ra at *
    generalize a.len-1=d at *
    simp -implicitDefEqProofs [Z5,Z5_B,dn_cond,e1,e2,e3,e4,e5,e6,hgt,List.replicate]
   ·have hok:¬ AdOk p (pad (row a)):=fun g=>h16 ((adOk_fld ha).1 g).2
    have hgt:16<normL p 16 (a.len-1) 1:=by
     have:=mt hle.1 h16; omega
    rw [adC_two h0 hok,adL_bad hok,List.map_nil]
    generalize normL p 16 (a.len-1) 1=nl at *
    generalize pad (row a)=Pa at *
    generalize row a=Ra at *
    generalize a.len-1=d at *
    simp -implicitDefEqProofs [Z5,Z5_B,dn_cond,e1,e2,e3,e4,e5,hgt,List.replicate]
  ·rw [decide_eq_false (fun g=>hf ((isFld_good ha).1 g))] at e2
   have hok:¬ AdOk p (pad (row a)):=fun g=>hf ((adOk_fld ha).1 g).1
   rw [adC_two h0 hok,adL_bad hok,List.map_nil]
   generalize pad (row a)=Pa at *
   simp -implicitDefEqProofs [Z5,Z5_B,dn_cond,e1,e2,List.replicate]
 ·rw [(adC_one h0).1,(adC_one h0).2,List.map_nil]
  generalize codeP p [l]=k at *
  simp -implicitDefEqProofs [Z5,Z5_B,dn_cond,e1,h0,List.replicate]
def C_sSmall (O:Oracle):Prop:=∀(p:Int) (l:List Int),Bytes l→l.length=64→ask O F4f [(D.int .i64 p),(D.arr 64 .leaf (ints .u8 l))]=some (D.int .i64 (adC p l))
open Classical in
theorem c_sSmall (hT:T F4f=some Z4f) (hc:C_sCode (den T A)) (hmo:K_sMonic (den T A)) (hdg:K_sDeg (den T A)) (hin:C_sIn (den T A)) (hct:K_sCount (den T A)) (hir:K_sIrr (den T A)):C_sSmall (den T A):=by
 intro p l bl gl
 have e1:=hc p [l] (by intro x hx; simp at hx; subst hx; exact ⟨gl,bl⟩) (by simp)
 rw [show List.map arr8 [l]=[(D.arr 64 .leaf (ints .u8 l))] from rfl] at e1
 refine ask_of hT rfl ?_
 by_cases h0:codeP p [l]=0
 ·obtain ⟨ip,a,ha,rfl⟩:=codeP_zero bl gl h0
  rw [h0] at e1
  have e2:=hmo p a ha
  have e3:=hdg p a ha
  have e4:=hin ((a.len:Int)-1) 1 4
  by_cases hM:Monic a
  ·rw [decide_eq_true hM] at e2
   by_cases h:2≤a.len∧a.len≤5
   ·rw [show decide ((1:Int)≤(a.len:Int)-1∧(a.len:Int)-1≤4)=true from decide_eq_true (by omega)] at e4
    rw [show (a.len:Int)-1=((a.len-1:Nat):Int) by omega] at e3 e4
    have e5:=hct p (a.len-1) (by omega)
    have hp1:(1:Int)≤p^(a.len-1):=ppow_pos (a.len-1)
    have e6:=hir p a hM.2 (by omega)
    have hiff:AdOk p (pad (row a))↔Irr a∧p^(a.len-1)≤16:=(adOk_fld ha).trans ⟨fun g=>⟨g.1.irr,g.2⟩,fun g=>⟨⟨hM,h.1,h.2,g.1⟩,g.2⟩⟩
    by_cases h16:p^(a.len-1)≤16
    ·have hgt:¬ 16<min (p^(a.len-1)) 1000000000001:=by omega
     by_cases hI:Irr a
     ·rw [decide_eq_true hI] at e6
      rw [adC_zero h0 (hiff.2 ⟨hI,h16⟩)]
      generalize min (p^(a.len-1)) 1000000000001=pw at *
      generalize pad (row a)=Pa at *
      generalize a.len-1=d at *
      simp -implicitDefEqProofs [Z4f,Z4f_B,dn_cond,e1,e2,e3,e4,e5,e6,hgt]
     ·rw [decide_eq_false hI] at e6
      rw [adC_two h0 (fun g=>hI (hiff.1 g).1)]
      generalize min (p^(a.len-1)) 1000000000001=pw at *
      generalize pad (row a)=Pa at *
      generalize a.len-1=d at *
      simp -implicitDefEqProofs [Z4f,Z4f_B,dn_cond,e1,e2,e3,e4,e5,e6,hgt]
    ·have hgt:16<min (p^(a.len-1)) 1000000000001:=by omega
     rw [adC_two h0 (fun g=>h16 (hiff.1 g).2)]
     generalize min (p^(a.len-1)) 1000000000001=pw at *
     generalize pad (row a)=Pa at *
     generalize a.len-1=d at *
     simp -implicitDefEqProofs [Z4f,Z4f_B,dn_cond,e1,e2,e3,e4,e5,hgt]
   ·rw [show decide ((1:Int)≤(a.len:Int)-1∧(a.len:Int)-1≤4)=false from decide_eq_false (by omega)] at e4
    rw [adC_two h0 (fun g=>h ⟨((adOk_fld ha).1 g).1.two,((adOk_fld ha).1 g).1.five⟩)]
    generalize pad (row a)=Pa at *
    simp -implicitDefEqProofs [Z4f,Z4f_B,dn_cond,e1,e2,e3,e4]
  ·rw [decide_eq_false hM] at e2
   rw [adC_two h0 (fun g=>hM ((adOk_fld ha).1 g).1.mon)]
   generalize pad (row a)=Pa at *
   simp -implicitDefEqProofs [Z4f,Z4f_B,dn_cond,e1,e2]
 ·rw [(adC_one h0).1]
  have h01:codeP p [l]=1:=by
   unfold codeP at h0 ⊢
   split at h0
   ·exact absurd rfl h0
   ·rename_i g; rw [if_neg g]
  rw [h01] at e1 ⊢
  simp -implicitDefEqProofs [Z4f,Z4f_B,dn_cond,e1]
theorem k_sAllDrinfeld (hT:T F31=some Z31) (hc:C_sSmall (den T A)) (hal:K_all (den T A) F45):K_AllDrinfeld (den T A) F31:=by
 intro p l bl gl
 have e1:=hc p l bl gl
 unfold adD
 refine ask_of hT rfl ?_
 by_cases h:adC p l=0
 ·rw [h] at e1 ⊢
  have hok:AdOk p l:=by
   unfold adC at h
   split at h
   ·rename_i h0; exact absurd h h0
   ·split at h
    ·assumption
    ·cases h
  have hok':=hok
  obtain ⟨ip,m,rfl,hm,h16⟩:=hok
  have h5:=hm.five
  have e2:=hal p m hm h16
  rw [adL_good hok' (by omega)]
  generalize (allQ p (pad (row m)) (manyQ p (m.len-1))).map drE=QD at *
  generalize pad (row m)=Pm at *
  simp -implicitDefEqProofs [Z31,Z31_B,dn_cond,e1,e2]
 ·have hn:adL p l=[]:=adL_bad fun g=>by
   have g':=g
   obtain ⟨ip,m,rfl,hm,h16⟩:=g
   refine h (adC_zero ?_ g')
   unfold codeP
   rw [if_pos ⟨isP_true,by simp [isPl_row]⟩]
  rw [hn,List.map_nil]
  generalize adC p l=k at *
  simp -implicitDefEqProofs [Z31,Z31_B,dn_cond,e1,h]
end Pe

namespace Pe
open Go Gq
section
variable {p:Int}
noncomputable def cS (A:List (Fp p)) (i:Nat):Fp p:=(A[i]?).getD 0
theorem cS_ge {A:List (Fp p)} {i:Nat} (h:A.length≤i):cS A i=0:=by unfold cS; rw [List.getElem?_eq_none h]; rfl
theorem cS_lt {A:List (Fp p)} {i:Nat} (h:i<A.length):A[i]=cS A i:=by unfold cS; rw [List.getElem?_eq_getElem h]; rfl
def IsTrim (A:List (Fp p)):Prop:=∀n,A.length=n+1→cS A n≠0
theorem cS_trim (S:List (Fp p)) (i:Nat):cS (trimS S) i=cS S i:=by
 unfold cS trimS
 have hle:=stl_le S S.length
 by_cases h:i<stl S S.length
 ·rw [List.getElem?_take,if_pos h]
 ·rw [List.getElem?_take,if_neg h]
  by_cases h2:i<S.length
  ·rw [stl_zero S S.length i (by omega) h2]; rfl
  ·rw [List.getElem?_eq_none (by omega)]
theorem isTrim_trim (S:List (Fp p)):IsTrim (trimS S):=fun n hn=>by
 obtain ⟨a,x,e,hx⟩:=trimS_form (S:=S) (by omega)
 rw [e] at hn ⊢
 rw [List.length_append,List.length_singleton] at hn
 unfold cS
 rw [List.getElem?_append_right (by omega),show n-a.length=0 by omega]
 exact hx
theorem trim_len_le {X:List (Fp p)} {n:Nat} (h:∀i,n≤i→cS X i=0):(trimS X).length≤n:=by
 rcases Nat.lt_or_ge n (trimS X).length with g | g
 ·have:=isTrim_trim X ((trimS X).length-1) (by omega)
  rw [cS_trim] at this
  exact absurd (h _ (by omega)) this
 ·exact g
theorem isTrim_nil:IsTrim ([]:List (Fp p)):=fun n h=>by cases h
theorem cS_nil (i:Nat):cS ([]:List (Fp p)) i=0:=rfl
theorem cS_mem {A:List (Fp p)} {N:Nat} (h:∀i,(cS A i).len≤N):∀c∈A,c.len≤N:=fun c hc=>by
 obtain ⟨i,hi,rfl⟩:=List.getElem_of_mem hc
 rw [cS_lt hi]; exact h i
theorem mem_cS {A:List (Fp p)} {N:Nat} (h:∀c∈A,c.len≤N) (i:Nat):(cS A i).len≤N:=by
 by_cases hi:i<A.length
 ·rw [←cS_lt hi]; exact h _ (List.getElem_mem hi)
 ·rw [cS_ge (by omega),Pol.len_zero]; omega
theorem cS_map {n:Nat} {f:Nat→Fp p} (i:Nat):cS ((List.range n).map f) i=if i<n then f i else 0:=by
 unfold cS
 rw [List.getElem?_map]
 by_cases h:i<n
 ·rw [List.getElem?_range h,if_pos h]; rfl
 ·rw [List.getElem?_eq_none (by simpa using h),if_neg h]; rfl
noncomputable def plusS (k:Int) (A B:List (Fp p)):List (Fp p):=trimS ((List.range (max A.length B.length)).map fun i=>cS A i+Pol.C (zp p k)*cS B i)
theorem cS_plus (k:Int) (A B:List (Fp p)) (i:Nat):cS (plusS k A B) i=cS A i+Pol.C (zp p k)*cS B i:=by
 unfold plusS
 rw [cS_trim,cS_map]
 split
 ·rfl
 ·rw [cS_ge (A:=A) (by omega),cS_ge (A:=B) (by omega),Gq.mul_zero,Gq.add_zero]
theorem isTrim_plus (k:Int) (A B:List (Fp p)):IsTrim (plusS k A B):=isTrim_trim _
theorem plus_len (k:Int) (A B:List (Fp p)):(plusS k A B).length≤max A.length B.length:=trim_len_le fun i hi=>by
 rw [cS_map,if_neg (by omega)]
noncomputable def termS (c:Fp p) (k:Nat):List (Fp p):=List.replicate k 0++[c]
theorem termS_length (c:Fp p) (k:Nat):(termS c k).length=k+1:=by unfold termS; rw [List.length_append,List.length_replicate]; rfl
theorem cS_term (c:Fp p) (k i:Nat):cS (termS c k) i=if i=k then c else 0:=by
 unfold cS termS
 rcases Nat.lt_trichotomy i k with h | h | h
 ·rw [List.getElem?_append_left (by rw [List.length_replicate]; exact h),List.getElem?_replicate,if_pos h,if_neg (by omega)]; rfl
 ·rw [List.getElem?_append_right (by rw [List.length_replicate]; omega),List.length_replicate,h,Nat.sub_self,if_pos rfl]; rfl
 ·rw [List.getElem?_eq_none (by rw [List.length_append,List.length_replicate,List.length_singleton]; omega),if_neg (by omega)]; rfl
theorem isTrim_term {c:Fp p} (h:c≠0) (k:Nat):IsTrim (termS c k):=fun n hn=>by
 rw [termS_length] at hn
 rw [cS_term,if_pos (by omega)]; exact h
theorem trimS_len_le (S:List (Fp p)):(trimS S).length≤S.length:=by
 unfold trimS; rw [List.length_take]; omega
theorem cS_set {X:List (Fp p)} {n i:Nat} {c:Fp p} (h:n<X.length):cS (X.set n c) i=if i=n then c else cS X i:=by
 unfold cS
 by_cases hi:i=n
 ·subst hi; rw [List.getElem?_set_self h,if_pos rfl]; rfl
 ·rw [List.getElem?_set_ne (by omega),if_neg hi]
theorem snoc_of {B:List (Fp p)} (h:1≤B.length):∃b,B=b++[cS B (B.length-1)]∧b.length=B.length-1:=by
 have hlt:B.length-1<B.length:=by omega
 refine ⟨B.take (B.length-1),?_,by rw [List.length_take]; omega⟩
 rw [←cS_lt hlt,←List.take_succ_eq_append_getElem hlt,show B.length-1+1=B.length by omega,List.take_length]
end
section
variable {p:Int} [IsP p]
theorem byIn_lens' {m x:Fp p} {i N:Nat} (hm:m≠0) (hN:m.len≤N+1):∀(k:Nat) (b Q:List (Fp p)),(∀c∈Q,c.len≤N)→∀c∈byIn m x i k b Q,c.len≤N
 | _,[],_,h=>h
 | k,y::ys,Q,h=>byIn_lens' hm hN (k+1) ys _ (addAt_lens h (by have:=Pol.len_mod (x*frIt m (i%(m.len-1)) y) hm; omega))
theorem byOut_lens' {m:Fp p} {b:List (Fp p)} {N:Nat} (hm:m≠0) (hN:m.len≤N+1):∀(i:Nat) (a Q:List (Fp p)),(∀c∈Q,c.len≤N)→∀c∈byOut m b i a Q,c.len≤N
 | _,[],_,h=>h
 | i,_x::xs,Q,h=>byOut_lens' hm hN (i+1) xs _ (byIn_lens' hm hN 0 b Q h)
theorem prodS_lens' {m:Fp p} {a b:List (Fp p)} {N:Nat} (hm:m≠0) (hN:m.len≤N+1):∀c∈prodS m a b,c.len≤N:=fun c hc=>by
 unfold prodS at hc
 split at hc
 ·cases hc
 ·have h1:c∈mulS m a b:=List.mem_of_mem_take hc
  exact byOut_lens' hm hN 0 a _ (fun c hc=>by rw [List.eq_of_mem_replicate hc,Pol.len_zero]; omega) c h1
theorem isTrim_prod (m:Fp p) (a b:List (Fp p)):IsTrim (prodS m a b):=by
 unfold prodS
 split
 ·exact isTrim_nil
 ·exact isTrim_trim _
theorem prod_len_le {m:Fp p} {a b:List (Fp p)}:(prodS m a b).length≤a.length+b.length-1:=by
 unfold prodS
 split
 ·exact Nat.zero_le _
 ·have:=trimS_len_le (mulS m a b)
  have hl:(mulS m a b).length=a.length+b.length-1:=by unfold mulS; rw [byOut_length,List.length_replicate]
  omega
theorem mulS_val {m x y:Fp p} {a b:List (Fp p)}:cS (mulS m (a++[x]) (b++[y])) (a.length+b.length)=x*frIt m (a.length%(m.len-1)) y%m:=by
 unfold mulS
 rw [byOut_snoc,byIn_snoc]
 unfold addAt
 rw [byIn_get_ge _ _ _ (by omega),byOut_get_ge _ _ _ (by rw [List.length_append,List.length_cons,List.length_nil]; omega)]
 have hN:0+a.length+(0+b.length)=a.length+b.length:=by omega
 rw [hN]
 unfold cS
 rw [List.getElem?_set_self (by rw [byIn_length,byOut_length,List.length_replicate,List.length_append,List.length_append]; simp only [List.length_cons,List.length_nil]; omega)]
 rw [List.getElem?_replicate,if_pos (by rw [List.length_append,List.length_append]; simp only [List.length_cons,List.length_nil]; omega)]
 show (0:Fp p)+_=_
 rw [Gq.zero_add,show 0+a.length=a.length by omega]
theorem prod_top {m:Fp p} {A B:List (Fp p)} (ha:1≤A.length) (hb:1≤B.length):cS (prodS m A B) (A.length-1+(B.length-1))=cS A (A.length-1)*frIt m ((A.length-1)%(m.len-1)) (cS B (B.length-1))%m:=by
 obtain ⟨a,ea,la⟩:=snoc_of ha
 obtain ⟨b,eb,lb⟩:=snoc_of hb
 have h:=mulS_val (m:=m) (x:=cS A (A.length-1)) (y:=cS B (B.length-1)) (a:=a) (b:=b)
 rw [←ea,←eb,la,lb] at h
 unfold prodS
 rw [if_neg (by omega),cS_trim]
 exact h
theorem inv_back {m x y:Fp p} (hm:Fld m) (hx:x.len<m.len) (hy:y≠0) (hyl:y.len<m.len):(x*invm m y%m)*y%m=x∧y*(x*invm m y%m)%m=x:=by
 have h0:m≠0:=hm.mon.2
 have e:=invm_ok hm hy hyl
 have key:Quo.mk m ((x*invm m y%m)*y)=Quo.mk m x:=by
  rw [Quo.mk_mul,Pol.mk_mod,Quo.mk_mul,Gq.mul_assoc,e,Gq.mul_one]
 have h1:=(Pol.mod_eq_iff h0).2 key
 rw [Pol.mod_small hx] at h1
 exact ⟨h1,by rw [Gq.mul_comm]; exact h1⟩
theorem frIt_add {m:Fp p}:∀(b a:Nat) (x:Fp p),frIt m (a+b) x=frIt m a (frIt m b x)
 | 0,_,_=>rfl
 | b+1,a,x=>by
  show frIt m (a+b) (pw x p.toNat%m)=frIt m a (frIt m b (pw x p.toNat%m))
  exact frIt_add b a _
theorem frIt_round {m:Fp p} (hm:Fld m) (j:Nat) {z:Fp p} (hz:z.len<m.len):frIt m (j%(m.len-1)) (frIt m ((m.len-1-j%(m.len-1))%(m.len-1)) z)=z:=by
 have h2:=hm.two
 have hlt:=Nat.mod_lt j (show 0<m.len-1 by omega)
 rw [frIt_mod hm _ hz,←frIt_add,show j%(m.len-1)+(m.len-1-j%(m.len-1))=m.len-1 by omega,←frIt_mod hm _ hz,Nat.mod_self]
 rfl
noncomputable def qc (left:Bool) (m:Fp p) (A B:List (Fp p)):Fp p:=
 if left then frIt m ((m.len-1-(B.length-1)%(m.len-1))%(m.len-1)) (cS A (A.length-1)*invm m (cS B (B.length-1))%m)
 else cS A (A.length-1)*invm m (frIt m ((A.length-B.length)%(m.len-1)) (cS B (B.length-1)))%m
noncomputable def qT (left:Bool) (m:Fp p) (A B:List (Fp p)):List (Fp p):=termS (qc left m A B) (A.length-B.length)
noncomputable def qP (left:Bool) (m:Fp p) (A B:List (Fp p)):List (Fp p):=if left then prodS m B (qT left m A B) else prodS m (qT left m A B) B
end
section
variable {p:Int}
structure Sk (m:Fp p) (A:List (Fp p)):Prop where
 trim:IsTrim A
 eight:A.length≤8
 res:∀c∈A,c.len<m.len
theorem Sk.cs {m:Fp p} {A:List (Fp p)} (h:Sk m A) (hm:m≠0) (i:Nat):(cS A i).len<m.len:=by
 have:=mem_cS (N:=m.len-1) (fun c hc=>by have:=h.res c hc; omega) i
 have:=Pol.len_pos hm
 omega
theorem Sk.top {m:Fp p} {A:List (Fp p)} (h:Sk m A) (h1:1≤A.length):cS A (A.length-1)≠0:=h.trim _ (by omega)
theorem Sk.nil (m:Fp p):Sk m []:=⟨isTrim_nil,by simp,fun c h=>by cases h⟩
end
section
variable {p:Int} [IsP p]
theorem c_ge' {p:Int} {a:Fp p} {n:Nat} (h:a.len≤n):a.c n=0:=a.lt_len n h
theorem Sk.plus {m:Fp p} {A B:List (Fp p)} (hm:m≠0) (hA:Sk m A) (hB:Sk m B) (k:Int):Sk m (plusS k A B):=by
 have h1:=Pol.len_pos hm
 refine ⟨isTrim_plus k A B,by have:=plus_len k A B; have:=hA.eight; have:=hB.eight; omega,fun c hc=>?_⟩
 have:=cS_mem (A:=plusS k A B) (N:=m.len-1) (fun i=>by
  rw [cS_plus]
  have a1:=hA.cs hm i
  have a2:=hB.cs hm i
  exact Pol.len_add_le (by omega) (Pol.len_le fun j hj=>by rw [Pol.c_Cmul,c_ge' (by omega),Gq.mul_zero])) c hc
 omega
theorem step_ok (left:Bool) {m:Fp p} (hm:Fld m) {A B:List (Fp p)} (hA:Sk m A) (hB:Sk m B) (h1:1≤B.length) (hle:B.length≤A.length) :
 qc left m A B≠0∧(qc left m A B).len<m.len∧Sk m (qT left m A B)∧Sk m (qP left m A B)∧(plusS (-1) A (qP left m A B)).length<A.length∧Sk m (plusS (-1) A (qP left m A B)):=by
 have h0:m≠0:=hm.mon.2
 have hx:=hA.top (by omega)
 have hxl:=hA.cs h0 (A.length-1)
 have hy:=hB.top h1
 have hyl:=hB.cs h0 (B.length-1)
 have hfy:frIt m ((A.length-B.length)%(m.len-1)) (cS B (B.length-1))≠0:=frIt_ne hm _ _ hy hyl
 have hfl:=frIt_len h0 ((A.length-B.length)%(m.len-1)) (cS B (B.length-1)) hyl
 have hb1:=inv_back hm hxl hfy hfl
 have hb2:=inv_back hm hxl hy hyl
 have hzl:(cS A (A.length-1)*invm m (cS B (B.length-1))%m).len<m.len:=Pol.len_mod _ h0
 have hz0:cS A (A.length-1)*invm m (cS B (B.length-1))%m≠0:=fun h=>by
  have:=hb2.1
  rw [h,Gq.zero_mul,Pol.zero_mod h0] at this
  exact hx this.symm
 have hc0:qc left m A B≠0:=by
  unfold qc
  cases left with
  | true=>simp only [if_true]; exact frIt_ne hm _ _ hz0 hzl
  | false=>
   simp only [Bool.false_eq_true,if_false]
   intro h
   have:=hb1.1
   rw [h,Gq.zero_mul,Pol.zero_mod h0] at this
   exact hx this.symm
 have hcl:(qc left m A B).len<m.len:=by
  unfold qc
  cases left with
  | true=>simp only [if_true]; exact frIt_len h0 _ _ hzl
  | false=>simp only [Bool.false_eq_true,if_false]; exact Pol.len_mod _ h0
 have hTl:(qT left m A B).length=A.length-B.length+1:=termS_length _ _
 have h8:=hA.eight
 have hT:Sk m (qT left m A B):=⟨isTrim_term hc0 _,by omega,fun c hc=>by
  unfold qT termS at hc
  rcases List.mem_append.1 hc with h | h
  ·rw [List.eq_of_mem_replicate h,Pol.len_zero]; exact Pol.len_pos h0
  ·rw [List.mem_singleton.1 h]; exact hcl⟩
 have hPl:(qP left m A B).length≤A.length:=by
  unfold qP
  cases left with
  | true=>have:=prod_len_le (m:=m) (a:=B) (b:=qT true m A B); simp only [if_true]; omega
  | false=>have:=prod_len_le (m:=m) (a:=qT false m A B) (b:=B); simp only [Bool.false_eq_true,if_false]; omega
 have hP:Sk m (qP left m A B):=by
  have hm1:=Pol.len_pos h0
  refine ⟨?_,by omega,?_⟩
  ·unfold qP
   cases left with
   | true=>exact isTrim_prod _ _ _
   | false=>exact isTrim_prod _ _ _
  ·intro c hc
   have:c.len≤m.len-1:=by
    unfold qP at hc
    cases left with
    | true=>exact prodS_lens' h0 (by omega) c hc
    | false=>exact prodS_lens' h0 (by omega) c hc
   omega
 have htop:cS (qP left m A B) (A.length-1)=cS A (A.length-1):=by
  unfold qP
  cases left with
  | true=>
   simp only [if_true]
   have h:=prod_top (m:=m) (A:=B) (B:=qT true m A B) h1 (by omega)
   rw [hTl,show B.length-1+(A.length-B.length+1-1)=A.length-1 by omega,show A.length-B.length+1-1=A.length-B.length by omega] at h
   rw [h]
   unfold qT
   rw [cS_term,if_pos rfl]
   unfold qc
   simp only [if_true]
   rw [frIt_round hm (B.length-1) hzl]
   exact hb2.2
  | false=>
   simp only [Bool.false_eq_true,if_false]
   have h:=prod_top (m:=m) (A:=qT false m A B) (B:=B) (by omega) h1
   rw [hTl,show A.length-B.length+1-1+(B.length-1)=A.length-1 by omega,show A.length-B.length+1-1=A.length-B.length by omega] at h
   rw [h]
   unfold qT
   rw [cS_term,if_pos rfl]
   unfold qc
   simp only [Bool.false_eq_true,if_false]
   exact hb1.1
 have hneg:∀x:Fp p,x+Pol.C (zp p (-1))*x=0:=fun x=>by
  rw [zp_neg,zp_one,Pol.C_neg,Pol.C_one]
  exact ring_of [x] rfl
 refine ⟨hc0,hcl,hT,hP,?_,hA.plus h0 hP (-1)⟩
 have hlt:(plusS (-1) A (qP left m A B)).length≤A.length-1:=trim_len_le fun i hi=>by
  rw [cS_map]
  split
  ·rcases Nat.lt_or_ge i A.length with g | g
   ·rw [show i=A.length-1 by omega,htop,hneg]
   ·rw [cS_ge g,cS_ge (A:=qP left m A B) (by omega),Gq.mul_zero,Gq.add_zero]
  ·rfl
 omega
def Zto (Q A B:List (Fp p)):Prop:=∀j,j+B.length≤A.length→cS Q j=0
theorem Zto.step {left:Bool} {m:Fp p} (hm:Fld m) {Q A B:List (Fp p)} (hA:Sk m A) (hB:Sk m B) (h1:1≤B.length) (hle:B.length≤A.length) (hz:Zto Q A B):Zto (plusS 1 Q (qT left m A B)) (plusS (-1) A (qP left m A B)) B:=fun j hj=>by
 obtain ⟨_,_,_,_,h,_⟩:=step_ok left hm hA hB h1 hle
 unfold qT
 rw [cS_plus,hz j (by omega),cS_term,if_neg (by omega),Gq.mul_zero,Gq.add_zero]
end
end Pe

namespace Pe
open Go Gq
variable {T:Nat→Option Fn} {A:Oracle}
def K_single (O:Oracle):Prop:=∀(p:Int) [IsP p] (c:Fp p) (k:Nat),k<10000→ask O F21 [(D.sl .leaf (ints .i64 (row c))),(D.int .i64 k)]=some (skD (termS c k))
theorem termS_map {p:Int} (c:Fp p) (k:Nat):(List.replicate (k+1) (D.sl .leaf [])).set k (D.sl .leaf (ints .i64 (row c)))=(termS c k).map rowD:=by
 unfold termS
 rw [List.map_append,List.map_replicate,show rowD (0:Fp p)=.sl .leaf [] by show (D.sl .leaf (ints .i64 (row (0:Fp p))))=_; rw [row_zero,ints_nil],List.replicate_succ',List.set_append_right _ _ (by rw [List.length_replicate]; omega),List.length_replicate,Nat.sub_self]
 rfl
theorem k_single (hT:T F21=some Z21):K_single (den T A):=by
 intro p ip c k hk
 have w1:IntKind.i64.wrap ((k:Int)+1)=((k+1:Nat):Int):=(w64 (x:=(k:Int)+1) (by omega)).trans (by omega)
 have h24:(k+1)*24≤1099511627776:=by omega
 have hn:(0:Int)≤((k+1:Nat):Int):=by omega
 have hlt:k<k+1:=by omega
 have hsk:skD (termS c k)=.sl .leaf ((termS c k).map rowD):=rfl
 have htm:=termS_map c k
 have hTL:((termS c k).map rowD).length=k+1:=by rw [List.length_map,termS_length]
 have htk:((termS c k).map rowD).take (k+1)=(termS c k).map rowD:=List.take_of_length_le (by omega)
 rw [hsk]
 refine ask_of hT rfl ?_
 have hRL:(List.replicate (k+1) (D.sl .leaf [])).length=k+1:=List.length_replicate ..
 have hRg:∀h:k<(List.replicate (k+1) (D.sl .leaf [])).length,(List.replicate (k+1) (D.sl .leaf []))[k]'h=D.sl .leaf []:=fun h=>List.getElem_replicate h
 generalize (termS c k).map rowD=TD at *
 generalize row c=Rc at *
 generalize hRR:List.replicate (k+1) (D.sl .leaf [])=RR at *
 generalize k+1=k1 at *
 simp -implicitDefEqProofs [Z21,Z21_B,w1,h24,hlt,hRR,hRL,hRg,htm,hTL,htk]
def K_skAt (O:Oracle):Prop:=∀(p:Int) [IsP p] (A:List (Fp p)) (i:Nat),ask O F22 [skD A,(D.int .i64 i)]=some (D.sl .leaf (ints .i64 (row (cS A i))))
theorem k_skAt (hT:T F22=some Z22):K_skAt (den T A):=by
 intro p ip S i
 have hsk:skD S=.sl .leaf (S.map rowD):=rfl
 have hL:(S.map rowD).length=S.length:=List.length_map ..
 rw [hsk]
 refine ask_of hT rfl ?_
 by_cases h:i<S.length
 ·have hx:∀h:i<(S.map rowD).length,(S.map rowD)[i]'h=(D.sl .leaf (ints .i64 (row (cS S i)))):=fun h'=>by rw [List.getElem_map,cS_lt h]
  generalize row (cS S i)=Rc at *
  generalize S.map rowD=SD at *
  simp -implicitDefEqProofs [Z22,Z22_B,dn_cond,h,hL,hx]
 ·rw [cS_ge (by omega),row_zero]
  generalize S.map rowD=SD at *
  simp -implicitDefEqProofs [Z22,Z22_B,dn_cond,h,hL,ints_nil]
theorem l_plus {O:Oracle} (hat:K_skAt O) (hco:K_combine O) {p:Int} [IsP p] {m:Fp p} {X Y:List (Fp p)} {k:Int} (hk:-1000≤k∧k≤1000) (hX:∀c∈X,c.len≤64) (hY:∀c∈Y,c.len≤64) {n:Nat} (hn:n<100000) {cp cq:Option Nat}:∀(r i:Nat) (Q:List D),i+r=n→Q.length=n→(∀d∈Q,d.sh.beq .leaf=true)→Q.take i=((List.range n).map fun i=>rowD (cS X i+Pol.C (zp p k)*cS Y i)).take i →
 dn O 0 (.loop Z12_L0) ⟨[(1,.d (skD X)),(2,.d (skD Y)),(3,(.d (.int .i64 k))),(4,.ptr 0 []),(9,.sl 1 [] 0 n cp),(18,(.d (.int .i64 n))),(19,(.d (.int .i64 i)))],[.box false (fldD m),.sl false .leaf Q]⟩ =
  some (.exit 0,⟨[(1,.d (skD X)),(2,.d (skD Y)),(3,(.d (.int .i64 k))),(4,.ptr 0 []),(9,.sl 1 [] 0 n cp),(18,(.d (.int .i64 n))),(19,(.d (.int .i64 n))),(20,(.d (.bool false)))],[.box false (fldD m),.sl false .leaf ((List.range n).map fun i=>rowD (cS X i+Pol.C (zp p k)*cS Y i))]⟩)
 | 0,i,Q,hi,hq,hQ,ht=>by
  obtain rfl:i=n:=by omega
  rw [List.take_of_length_le (by omega),List.take_of_length_le (by rw [List.length_map,List.length_range]; omega)] at ht
  subst ht
  refine dn_stop ?_
  generalize (List.range i).map (fun i=>rowD (cS X i+Pol.C (zp p k)*cS Y i))=LQ at *
  simp -implicitDefEqProofs [Z12_L0,dn_cond]
 | r+1,i,Q,hi,hq,hQ,ht=>by
  have hlt:i<n:=by omega
  have hltq:i<Q.length:=by omega
  have hsh:∀h:i<Q.length,(Q[i]'h).sh.beq .leaf=true:=fun h=>hQ _ (List.getElem_mem h)
  have e1:=hat p X i
  have e2:=hat p Y i
  have a1:=mem_cS hX i
  have a2:=mem_cS hY i
  have e3:=hco p k (cS X i) (cS Y i) (by omega) (by omega) (by omega) (by omega)
  have w4:IntKind.i64.wrap ((i:Int)+1)=((i+1:Nat):Int):=(w64 (x:=(i:Int)+1) (by omega)).trans (by omega)
  have hLn:((List.range n).map fun i=>rowD (cS X i+Pol.C (zp p k)*cS Y i)).length=n:=by rw [List.length_map,List.length_range]
  refine dn_round ?_ (l_plus hat hco (m:=m) hk hX hY hn (cp:=cp) (cq:=cq) r (i+1) (Q.set i (D.sl .leaf (ints .i64 (row (cS X i+Pol.C (zp p k)*cS Y i))))) (by omega) (by rw [List.length_set]; exact hq) (fun d hd=>by
   rcases List.mem_or_eq_of_mem_set hd with h1 | rfl
   ·exact hQ d h1
   ·rfl) (by
   rw [List.take_succ_eq_append_getElem (by rw [List.length_set]; exact hltq),List.getElem_set_self,List.take_set,List.set_eq_of_length_le (by rw [List.length_take]; omega),ht,List.take_succ_eq_append_getElem (by omega),List.getElem_map,List.getElem_range]))
  have hfd:fldD m=.st [.leaf,.leaf] [(D.int .i64 p),(D.sl .leaf (ints .i64 (row m)))]:=rfl
  have hsX:skD X=.sl .leaf (X.map rowD):=rfl
  have hsY:skD Y=.sl .leaf (Y.map rowD):=rfl
  rw [hfd]
  rw [hsX] at e1 ⊢
  rw [hsY] at e2 ⊢
  generalize row (cS X i+Pol.C (zp p k)*cS Y i)=R3 at *
  generalize row (cS X i)=R1 at *
  generalize row (cS Y i)=R2 at *
  generalize X.map rowD=XD at *
  generalize Y.map rowD=YD at *
  generalize row m=Rm at *
  simp -implicitDefEqProofs [Z12_L0,dn_cond,hlt,hq,hsh,e1,e2,e3,w4]
def K_plus (O:Oracle):Prop:=∀(p:Int) [IsP p] (m:Fp p) (X Y:List (Fp p)) (k:Int),-1000≤k→k≤1000→X.length<10000→Y.length<10000→(∀c∈X,c.len≤64)→(∀c∈Y,c.len≤64)→ask O F12 [fldD m,skD X,skD Y,(D.int .i64 k)]=some (skD (plusS k X Y))
theorem k_plus (hT:T F12=some Z12) (hat:K_skAt (den T A)) (hco:K_combine (den T A)) (htr:K_sktrim (den T A)):K_plus (den T A):=by
 intro p ip m X Y k hk1 hk2 hXl hYl hX hY
 have e1:=l_plus (O:=den T A) hat hco (m:=m) ⟨hk1,hk2⟩ hX hY (n:=max X.length Y.length) (by omega) (cp:=some (max X.length Y.length)) (cq:=none) (max X.length Y.length) 0 (List.replicate (max X.length Y.length) (.sl .leaf [])) (Nat.zero_add _) (List.length_replicate ..) (fun d hd=>by rw [List.eq_of_mem_replicate hd]; rfl) (by rw [List.take_zero,List.take_zero])
 have e00:((0:Nat):Int)=0:=rfl
 have e2:=htr p ((List.range (max X.length Y.length)).map fun i=>cS X i+Pol.C (zp p k)*cS Y i) (by rw [List.length_map,List.length_range]; omega)
 have hsum:skD ((List.range (max X.length Y.length)).map fun i=>cS X i+Pol.C (zp p k)*cS Y i)=.sl .leaf ((List.range (max X.length Y.length)).map fun i=>rowD (cS X i+Pol.C (zp p k)*cS Y i)):=by
  show D.sl .leaf (List.map _ (List.map _ _))=_
  rw [List.map_map]; rfl
 rw [hsum,show trimS ((List.range (max X.length Y.length)).map fun i=>cS X i+Pol.C (zp p k)*cS Y i)=plusS k X Y from rfl] at e2
 rw [e00] at e1
 have hsX:skD X=.sl .leaf (X.map rowD):=rfl
 have hsY:skD Y=.sl .leaf (Y.map rowD):=rfl
 have hsP:skD (plusS k X Y)=.sl .leaf ((plusS k X Y).map rowD):=rfl
 have hX1:(X.map rowD).length=X.length:=List.length_map ..
 have hY1:(Y.map rowD).length=Y.length:=List.length_map ..
 have hmx:(if X.length<Y.length then ((Y.length:Nat):Int) else ((X.length:Nat):Int))=((max X.length Y.length:Nat):Int):=by split <;> omega
 have h24:max X.length Y.length*24≤1099511627776:=by omega
 have hLn:((List.range (max X.length Y.length)).map fun i=>rowD (cS X i+Pol.C (zp p k)*cS Y i)).length=max X.length Y.length:=by rw [List.length_map,List.length_range]
 have htk:((List.range (max X.length Y.length)).map fun i=>rowD (cS X i+Pol.C (zp p k)*cS Y i)).take (max X.length Y.length)=((List.range (max X.length Y.length)).map fun i=>rowD (cS X i+Pol.C (zp p k)*cS Y i)):=List.take_of_length_le (by omega)
 rw [hsP] at e2 ⊢
 rw [hsX,hsY] at e1 ⊢
 refine ask_of hT rfl ?_
 generalize ((List.range (max X.length Y.length)).map fun i=>rowD (cS X i+Pol.C (zp p k)*cS Y i))=LQ at *
 generalize X.map rowD=XD at *
 generalize Y.map rowD=YD at *
 generalize (plusS k X Y).map rowD=PD at *
 generalize hmm:max X.length Y.length=n at *
 simp -implicitDefEqProofs [Z12,Z12_B,hX1,hY1,hmx,h24,e1,e2,hLn,htk]
def K_by2 (O:Oracle):Prop:=∀(p:Int) [IsP p] (m:Fp p) (a b:List (Fp p)),2≤m.len→m.len≤64→(∀c∈a,c.len≤64)→(∀c∈b,c.len≤64)→a.length<10000→b.length<10000→ask O Fy [fldD m,skD a,skD b]=some (skD (prodS m a b))
theorem k_by2 {O:Oracle} (h:K_by O):K_by2 O:=by
 intro p ip m a b h2 hml ha hb hal hbl
 rw [h p m a b h2 hml ha hb hal hbl]
 unfold prodS
 split <;> rfl
end Pe

namespace Pe
open Go Gq
variable {T:Nat→Option Fn} {A:Oracle}
end Pe


namespace Pe
open Go Gq
variable {T:Nat→Option Fn} {A:Oracle}
end Pe

namespace Pe
open Go Gq
variable {T:Nat→Option Fn} {A:Oracle}
end Pe

namespace Pe
open Go Gq
variable {T:Nat→Option Fn} {A:Oracle}
section
variable {p:Int} [IsP p]
theorem byIn_cS {m x:Fp p} {i n:Nat}:∀(k:Nat) (b Q:List (Fp p)),i+k+b.length≤Q.length→cS (byIn m x i k b Q) n=if i+k≤n∧n<i+k+b.length then cS Q n+x*frIt m (i%(m.len-1)) (cS b (n-(i+k)))%m else cS Q n
 | k,[],Q,_=>by rw [if_neg (by rw [List.length_nil]; omega)]; rfl
 | k,y::ys,Q,h=>by
  rw [List.length_cons] at h
  show cS (byIn m x i (k+1) ys (addAt Q (i+k) _)) n=_
  rw [byIn_cS (k+1) ys _ (by rw [addAt_length]; omega)]
  have hadd:∀v:Fp p,cS (addAt Q (i+k) v) n=if n=i+k then cS Q n+v else cS Q n:=fun v=>by
   unfold addAt
   rw [cS_set (by omega)]
   split
   ·rename_i h; rw [h]; rfl
   ·rfl
  rw [hadd]
  by_cases h1:n=i+k
  ·subst h1
   rw [if_neg (by omega),if_pos rfl,if_pos (by rw [List.length_cons]; omega),Nat.sub_self]
   rfl
  ·rw [if_neg h1]
   by_cases h2:i+k≤n∧n<i+k+(y::ys).length
   ·rw [List.length_cons] at h2
    rw [if_pos (by omega),if_pos (by rw [List.length_cons]; omega)]
    have:cS (y::ys) (n-(i+k))=cS ys (n-(i+(k+1))):=by
     unfold cS
     rw [show n-(i+k)=(n-(i+(k+1)))+1 by omega,List.getElem?_cons_succ]
    rw [this]
   ·rw [if_neg h2,if_neg (by rw [List.length_cons] at h2; omega)]
noncomputable def monS (m:Fp p) (X:List (Fp p)):List (Fp p):=prodS m (termS (invm m (cS X (X.length-1))) 0) X
theorem Sk.mon {m:Fp p} {X:List (Fp p)} (hm:m≠0) (hX:Sk m X):Sk m (monS m X):=by
 have h1:=Pol.len_pos hm
 have hl:=prod_len_le (m:=m) (a:=termS (invm m (cS X (X.length-1))) 0) (b:=X)
 rw [termS_length] at hl
 have h8:=hX.eight
 exact ⟨isTrim_prod _ _ _,by unfold monS; omega,fun c hc=>by have:=prodS_lens' (N:=m.len-1) hm (by omega) c hc; omega⟩
end
end Pe

namespace Pe
open Go Gq
variable {T:Nat→Option Fn} {A:Oracle}
section
variable {p:Int}
theorem c_one {y:Fp p} (h:Pol.C (zp p 1)*y=0):y=0:=by
 rw [zp_one,Pol.C_one,Gq.one_mul] at h; exact h
end
section
variable {p:Int} [IsP p]
theorem prodS_len {m:Fp p} (hm:Fld m) {X Y:List (Fp p)} (hX:IsTrim X) (hY:IsTrim Y) (hXl:∀c∈X,c.len<m.len) (hYl:∀c∈Y,c.len<m.len) (h1:1≤X.length) (h2:1≤Y.length):(prodS m X Y).length=X.length+Y.length-1:=by
 obtain ⟨a,ea,la⟩:=snoc_of h1
 obtain ⟨b,eb,lb⟩:=snoc_of h2
 have hx:=hX (X.length-1) (by omega)
 have hy:=hY (Y.length-1) (by omega)
 have ht:=mulS_top hm (a:=a) (b:=b) hx (hXl _ (by rw [←cS_lt (show X.length-1<X.length by omega)]; exact List.getElem_mem _)) hy (hYl _ (by rw [←cS_lt (show Y.length-1<Y.length by omega)]; exact List.getElem_mem _))
 rw [←ea,←eb] at ht
 unfold prodS
 rw [if_neg (by omega),ht]
 unfold mulS
 rw [byOut_length,List.length_replicate]
theorem one_ne8:(1:Fp p)≠0:=fun h=>by
 have e:(1:Fp p).len=1:=Pol.len_one
 rw [h,Pol.len_zero] at e
 cases e
theorem sk_one {m:Fp p} (hm:Fld m):Sk m (termS (1:Fp p) 0):=⟨isTrim_term one_ne8 0,by rw [termS_length]; omega,fun c hc=>by
 unfold termS at hc
 rw [List.replicate_zero,List.nil_append] at hc
 rw [List.mem_singleton.1 hc]
 have:=hm.two
 have:(1:Fp p).len=1:=Pol.len_one
 omega⟩
theorem mon_len {m:Fp p} (hm:Fld m) {X:List (Fp p)} (hX:IsTrim X) (hr:∀c∈X,c.len<m.len) (h1:1≤X.length):(monS m X).length=X.length:=by
 have h0:=hm.mon.2
 have hx:cS X (X.length-1)≠0:=hX _ (by omega)
 have hxl:(cS X (X.length-1)).len<m.len:=by
  rw [←cS_lt (show X.length-1<X.length by omega)]; exact hr _ (List.getElem_mem _)
 have hi:invm m (cS X (X.length-1))≠0:=fun h=>by
  have e:=inv_back hm (x:=1) (by have:=hm.two; have:(1:Fp p).len=1:=Pol.len_one; omega) hx hxl
  rw [h,Gq.mul_zero,Pol.zero_mod h0,Gq.zero_mul,Pol.zero_mod h0] at e
  exact one_ne8 e.1.symm
 have hil:=invm_len h0 (cS X (X.length-1))
 have:=prodS_len hm (isTrim_term hi 0) hX (fun c hc=>by
  unfold termS at hc
  rw [List.replicate_zero,List.nil_append] at hc
  rw [List.mem_singleton.1 hc]; exact hil) hr (by rw [termS_length]; omega) h1
 rw [termS_length] at this
 unfold monS
 omega
end
end Pe


namespace Pe
open Go Gq
variable {T:Nat→Option Fn} {A:Oracle}
section
variable {p:Int} [IsP p]
end
end Pe
