/-
  A part of the proof: an evaluator for a small form of the code, its soundness, and contracts of functions over it.
-/
import Derived.Test.YtngaenaglaiblaaGreatW1
import Derived.Test.YtngaenaglaiblaaGreatW2
import Derived.Test.YtngaenaglaiblaaGreatW3
import Derived.Test.YtngaenaglaiblaaGreatW4
import Derived.Test.YtngaenaglaiblaaGreatW5
import Derived.Test.YtngaenaglaiblaaGreatW6

namespace Pe
open Go Gq
variable {T:Nat→Option Fn} {A:am}
section
variable {p:Int} [IsP p]
noncomputable def gy (m:Fp p) (t k:Nat) (x y:Fp p):List (Fp p):=(List.range (t+1)).map (fun j=>ef m (j%(m.len-1)) y)++(List.range (k+t)).map fun j=>0-ef m (j%(m.len-1)) x
theorem jz (m:Fp p) (t k:Nat) (x y:Fp p):(gy m t k x y).length=t+1+(k+t):=by unfold gy; rw [bg,af,af,d8,d8]
theorem a05 {m:Fp p} {t k:Nat} {x y:Fp p} {j:Nat} (hj:j<t+1):(gy m t k x y)[j]? = some (ef m (j%(m.len-1)) y):=by
 unfold gy;rw [bi (by simpa using hj),cb,db hj]; rfl
theorem a19 {m:Fp p} {t k:Nat} {x y:Fp p} {j:Nat} (hj:j<k+t):(gy m t k x y)[t+1+j]? = some (0-ef m (j%(m.len-1)) x):=by
 unfold gy;rw [bj (by simp)]
 simp only [af,d8,Nat.add_sub_cancel_left];rw [cb,db hj]; rfl
theorem By {m:Fp p} {t k:Nat} {x y:Fp p} {j:Nat} {c:Fp p} (h:(gy m t k x y)[j]? = some c):(gy m t k x y).take (j+1)=(gy m t k x y).take j++[c]:=by
 obtain ⟨h1,h2⟩:=ao.1 h;rw [br h1,h2]
theorem a63 {m:Fp p} (hm:m≠0) {t k:Nat} {x y:Fp p} (hx:x.len<m.len) (hy:y.len<m.len):∀c∈gy m t k x y,c.len<m.len:=by
 intro c hc;unfold gy at hc;rcases bp.1 hc with hc | hc
 ·obtain ⟨j,_,rfl⟩:=cn.1 hc
  exact n7 hm _ _ hy
 ·obtain ⟨j,_,rfl⟩:=cn.1 hc
  have h1:=n7 (m:=m) hm (j%(m.len-1)) x hx;have h2:=Pol.len_sub_le (a:=(0:Fp p)) (b:=ef m (j%(m.len-1)) x) (n:=m.len-1) (by rw [Pol.len_zero]; omega) (by omega)
  omega
noncomputable def mj (m:Fp p) (t k:Nat) (xs ys:List (Fp p)):Tab p:=List.zipWith (gy m t k) xs ys
theorem pk {m:Fp p} {t k:Nat} {xs ys:List (Fp p)} (h:ys.length=xs.length):(mj m t k xs ys).length=xs.length:=by unfold mj; rw [List.length_zipWith]; omega
theorem Bo {m:Fp p} {t k:Nat} {xs ys:List (Fp p)} {i:Nat} (h1:i<xs.length) (h2:i<ys.length):(mj m t k xs ys).take (i+1)=(mj m t k xs ys).take i++[gy m t k xs[i] ys[i]]:=by
 have hl:i<(mj m t k xs ys).length:=by unfold mj; rw [List.length_zipWith]; omega
 rw [br hl];have e:(mj m t k xs ys)[i]=gy m t k xs[i] ys[i]:=List.getElem_zipWith;rw [e]
theorem Rq {m:Fp p} (hm:m≠0) {t k:Nat} {xs ys:List (Fp p)} (h:ys.length=xs.length) (hx:∀x∈xs,x.len<m.len) (hy:∀y∈ys,y.len<m.len):RM m xs.length (t+1+(k+t)) (mj m t k xs ys):=by
 refine ⟨pk h,fun Q hQ=>?_⟩
 obtain ⟨i,hi,rfl⟩:=List.mem_iff_getElem.1 hQ;unfold mj at hi ⊢;rw [List.length_zipWith] at hi;rw [List.getElem_zipWith];exact ⟨jz ..,a63 hm (hx _ (az _)) (hy _ (az _))⟩
theorem Ng {d:Fp p→D} {N:Tab p} {n:Nat} (hn:N.length=n):TbJ d (List.range n) (N.map fun Q=>Q.map d) N:=by
 subst hn;refine ⟨d8,fun j k r hj hk=>?_,fun k Q hk=>⟨k,?_,?_⟩⟩
 ·rw [ao] at hj hk
  obtain ⟨h1,h2⟩:=hj;obtain ⟨h3,h4⟩:=hk;rw [List.getElem_range] at h2 h4;omega
 ·exact db (ao.1 hk).1
 ·rw [cb,hk]; rfl
theorem Ak {m:Fp p} {w:Nat} {N:Tab p}:(G5 m w N).length=w:=by
 unfold G5 Cu
 split
 ·exact bt
 ·rw [af,d8]
theorem Jr {m:Fp p} (hm:m≠0) (h2:2≤m.len) {n w:Nat} {N:Tab p} (hN:RM m n w N):∀c∈G5 m w N,c.len<m.len:=by
 have h0:=Pol.len_pos hm;have hz:(0:Fp p).len<m.len:=by rw [Pol.len_zero]; omega
 obtain ⟨g1,-,-⟩:=Ev m hm w 0 N [] hN (Inc.nil 0) (fh _);intro c hc;unfold G5 Cu at hc
 split at hc
 ·obtain rfl:=(List.mem_replicate.1 hc).2
  exact hz
 ·obtain ⟨j,-,rfl⟩:=cn.1 hc
  split
  ·rename_i i _
   have h3:(((gau m w w 0 N []).1.getD i []).getD (frL 0 (gau m w w 0 N []).2) 0).len<m.len:=by
    rw [List.getD_eq_getElem?_getD (l:=(gau m w w 0 N []).1),List.getD_eq_getElem?_getD];cases hi:(gau m w w 0 N []).1[i]? with
    | none=>simpa using hz
    | some Q=>
     have:=(g1.2 Q (dl hi)).2;rw [Option.getD_some];cases hq:Q[frL 0 (gau m w w 0 N []).2]? with
     | none=>simpa using hz
     | some c=>exact this c (dl hq)
   have h4:=Pol.len_sub_le (a:=(0:Fp p)) (b:=((gau m w w 0 N []).1.getD i []).getD (frL 0 (gau m w w 0 N []).2) 0) (n:=m.len-1) (by rw [Pol.len_zero]; omega) (by omega)
   omega
  ·split
   ·rw [Pol.len_one]; omega
   ·exact hz
noncomputable def rq (m:Fp p) (t k:Nat) (xs ys:List (Fp p)):List (Fp p):=fl ((G5 m (t+1+(k+t)) (mj m t k xs ys)).take (t+1))
noncomputable def wu (m:Fp p) (t k:Nat) (xs ys:List (Fp p)):List (Fp p):=fl ((G5 m (t+1+(k+t)) (mj m t k xs ys)).drop (t+1))
noncomputable def yg (m:Fp p) (t k:Nat) (xs ys:List (Fp p)):List (Fp p)×List (Fp p):=pc true m (rq m t k xs ys) (wu m t k xs ys).length [] (wu m t k xs ys)
open Classical in
noncomputable def Dm (m:Fp p) (k:Nat) (xs ys:List (Fp p)):Option (List (Fp p)):=
 if rq m ((xs.length-k)/2) k xs ys=[]∨(yg m ((xs.length-k)/2) k xs ys).2≠[]∨k<(yg m ((xs.length-k)/2) k xs ys).1.length∨(xs.length-k)/2<(gd (dif (kq m (yg m ((xs.length-k)/2) k xs ys).1 xs) ys) []).length then none
 else some (yg m ((xs.length-k)/2) k xs ys).1
theorem a85 {O:am} (hf:sk O) {m:Fp p} (h2:2≤m.len) (hml:m.len≤64) {ys:List (Fp p)} {t k i:Nat} (ht:t<100000) (hi:i<ys.length) (hyl:∀y∈ys,y.len<m.len) {x:Fp p} {vo:V} {BO:Blk} (hv:vo.refs=[1]) {X:D} {n:Nat}:∀(r j:Nat) (cp:Option Nat),j+r=t+1→∃cp':Option Nat,
 dn O 0 (.loop ir_impl_field_decodet_L0) ⟨[(1,.d X),(2,(.d (.int .i64 k))),(3,.d (.sl .leaf (ys.map bf))),(4,.ptr 0 []),(10,(.d (.int .i64 t))),(11,vo),(12,(.d (.int .i64 i))),(13,.d (D.sl .leaf (aq .i64 (row x)))),(14,.sl 2 [] 0 j cp),(26,.d X),(27,(.d (.int .i64 n))),(28,(.d (.int .i64 i))),(34,(.d (.int .i64 (((t+1:Nat):Int))))),(35,(.d (.int .i64 j)))],[.box false (fw m),BO,.sl false .leaf (((gy m t k x ys[i]).take j).map bf),.hole,.hole,.hole,.hole,.hole,.hole]⟩ =
  some (.exit 2,⟨[(1,.d X),(2,(.d (.int .i64 k))),(3,.d (.sl .leaf (ys.map bf))),(4,.ptr 0 []),(10,(.d (.int .i64 t))),(11,vo),(12,(.d (.int .i64 i))),(13,.d (D.sl .leaf (aq .i64 (row x)))),(14,.sl 2 [] 0 (t+1) cp'),(26,.d X),(27,(.d (.int .i64 n))),(28,(.d (.int .i64 i))),(34,(.d (.int .i64 (((t+1:Nat):Int))))),(35,(.d (.int .i64 (((t+1:Nat):Int))))),(36,(.d (.bool false)))],[.box false (fw m),BO,.sl false .leaf (((gy m t k x ys[i]).take (t+1)).map bf),.hole,.hole,.hole,.hole,.hole,.hole]⟩)
 | 0,j,cp,hj=>by
  obtain rfl:j=t+1:=by omega
  refine ⟨cp,bu ?_⟩;generalize ((gy m t k x ys[i]).take (t+1)).map bf=RD at *;generalize ys.map bf=YD at *;have hfd:∀a:Fp p,fw a=.st [.leaf,.leaf] [.int .i64 p,(D.sl .leaf (aq .i64 (row a)))]:=fun _=>rfl
  generalize row x=Px,row m=Pm at *;simp -implicitDefEqProofs [ir_impl_field_decodet_L0,ap,hv]
 | r+1,j,cp,hj=>by
  have hlt:j<t+1:=by omega
  have hli:(j:Int)<((t+1:Nat):Int):=by omega
  have hy:=hyl _ (az hi);have e1:=hf p m ys[i] j h2 hml (by omega) (by omega)
  have hYL:i<(ys.map bf).length:=by rw [af]; exact hi
  have hYi:∀h:i<(ys.map bf).length,(ys.map bf)[i]'h=(D.sl .leaf (aq .i64 (row ys[i]))):=fun h=>by rw [bb]
  have w4:=wi j;have h24:(j+1)*24≤1099511627776:=by omega
  have htk:((gy m t k x ys[i]).take (j+1)).map bf=((gy m t k x ys[i]).take j).map bf++[(D.sl .leaf (aq .i64 (row (ef m (j%(m.len-1)) ys[i]))))]:=by rw [By (a05 hlt),cj]; rfl
  have hL:(((gy m t k x ys[i]).take j).map bf).length=j:=by rw [af,b8,jz]; omega
  have htt:(((gy m t k x ys[i]).take j).map bf).take j=((gy m t k x ys[i]).take j).map bf:=aw (by omega)
  obtain ⟨cp',ih⟩:=a85 hf h2 hml ht hi hyl hv (x:=x) (X:=X) (n:=n) (k:=k) r (j+1) none (by omega)
  refine ⟨cp',bn ?_ ih⟩;rw [htk];generalize row (ef m (j%(m.len-1)) ys[i])=Qi at *;generalize row ys[i]=Ri at *;generalize ((gy m t k x ys[i]).take j).map bf=TD at *;generalize ys.map bf=YD at *;have hfd:∀a:Fp p,fw a=.st [.leaf,.leaf] [.int .i64 p,(D.sl .leaf (aq .i64 (row a)))]:=fun _=>rfl
  generalize ((t+1:Nat):Int)=t1,row x=Px,row m=Pm at *;simp -implicitDefEqProofs [ir_impl_field_decodet_L0,ap,hli,hYL,hYi,e1,h24,hL,htt,w4,hv,List.replicate]
theorem a5n {O:am} (hf:sk O) (hng:Jx O) {m:Fp p} (hm:m≠0) (h2:2≤m.len) (hml:m.len≤64) {t k i:Nat} (ht:t<100000) (hk:k<100000) {x y:Fp p} (hx:x.len<m.len) {vo:V} {BO:Blk} (hv:vo.refs=[1]) {X Y:D} {n:Nat}:∀(r j:Nat) (cp:Option Nat),j+r=k+t→∃cp':Option Nat,
 dn O 0 (.loop ir_impl_field_decodet_L1) ⟨[(1,.d X),(2,(.d (.int .i64 k))),(3,.d Y),(4,.ptr 0 []),(10,(.d (.int .i64 t))),(11,vo),(13,.d (D.sl .leaf (aq .i64 (row x)))),(14,.sl 2 [] 0 (t+1+j) cp),(26,.d X),(27,(.d (.int .i64 n))),(28,(.d (.int .i64 i))),(51,(.d (.int .i64 (((k+t:Nat):Int))))),(52,(.d (.int .i64 j)))],[.box false (fw m),BO,.sl false .leaf (((gy m t k x y).take (t+1+j)).map bf),.hole,.hole,.hole,.hole,.hole,.hole]⟩ =
  some (.exit 4,⟨[(1,.d X),(2,(.d (.int .i64 k))),(3,.d Y),(4,.ptr 0 []),(10,(.d (.int .i64 t))),(11,vo),(13,.d (D.sl .leaf (aq .i64 (row x)))),(14,.sl 2 [] 0 (t+1+(k+t)) cp'),(26,.d X),(27,(.d (.int .i64 n))),(28,(.d (.int .i64 i))),(51,(.d (.int .i64 (((k+t:Nat):Int))))),(52,(.d (.int .i64 (((k+t:Nat):Int))))),(53,(.d (.bool false)))],[.box false (fw m),BO,.sl false .leaf ((gy m t k x y).map bf),.hole,.hole,.hole,.hole,.hole,.hole]⟩)
 | 0,j,cp,hj=>by
  obtain rfl:j=k+t:=by omega
  refine ⟨cp,bu ?_⟩;rw [aw (by rw [jz]; exact ba _)]
  generalize (gy m t k x y).map bf=RD at *;have hfd:∀a:Fp p,fw a=.st [.leaf,.leaf] [.int .i64 p,(D.sl .leaf (aq .i64 (row a)))]:=fun _=>rfl
  generalize ((k+t:Nat):Int)=kt,row x=Px,row m=Pm at *;simp -implicitDefEqProofs [ir_impl_field_decodet_L1,ap,hv]
 | r+1,j,cp,hj=>by
  have hlt:j<k+t:=by omega
  have hli:(j:Int)<((k+t:Nat):Int):=by omega
  have e1:=hf p m x j h2 hml (by omega) (by omega)
  have hfl:=n7 (m:=m) hm (j%(m.len-1)) x hx;have e2:=hng p (ef m (j%(m.len-1)) x) (by omega)
  have w4:=wi j;have h24:(t+1+j+1)*24≤1099511627776:=by omega
  have htk:((gy m t k x y).take (t+1+(j+1))).map bf=((gy m t k x y).take (t+1+j)).map bf++[(D.sl .leaf (aq .i64 (row (0-ef m (j%(m.len-1)) x))))]:=by rw [←fm (t+1) j 1,By (a19 hlt),cj]; rfl
  have hL:(((gy m t k x y).take (t+1+j)).map bf).length=t+1+j:=by rw [af,b8,jz]; omega
  have htt:(((gy m t k x y).take (t+1+j)).map bf).take (t+1+j)=((gy m t k x y).take (t+1+j)).map bf:=aw (by omega)
  obtain ⟨cp',ih⟩:=a5n hf hng hm h2 hml ht hk hx hv (y:=y) (X:=X) (Y:=Y) (n:=n) (i:=i) r (j+1) none (by omega)
  refine ⟨cp',bn ?_ ih⟩;rw [htk];generalize ((gy m t k x y).take (t+1+j)).map bf=TD,row (ef m (j%(m.len-1)) x)=Qi,row (0-ef m (j%(m.len-1)) x)=Q2 at *;have hfd:∀a:Fp p,fw a=.st [.leaf,.leaf] [.int .i64 p,(D.sl .leaf (aq .i64 (row a)))]:=fun _=>rfl
  generalize ((k+t:Nat):Int)=kt,row x=Px,row m=Pm at *;rw [←fm (t+1) j 1];generalize t+1+j=tj at *;simp -implicitDefEqProofs [ir_impl_field_decodet_L1,ap,hli,e1,e2,h24,hL,htt,w4,hv,List.replicate]
end
section
variable {p:Int} [IsP p]
noncomputable abbrev dlS (m:Fp p) (t k:Nat) (xs ys:List (Fp p)) (i:Nat) (vo:V) (BO:Blk) (l:List (Nat×V)):St:=
 ⟨[(1,.d (.sl .leaf (xs.map bf))),(2,(.d (.int .i64 k))),(3,.d (.sl .leaf (ys.map bf))),(4,.ptr 0 []),(10,(.d (.int .i64 t))),(11,vo),(26,.d (.sl .leaf (xs.map bf))),(27,(.d (.int .i64 xs.length))),(28,(.d (.int .i64 i)))]++l,[.box false (fw m),BO,.hole,.hole,.hole,.hole,.hole,.hole,.hole]⟩
theorem a8w {O:am} (hf:sk O) (hng:Jx O) {m:Fp p} (hm:m≠0) (h2:2≤m.len) (hml:m.len≤64) {xs ys:List (Fp p)} {t k:Nat} (ht:t<100000) (hk:k<100000) (hyl:∀y∈ys,y.len<m.len) (hxl:∀x∈xs,x.len<m.len) (hxy:ys.length=xs.length) (hn:xs.length<100000):∀(r i:Nat) (co:Option Nat),i+1+r=xs.length→∃co':Option Nat,
 dn O 0 (.loop ir_impl_field_decodet_L2) (dlS m t k xs ys (i+1) (.sl 1 [0] 0 (i+1) co) (.tb false .leaf (List.range (i+1)) (((mj m t k xs ys).take (i+1)).map fun Q=>Q.map bf)) []) =
  some (.exit 0,dlS m t k xs ys xs.length (.sl 1 [0] 0 xs.length co') (.tb false .leaf (List.range xs.length) ((mj m t k xs ys).map fun Q=>Q.map bf)) [(29,(.d (.bool false)))])
 | 0,i,co,hi=>by
  rw [show i+1=xs.length by omega,aw (by rw [pk hxy]; exact ba _)]
  refine ⟨co,bu ?_⟩;have hXL:(xs.map bf).length=xs.length:=af ..;simp only [dlS,cz,cw];generalize ys.map bf=YD,xs.map bf=XD,List.range xs.length=IX,(mj m t k xs ys).map (fun Q=>Q.map bf)=RD at *
  have hfd:∀a:Fp p,fw a=.st [.leaf,.leaf] [.int .i64 p,(D.sl .leaf (aq .i64 (row a)))]:=fun _=>rfl
  generalize row m=Pm at *;simp -implicitDefEqProofs [ir_impl_field_decodet_L2,ap]
 | r+1,i,co,hi=>by
  have hlt:i+1<xs.length:=by omega
  have hlty:i+1<ys.length:=by omega
  have hli:((i+1:Nat):Int)<xs.length:=by omega
  have hx:=hxl _ (az hlt);have e00:((0:Nat):Int)=0:=rfl;obtain ⟨c1,e1⟩:=a85 (O:=O) hf h2 hml (t:=t) (k:=k) (i:=i+1) ht hlty hyl (x:=xs[i+1]) (vo:=.sl 1 [0] 0 (i+1) co) (BO:=.tb false .leaf (List.range (i+1)) (((mj m t k xs ys).take (i+1)).map fun Q=>Q.map bf)) rfl (X:=.sl .leaf (xs.map bf)) (n:=xs.length) (t+1) 0 (some 0) (b9 _)
  obtain ⟨c2,e2⟩:=a5n (O:=O) hf hng hm h2 hml (t:=t) (k:=k) (i:=i+1) ht hk (y:=ys[i+1]) hx (vo:=.sl 1 [0] 0 (i+1) co) (BO:=.tb false .leaf (List.range (i+1)) (((mj m t k xs ys).take (i+1)).map fun Q=>Q.map bf)) rfl (X:=.sl .leaf (xs.map bf)) (Y:=.sl .leaf (ys.map bf)) (n:=xs.length) (k+t) 0 c1 (b9 _)
  rw [e00,cx,fa] at e1;rw [e00,show t+1+0=t+1 from rfl] at e2;have hXL:(xs.map bf).length=xs.length:=af ..;have hXi:∀h:i+1<(xs.map bf).length,(xs.map bf)[i+1]'h=(D.sl .leaf (aq .i64 (row xs[i+1]))):=fun h=>by rw [bb]
  have w1:=wi t;have w2:IntKind.i64.wrap ((k:Int)+t)=((k+t:Nat):Int):=wt;have w4:IntKind.i64.wrap (((i+1:Nat):Int)+1)=((i+1+1:Nat):Int):=wt;have h24:(i+1+1)*24≤1099511627776:=by omega
  have htk:((mj m t k xs ys).take (i+1+1)).map (fun Q=>Q.map bf)=((mj m t k xs ys).take (i+1)).map (fun Q=>Q.map bf)++[(gy m t k xs[i+1] ys[i+1]).map bf]:=by rw [Bo hlt hlty,cj]; rfl
  have hL:(((mj m t k xs ys).take (i+1)).map fun Q=>Q.map bf).length=i+1:=by rw [af,b8,pk hxy]; omega
  have hRL:((gy m t k xs[i+1] ys[i+1]).map bf).length=t+1+(k+t):=by rw [af,jz]
  have hRg:List.range (i+1+1)=List.range (i+1)++[i+1]:=List.range_succ;have hRl:(List.range (i+1)).length=i+1:=d8;have hwp:0<t+1+(k+t):=by omega
  obtain ⟨co',ih⟩:=a8w hf hng hm h2 hml ht hk hyl hxl hxy hn r (i+1) none (by omega)
  refine ⟨co',bn ?_ ih⟩;rw [htk,hRg];simp only [dlS,cz,cw] at *;generalize ((mj m t k xs ys).take (i+1)).map (fun Q=>Q.map bf)=TD at *
  generalize ((gy m t k xs[i+1] ys[i+1]).take (t+1)).map bf=TR at *;generalize (gy m t k xs[i+1] ys[i+1]).map bf=QD at *;generalize row xs[i+1]=Px at *;generalize ys.map bf=YD,xs.map bf=XD at *;clear hx htk;generalize List.range (i+1)=IX,xs.length=xl at *;have hfd:∀a:Fp p,fw a=.st [.leaf,.leaf] [.int .i64 p,(D.sl .leaf (aq .i64 (row a)))]:=fun _=>rfl
  generalize t+1+(k+t)=ww,((t+1:Nat):Int)=t1,((k+t:Nat):Int)=kt,i+1=i1,((i+1+1:Nat):Int)=z2,row m=Pm at *;simp -implicitDefEqProofs [ir_impl_field_decodet_L2,ap,hlt,hli,hXL,hXi,e1,e2,h24,hL,hRL,hRl,hwp,w1,w2,w4]
theorem a9r {O:am} (hf:sk O) (hng:Jx O) {m:Fp p} (hm:m≠0) (h2:2≤m.len) (hml:m.len≤64) {xs ys:List (Fp p)} {t k:Nat} (ht:t<100000) (hk:k<100000) (hyl:∀y∈ys,y.len<m.len) (hxl:∀x∈xs,x.len<m.len) (hxy:ys.length=xs.length) (hn:xs.length<100000) (hpos:0<xs.length):∃co':Option Nat,
 dn O 0 (.loop ir_impl_field_decodet_L2) (dlS m t k xs ys 0 (.sl 1 [] 0 0 (some 0)) (.sl false .leaf []) []) =
  some (.exit 0,dlS m t k xs ys xs.length (.sl 1 [0] 0 xs.length co') (.tb false .leaf (List.range xs.length) ((mj m t k xs ys).map fun Q=>Q.map bf)) [(29,(.d (.bool false)))]):=by
 have hlty:0<ys.length:=by omega
 have hli:(0:Int)<xs.length:=by omega
 have hx:=hxl _ (az hpos);have e00:((0:Nat):Int)=0:=rfl;obtain ⟨c1,e1⟩:=a85 (O:=O) hf h2 hml (t:=t) (k:=k) (i:=0) ht hlty hyl (x:=xs[0]) (vo:=.sl 1 [] 0 0 (some 0)) (BO:=.sl false .leaf []) rfl (X:=.sl .leaf (xs.map bf)) (n:=xs.length) (t+1) 0 (some 0) (b9 _);obtain ⟨c2,e2⟩:=a5n (O:=O) hf hng hm h2 hml (t:=t) (k:=k) (i:=0) ht hk (y:=ys[0]) hx (vo:=.sl 1 [] 0 0 (some 0)) (BO:=.sl false .leaf []) rfl (X:=.sl .leaf (xs.map bf)) (Y:=.sl .leaf (ys.map bf)) (n:=xs.length) (k+t) 0 c1 (b9 _);rw [e00,cx,fa] at e1;rw [e00,show t+1+0=t+1 from rfl] at e2;have hXL:(xs.map bf).length=xs.length:=af ..;have hXi:∀h:0<(xs.map bf).length,(xs.map bf)[0]'h=(D.sl .leaf (aq .i64 (row xs[0]))):=fun h=>by rw [bb]
 have w1:=wi t;have w2:IntKind.i64.wrap ((k:Int)+t)=((k+t:Nat):Int):=wt;have hRL:((gy m t k xs[0] ys[0]).map bf).length=t+1+(k+t):=by rw [af,jz]
 have hwp:0<t+1+(k+t):=by omega
 obtain ⟨co',ih⟩:=a8w (O:=O) hf hng hm h2 hml (t:=t) (k:=k) ht hk hyl hxl hxy hn (xs.length-1) 0 none (by omega)
 have htk:((mj m t k xs ys).take (0+1)).map (fun Q=>Q.map bf)=[(gy m t k xs[0] ys[0]).map bf]:=by rw [Bo hpos hlty,cj]; rfl
 rw [htk] at ih;refine ⟨co',bn ?_ ih⟩;simp only [dlS,cz,cw] at *;generalize ((gy m t k xs[0] ys[0]).take (t+1)).map bf=TR at *;generalize (gy m t k xs[0] ys[0]).map bf=QD at *;generalize row xs[0]=Px at *;generalize ys.map bf=YD,xs.map bf=XD at *;clear hx htk;generalize xs.length=xl at *;have hfd:∀a:Fp p,fw a=.st [.leaf,.leaf] [.int .i64 p,(D.sl .leaf (aq .i64 (row a)))]:=fun _=>rfl
 generalize t+1+(k+t)=ww,((t+1:Nat):Int)=t1,((k+t:Nat):Int)=kt,row m=Pm at *;simp -implicitDefEqProofs [ir_impl_field_decodet_L2,ap,hpos,hXL,hXi,e1,e2,hRL,hwp,w1,w2,w64]
end
def En (O:am):Prop:=∀(p:Int) [IsP p] (m:Fp p) (k:Nat) (xs ys:List (Fp p)),Fld m→1≤k→k≤xs.length→xs.length≤4→ys.length=xs.length→(∀x∈xs,x.len<m.len)→(∀y∈ys,y.len<m.len) →
 ask O Fg [fw m,.sl .leaf (xs.map bf),(D.int .i64 k),.sl .leaf (ys.map bf)]=some (match Dm m k xs ys with
  | some q=>.tup [skD q,.bool true]
  | none=>.tup [.sl .leaf [],.bool false])
theorem a4o (hT:T Fg=some ir_impl_field_decodet) (hf:sk (den T A)) (hsc:sy (den T A)) (hso:Cv (den T A)) (htr:A4 (den T A)) (hdv:a6j (den T A) Fh true) (hva:Mg (den T A)) (hdi:Df (den T A)):En (den T A):=by
 intro p ip m k xs ys hm hk1 hkn hn4 hxy hxl hyl;have h2:=hm.two;have hml:=hm.five;have hm0:=hm.mon.2;have hng:=acz hsc
 have htd:((xs.length:Int)-k).tdiv 2=(((xs.length-k)/2:Nat):Int):=by
  rw [show (xs.length:Int)-k=((xs.length-k:Nat):Int) by omega]; rfl
 have w0:IntKind.i64.wrap ((xs.length:Int)-k)=(xs.length:Int)-k:=wt;have w9:IntKind.i64.wrap ((((xs.length-k)/2:Nat):Int))=(((xs.length-k)/2:Nat):Int):=wt;obtain ⟨co,e1⟩:=a9r (O:=den T A) hf hng hm0 h2 (by omega) (xs:=xs) (ys:=ys) (t:=(xs.length-k)/2) (k:=k) (by omega) (by omega) hyl hxl hxy (by omega) (by omega)
 have hRM:=Rq hm0 (t:=(xs.length-k)/2) (k:=k) hxy hxl hyl;obtain ⟨IX',RR',e2⟩:=hso p m xs.length ((xs.length-k)/2+1+(k+(xs.length-k)/2)) (mj m ((xs.length-k)/2) k xs ys) co (List.range xs.length) ((mj m ((xs.length-k)/2) k xs ys).map fun Q=>Q.map bf) hm (by omega) (by omega) (by omega) hRM (Ng (pk hxy))
 have hFl:=Ak (m:=m) (w:=(xs.length-k)/2+1+(k+(xs.length-k)/2)) (N:=mj m ((xs.length-k)/2) k xs ys);have hFr:=Jr hm0 h2 hRM;have w1:IntKind.i64.wrap ((((xs.length-k)/2:Nat):Int)+1)=(((xs.length-k)/2+1:Nat):Int):=wt;have ht2:(xs.length-k)/2≤2:=by omega
 have hFr':=hFr;generalize hF:G5 m ((xs.length-k)/2+1+(k+(xs.length-k)/2)) (mj m ((xs.length-k)/2) k xs ys)=F at *;have hdV:rq m ((xs.length-k)/2) k xs ys=fl (F.take ((xs.length-k)/2+1)):=by rw [←hF]; rfl
 have hdU:wu m ((xs.length-k)/2) k xs ys=fl (F.drop ((xs.length-k)/2+1)):=by rw [←hF]; rfl
 have hFD:(F.map bf).length=(xs.length-k)/2+1+(k+(xs.length-k)/2):=by rw [af]; exact hFl
 have e3:=htr p (F.take ((xs.length-k)/2+1)) (by rw [b8]; omega)
 have e4:=htr p (F.drop ((xs.length-k)/2+1)) (by rw [ec]; omega)
 rw [←hdV,skD,List.map_take] at e3;rw [←hdU,skD,List.map_drop] at e4
 have hSV:Sk m (rq m ((xs.length-k)/2) k xs ys):=by
  rw [hdV];refine ⟨jg _,?_,fun c hc=>hFr c (fc (fc (by unfold fl at hc; exact hc)))⟩
  have:=lf (F.take ((xs.length-k)/2+1));rw [b8] at this;omega
 have hSU:Sk m (wu m ((xs.length-k)/2) k xs ys):=by
  rw [hdU];refine ⟨jg _,?_,fun c hc=>hFr c (List.mem_of_mem_drop (fc (by unfold fl at hc; exact hc)))⟩
  have:=lf (F.drop ((xs.length-k)/2+1));rw [ec] at this;omega
 have hkk:(xs.length-k)/2+1≤(xs.length-k)/2+1+(k+(xs.length-k)/2):=by omega
 have hdt:((F.map bf).drop ((xs.length-k)/2+1)).take ((xs.length-k)/2+1+(k+(xs.length-k)/2)-((xs.length-k)/2+1))=(F.map bf).drop ((xs.length-k)/2+1):=aw (by rw [ec,hFD]; exact ba _)
 unfold Dm;have hdQ:yg m ((xs.length-k)/2) k xs ys=pc true m (rq m ((xs.length-k)/2) k xs ys) (wu m ((xs.length-k)/2) k xs ys).length [] (wu m ((xs.length-k)/2) k xs ys):=rfl
 have hsp:∀Q:List (Fp p),(∀c∈Q,c.len<m.len)→Q.length<100000→ask (den T A) Fr [fw m,skD Q,.sl .leaf (xs.map bf)]=some (.sl .leaf ((kq m Q xs).map bf))∧ask (den T A) F12 [(D.int .i64 p),.sl .leaf ((kq m Q xs).map bf),.sl .leaf (ys.map bf)]=some (D.int .i64 ((gd (dif (kq m Q xs) ys) []).length)):=fun Q hQ hQl=>
  ⟨hva p m Q xs h2 (by omega) hQl (fun c hc=>by have:=hQ c hc; omega) (by omega) (fun x hx=>by have:=hxl x hx; omega),
   hdi p (kq m Q xs) ys (by rw [k9]; exact hxy.symm) (by rw [k9]; omega) (fun x hx=>by have:=Uh hm0 Q xs x hx; omega) (fun y hy=>by have:=hyl y hy; omega)⟩
 refine c9 hT rfl ?_;have e00:((0:Nat):Int)=0:=rfl;simp only [dlS,cz,cw,e00] at e1;have hXL:(xs.map bf).length=xs.length:=af ..;generalize (xs.length-k)/2=t at *;have hti:(0:Int)≤(t:Nat):=by omega
 generalize hX:xs.map bf=XD at *;generalize hY:ys.map bf=YD at *;generalize F.map bf=FD,List.range xs.length=IX,(mj m t k xs ys).map (fun Q=>Q.map bf)=MD at *
 have hfd:∀a:Fp p,fw a=.st [.leaf,.leaf] [.int .i64 p,(D.sl .leaf (aq .i64 (row a)))]:=fun _=>rfl
 have hn0:xs.length≠0:=by omega
 have hki:(k:Int)≤xs.length:=by omega
 by_cases hV:rq m t k xs ys=[]
 ·rw [if_pos (.inl hV)]
  rw [hV] at e3
  change _=some (D.sl .leaf []) at e3
  clear hRM hSV hSU hdV hdU hdQ hFr hFr' hsp hV hF e4 hdt hxl hyl hxy hkn;generalize xs.length=xl,row m=Pm at *;generalize hww:t+1+(k+t)=ww at *;generalize t+1=t1 at *;simp -implicitDefEqProofs [ir_impl_field_decodet,ir_impl_field_decodet_B,ap,hXL,w0,htd,w9,w1,e1,e2,e3,hFD,hkk,List.replicate,List.idxOf,List.findIdx,List.findIdx.go]
 ·have hV1:1≤(rq m t k xs ys).length:=by
   cases hq:rq m t k xs ys with
   | nil=>exact absurd hq hV
   | cons=>simp
  have e5:=hdv p m (wu m t k xs ys) (rq m t k xs ys) hm hSU hSV hV1;have hok:=J5 true hm hSV hV1 (wu m t k xs ys).length [] (wu m t k xs ys) (ba _) (Sk.nil m) hSU;rw [←hdQ] at e5 hok;obtain ⟨hQs,hRs,-⟩:=hok;obtain ⟨e6,e7⟩:=hsp (yg m t k xs ys).1 hQs.res (by have:=hQs.eight; omega)
  have hVD:((rq m t k xs ys).map fun c=>(D.sl .leaf (aq .i64 (row c)))).length≠0:=by rw [af]; omega
  have hVi:¬ ((((rq m t k xs ys).map fun c=>(D.sl .leaf (aq .i64 (row c)))).length:Nat):Int)=0:=by omega
  have hQL:((yg m t k xs ys).1.map fun c=>(D.sl .leaf (aq .i64 (row c)))).length=(yg m t k xs ys).1.length:=af ..
  have hRL:((yg m t k xs ys).2.map fun c=>(D.sl .leaf (aq .i64 (row c)))).length=(yg m t k xs ys).2.length:=af ..
  simp only [skD] at e3 e4 e5 e6;simp only [hV,false_or];clear hRM hSV hSU hdV hdU hdQ hFr hFr' hsp hV hF hxl hyl hxy hkn hQs hRs hV1;generalize ((wu m t k xs ys).map fun c=>(D.sl .leaf (aq .i64 (row c))))=UD,((rq m t k xs ys).map fun c=>(D.sl .leaf (aq .i64 (row c))))=VD at *
  generalize hQ:(yg m t k xs ys).1=Q at *;generalize hR:(yg m t k xs ys).2=R at *;generalize (kq m Q xs).map bf=VL,(gd (dif (kq m Q xs) ys) []).length=sp at *;generalize hRD:(R.map fun c=>(D.sl .leaf (aq .i64 (row c))))=RD at *
  have hfin:∀b:Prop,[Decidable b]→(match (if b then none else some Q) with
   | some q=>D.tup [skD q,D.bool true]
   | none=>D.tup [D.sl .leaf [],D.bool false])=if b then D.tup [D.sl .leaf [],D.bool false] else D.tup [skD Q,D.bool true]:=by
   intro b _
   split <;> split <;> simp_all
  rw [hfin];clear hfin;simp only [skD];generalize xs.length=xl,row m=Pm,(Q.map fun c=>(D.sl .leaf (aq .i64 (row c))))=QD at *
  generalize hww:t+1+(k+t)=ww at *;generalize t+1=t1 at *;have hVn:VD≠[]:=fun h=>hVD (by rw [h]; rfl)
  by_cases hR0:R=[]
  ·subst hR0
   obtain rfl:RD=[]:=hRD.symm;clear hRL
   by_cases hQk:k<Q.length
   ·have hQi:(k:Int)<Q.length:=by omega
    rw [if_pos (.inr (.inl hQk))];simp -implicitDefEqProofs [ir_impl_field_decodet,ir_impl_field_decodet_B,ap,hXL,w0,htd,w9,w1,e1,e2,e3,e4,e5,hFD,hkk,hdt,hVn,hQL,hQi,List.replicate,List.idxOf,List.findIdx,List.findIdx.go]
   ·by_cases hsp:t<sp
    ·rw [if_pos (.inr (.inr hsp))]
     simp -implicitDefEqProofs [ir_impl_field_decodet,ir_impl_field_decodet_B,ap,hXL,w0,htd,w9,w1,e1,e2,e3,e4,e5,hFD,hkk,hdt,hVn,hQL,hQk,e6,e7,hsp,List.replicate,List.idxOf,List.findIdx,List.findIdx.go]
    ·rw [if_neg (by simp only [ne_eq,not_true_eq_false,false_or]; omega)]
     simp -implicitDefEqProofs [ir_impl_field_decodet,ir_impl_field_decodet_B,ap,hXL,w0,htd,w9,w1,e1,e2,e3,e4,e5,hFD,hkk,hdt,hVn,hQL,hQk,e6,e7,hsp,List.replicate,List.idxOf,List.findIdx,List.findIdx.go]
  ·rw [if_pos (.inl hR0)]
   have hRp:0<R.length:=kv.2 hR0;have hRi:(0:Int)<R.length:=by omega
   simp -implicitDefEqProofs [ir_impl_field_decodet,ir_impl_field_decodet_B,ap,hXL,w0,htd,w9,w1,e1,e2,e3,e4,e5,hFD,hkk,hdt,hVn,hRL,hRp,List.replicate,List.idxOf,List.findIdx,List.findIdx.go]
section
variable {p:Int} [IsP p]
theorem a7a {O:am} (hf:p8 O) {m:Fp p} (h2:2≤m.len) (hml:m.len≤64) {ys:List (Fp p)} {t k i w n:Nat} (ht:t<100000) (hi:i<ys.length) (hyl:∀y∈ys,y.len<m.len) {x:Fp p} {vo:V} {BO:Blk} (hv:vo.refs=[2]) {X ZD:D}:∀(r j:Nat) (cp:Option Nat),j+r=t+1→∃cp':Option Nat,
 dn O 0 (.loop ir_spec_l09Decodet_L0) ⟨[(0,(.d (.int .i64 p))),(2,.d X),(3,(.d (.int .i64 k))),(4,.d (.sl (.arr 64 .leaf) (ys.map bo))),(6,.ptr 0 []),(10,.ptr 1 []),(12,(.d (.int .i64 n))),(13,(.d (.int .i64 t))),(14,vo),(15,(.d (.int .i64 w))),(16,(.d (.int .i64 i))),(17,.sl 3 [] 0 j cp),(18,(.d (.int .i64 j)))],[.box false (D.arr 64 .leaf (aq .u8 (pad (row m)))),.box false ZD,BO,.sl false (.arr 64 .leaf) (((gy m t k x ys[i]).take j).map bo),.hole,.hole,.hole,.hole,.hole,.hole,.hole,.hole,.hole,.hole]⟩ =
  some (.exit 2,⟨[(0,(.d (.int .i64 p))),(2,.d X),(3,(.d (.int .i64 k))),(4,.d (.sl (.arr 64 .leaf) (ys.map bo))),(6,.ptr 0 []),(10,.ptr 1 []),(12,(.d (.int .i64 n))),(13,(.d (.int .i64 t))),(14,vo),(15,(.d (.int .i64 w))),(16,(.d (.int .i64 i))),(17,.sl 3 [] 0 (t+1) cp'),(18,(.d (.int .i64 (((t+1:Nat):Int))))),(46,(.d (.bool false)))],[.box false (D.arr 64 .leaf (aq .u8 (pad (row m)))),.box false ZD,BO,.sl false (.arr 64 .leaf) (((gy m t k x ys[i]).take (t+1)).map bo),.hole,.hole,.hole,.hole,.hole,.hole,.hole,.hole,.hole,.hole]⟩)
 | 0,j,cp,hj=>by
  obtain rfl:j=t+1:=by omega
  refine ⟨cp,bu ?_⟩;have hn:¬ ((t+1:Nat):Int)≤t:=by omega
  generalize ((gy m t k x ys[i]).take (t+1)).map bo=RD at *;generalize ((t+1:Nat):Int)=t1,pad (row m)=Pm,ys.map bo=YD at *;simp -implicitDefEqProofs [ir_spec_l09Decodet_L0,ap,hv,hn]
 | r+1,j,cp,hj=>by
  have hlt:j≤t:=by omega
  have hli:(j:Int)≤t:=by omega
  have hy:=hyl _ (az hi);have e1:=hf p m ys[i] j h2 hml (by omega) (by omega)
  have hYL:i<(ys.map bo).length:=by rw [af]; exact hi
  have hYi:∀h:i<(ys.map bo).length,(ys.map bo)[i]'h=(D.arr 64 .leaf (aq .u8 (pad (row ys[i])))):=fun h=>by rw [bb]
  have w4:=wi j;have h24:(j+1)*64≤1099511627776:=by omega
  have htk:((gy m t k x ys[i]).take (j+1)).map bo=((gy m t k x ys[i]).take j).map bo++[(D.arr 64 .leaf (aq .u8 (pad (row (ef m (j%(m.len-1)) ys[i])))))]:=by rw [By (a05 (by omega)),cj]; rfl
  have hL:(((gy m t k x ys[i]).take j).map bo).length=j:=by rw [af,b8,jz]; omega
  have htt:(((gy m t k x ys[i]).take j).map bo).take j=((gy m t k x ys[i]).take j).map bo:=aw (by omega)
  obtain ⟨cp',ih⟩:=a7a hf h2 hml ht hi hyl hv (x:=x) (X:=X) (ZD:=ZD) (n:=n) (w:=w) (k:=k) r (j+1) none (by omega)
  refine ⟨cp',bn ?_ ih⟩;rw [htk];generalize pad (row (ef m (j%(m.len-1)) ys[i]))=Qi at *;generalize pad (row ys[i])=Ri at *;generalize ((gy m t k x ys[i]).take j).map bo=TD at *;generalize ((t+1:Nat):Int)=t1,pad (row m)=Pm,ys.map bo=YD at *;simp -implicitDefEqProofs [ir_spec_l09Decodet_L0,ap,hli,hYL,hYi,e1,h24,hL,htt,w4,hv,List.replicate]
theorem a6o {O:am} (hf:p8 O) (hsb:si O) {m:Fp p} (hm:m≠0) (h2:2≤m.len) (hml:m.len≤64) {xs:List (Fp p)} {t k i w n:Nat} (ht:t<100000) (hk:k<100000) (hi:i<xs.length) (hxl:∀x∈xs,x.len<m.len) {y:Fp p} {vo:V} {BO:Blk} (hv:vo.refs=[2]) {Y ZD:D}:∀(r j:Nat) (cp:Option Nat),j+r=k+t→∃cp':Option Nat,
 dn O 0 (.loop ir_spec_l09Decodet_L1) ⟨[(0,(.d (.int .i64 p))),(2,.d (.sl (.arr 64 .leaf) (xs.map bo))),(3,(.d (.int .i64 k))),(4,.d Y),(6,.ptr 0 []),(10,.ptr 1 []),(12,(.d (.int .i64 n))),(13,(.d (.int .i64 t))),(14,vo),(15,(.d (.int .i64 w))),(16,(.d (.int .i64 i))),(17,.sl 3 [] 0 (t+1+j) cp),(19,(.d (.int .i64 j)))],[.box false (D.arr 64 .leaf (aq .u8 (pad (row m)))),.box false ZD,BO,.sl false (.arr 64 .leaf) (((gy m t k xs[i] y).take (t+1+j)).map bo),.hole,.hole,.hole,.hole,.hole,.hole,.hole,.hole,.hole,.hole]⟩ =
  some (.exit 4,⟨[(0,(.d (.int .i64 p))),(2,.d (.sl (.arr 64 .leaf) (xs.map bo))),(3,(.d (.int .i64 k))),(4,.d Y),(6,.ptr 0 []),(10,.ptr 1 []),(12,(.d (.int .i64 n))),(13,(.d (.int .i64 t))),(14,vo),(15,(.d (.int .i64 w))),(16,(.d (.int .i64 i))),(17,.sl 3 [] 0 (t+1+(k+t)) cp'),(19,(.d (.int .i64 (((k+t:Nat):Int))))),(64,(.d (.bool false)))],[.box false (D.arr 64 .leaf (aq .u8 (pad (row m)))),.box false ZD,BO,.sl false (.arr 64 .leaf) ((gy m t k xs[i] y).map bo),.hole,.hole,.hole,.hole,.hole,.hole,.hole,.hole,.hole,.hole]⟩)
 | 0,j,cp,hj=>by
  obtain rfl:j=k+t:=by omega
  refine ⟨cp,bu ?_⟩;rw [aw (by rw [jz]; exact ba _)]
  have w2:IntKind.i64.wrap ((k:Int)+t)=((k+t:Nat):Int):=wt;generalize (gy m t k xs[i] y).map bo=RD at *;generalize ((k+t:Nat):Int)=kt,pad (row m)=Pm,xs.map bo=XD at *;simp -implicitDefEqProofs [ir_spec_l09Decodet_L1,ap,hv,w2]
 | r+1,j,cp,hj=>by
  have hlt:j<k+t:=by omega
  have hli:(j:Int)<((k+t:Nat):Int):=by omega
  have hx:=hxl _ (az hi);have e1:=hf p m xs[i] j h2 hml (by omega) (by omega)
  have hfl:=n7 (m:=m) hm (j%(m.len-1)) xs[i] hx;have e2:=hsb p 0 (ef m (j%(m.len-1)) xs[i]) (by rw [Pol.len_zero]; omega) (by omega)
  rw [dj] at e2;have hXL:i<(xs.map bo).length:=by rw [af]; exact hi
  have hXi:∀h:i<(xs.map bo).length,(xs.map bo)[i]'h=(D.arr 64 .leaf (aq .u8 (pad (row xs[i])))):=fun h=>by rw [bb]
  have w2:IntKind.i64.wrap ((k:Int)+t)=((k+t:Nat):Int):=wt;have w4:=wi j;have h24:(t+1+j+1)*64≤1099511627776:=by omega
  have htk:((gy m t k xs[i] y).take (t+1+(j+1))).map bo=((gy m t k xs[i] y).take (t+1+j)).map bo++[(D.arr 64 .leaf (aq .u8 (pad (row (0-ef m (j%(m.len-1)) xs[i])))))]:=by rw [←fm (t+1) j 1,By (a19 hlt),cj]; rfl
  have hL:(((gy m t k xs[i] y).take (t+1+j)).map bo).length=t+1+j:=by rw [af,b8,jz]; omega
  have htt:(((gy m t k xs[i] y).take (t+1+j)).map bo).take (t+1+j)=((gy m t k xs[i] y).take (t+1+j)).map bo:=aw (by omega)
  obtain ⟨cp',ih⟩:=a6o hf hsb hm h2 hml ht hk hi hxl hv (y:=y) (Y:=Y) (ZD:=ZD) (n:=n) (w:=w) r (j+1) none (by omega)
  refine ⟨cp',bn ?_ ih⟩;rw [htk];generalize pad (row (0-ef m (j%(m.len-1)) xs[i]))=Q2 at *;generalize pad (row (ef m (j%(m.len-1)) xs[i]))=Qi at *;generalize pad (row xs[i])=Ri at *;generalize ((gy m t k xs[i] y).take (t+1+j)).map bo=TD at *;generalize ((k+t:Nat):Int)=kt,pad (row m)=Pm,xs.map bo=XD at *;rw [←fm (t+1) j 1];generalize t+1+j=tj at *;simp -implicitDefEqProofs [ir_spec_l09Decodet_L1,ap,hli,hXL,hXi,e1,e2,h24,hL,htt,w2,w4,hv,List.replicate]
noncomputable abbrev elS (m:Fp p) (t k:Nat) (xs ys:List (Fp p)) (ZD:D) (i:Nat) (vo:V) (BO:Blk) (l:List (Nat×V)):St:=
 ⟨[(0,(.d (.int .i64 p))),(2,.d (.sl (.arr 64 .leaf) (xs.map bo))),(3,(.d (.int .i64 k))),(4,.d (.sl (.arr 64 .leaf) (ys.map bo))),(6,.ptr 0 []),(10,.ptr 1 []),(12,(.d (.int .i64 xs.length))),(13,(.d (.int .i64 t))),(14,vo),(15,(.d (.int .i64 (((t+1+(k+t):Nat):Int))))),(16,(.d (.int .i64 i)))]++l,[.box false (D.arr 64 .leaf (aq .u8 (pad (row m)))),.box false ZD,BO,.hole,.hole,.hole,.hole,.hole,.hole,.hole,.hole,.hole,.hole,.hole]⟩
theorem a6i {O:am} (hf:p8 O) (hsb:si O) {m:Fp p} (hm:m≠0) (h2:2≤m.len) (hml:m.len≤64) {xs ys:List (Fp p)} {t k:Nat} (ht:t<100000) (hk:k<100000) (hyl:∀y∈ys,y.len<m.len) (hxl:∀x∈xs,x.len<m.len) (hxy:ys.length=xs.length) (hn:xs.length<100000) {ZD:D}:∀(r i:Nat) (co:Option Nat),i+1+r=xs.length→∃co':Option Nat,
 dn O 0 (.loop ir_spec_l09Decodet_L2) (elS m t k xs ys ZD (i+1) (.sl 2 [0] 0 (i+1) co) (.tb false (.arr 64 .leaf) (List.range (i+1)) (((mj m t k xs ys).take (i+1)).map fun Q=>Q.map bo)) []) =
  some (.exit 0,elS m t k xs ys ZD xs.length (.sl 2 [0] 0 xs.length co') (.tb false (.arr 64 .leaf) (List.range xs.length) ((mj m t k xs ys).map fun Q=>Q.map bo)) [(40,(.d (.bool false)))])
 | 0,i,co,hi=>by
  rw [show i+1=xs.length by omega,aw (by rw [pk hxy]; exact ba _)]
  refine ⟨co,bu ?_⟩;simp only [elS,cz,cw];generalize pad (row m)=Pm,ys.map bo=YD,xs.map bo=XD,List.range xs.length=IX,(mj m t k xs ys).map (fun Q=>Q.map bo)=RD at *
  simp -implicitDefEqProofs [ir_spec_l09Decodet_L2,ap]
 | r+1,i,co,hi=>by
  have hlt:i+1<xs.length:=by omega
  have hlty:i+1<ys.length:=by omega
  have hli:((i+1:Nat):Int)<xs.length:=by omega
  have e00:((0:Nat):Int)=0:=rfl;obtain ⟨c1,e1⟩:=a7a (O:=O) hf h2 hml (t:=t) (k:=k) (i:=i+1) (w:=t+1+(k+t)) ht hlty hyl (x:=xs[i+1]) (vo:=.sl 2 [0] 0 (i+1) co) (BO:=.tb false (.arr 64 .leaf) (List.range (i+1)) (((mj m t k xs ys).take (i+1)).map fun Q=>Q.map bo)) rfl (X:=.sl (.arr 64 .leaf) (xs.map bo)) (ZD:=ZD) (n:=xs.length) (t+1) 0 (some 0) (b9 _)
  obtain ⟨c2,e2⟩:=a6o (O:=O) hf hsb hm h2 hml (t:=t) (k:=k) (i:=i+1) (w:=t+1+(k+t)) ht hk hlt hxl (y:=ys[i+1]) (vo:=.sl 2 [0] 0 (i+1) co) (BO:=.tb false (.arr 64 .leaf) (List.range (i+1)) (((mj m t k xs ys).take (i+1)).map fun Q=>Q.map bo)) rfl (Y:=.sl (.arr 64 .leaf) (ys.map bo)) (ZD:=ZD) (n:=xs.length) (k+t) 0 c1 (b9 _)
  rw [e00,cx,fa] at e1;rw [e00,show t+1+0=t+1 from rfl] at e2;have w4:IntKind.i64.wrap (((i+1:Nat):Int)+1)=((i+1+1:Nat):Int):=wt;have h24:(i+1+1)*24≤1099511627776:=by omega
  have htk:((mj m t k xs ys).take (i+1+1)).map (fun Q=>Q.map bo)=((mj m t k xs ys).take (i+1)).map (fun Q=>Q.map bo)++[(gy m t k xs[i+1] ys[i+1]).map bo]:=by rw [Bo hlt hlty,cj]; rfl
  have hL:(((mj m t k xs ys).take (i+1)).map fun Q=>Q.map bo).length=i+1:=by rw [af,b8,pk hxy]; omega
  have hRL:((gy m t k xs[i+1] ys[i+1]).map bo).length=t+1+(k+t):=by rw [af,jz]
  have hRg:List.range (i+1+1)=List.range (i+1)++[i+1]:=List.range_succ;have hRl:(List.range (i+1)).length=i+1:=d8;have hwp:0<t+1+(k+t):=by omega
  obtain ⟨co',ih⟩:=a6i hf hsb hm h2 hml ht hk hyl hxl hxy hn (ZD:=ZD) r (i+1) none (by omega)
  refine ⟨co',bn ?_ ih⟩;rw [htk,hRg];simp only [elS,cz,cw] at *;generalize ((mj m t k xs ys).take (i+1)).map (fun Q=>Q.map bo)=TD at *
  generalize ((gy m t k xs[i+1] ys[i+1]).take (t+1)).map bo=TR at *;generalize (gy m t k xs[i+1] ys[i+1]).map bo=QD at *;generalize ys.map bo=YD,xs.map bo=XD at *;clear htk;generalize t+1+(k+t)=ww,((t+1:Nat):Int)=t1,((k+t:Nat):Int)=kt,i+1=i1,((i+1+1:Nat):Int)=z2,pad (row m)=Pm,List.range (i+1)=IX,xs.length=xl at *;simp -implicitDefEqProofs [ir_spec_l09Decodet_L2,ap,hli,e1,e2,h24,hL,hRL,hRl,hwp,w4,List.replicate]
theorem ab0 {O:am} (hf:p8 O) (hsb:si O) {m:Fp p} (hm:m≠0) (h2:2≤m.len) (hml:m.len≤64) {xs ys:List (Fp p)} {t k:Nat} (ht:t<100000) (hk:k<100000) (hyl:∀y∈ys,y.len<m.len) (hxl:∀x∈xs,x.len<m.len) (hxy:ys.length=xs.length) (hn:xs.length<100000) {ZD:D} (hpos:0<xs.length):∃co':Option Nat,
 dn O 0 (.loop ir_spec_l09Decodet_L2) (elS m t k xs ys ZD 0 (.sl 2 [] 0 0 (some 0)) (.sl false .leaf []) []) =
  some (.exit 0,elS m t k xs ys ZD xs.length (.sl 2 [0] 0 xs.length co') (.tb false (.arr 64 .leaf) (List.range xs.length) ((mj m t k xs ys).map fun Q=>Q.map bo)) [(40,(.d (.bool false)))]):=by
 have hlty:0<ys.length:=by omega
 have hli:(0:Int)<xs.length:=by omega
 have e00:((0:Nat):Int)=0:=rfl;obtain ⟨c1,e1⟩:=a7a (O:=O) hf h2 hml (t:=t) (k:=k) (i:=0) (w:=t+1+(k+t)) ht hlty hyl (x:=xs[0]) (vo:=.sl 2 [] 0 0 (some 0)) (BO:=.sl false .leaf []) rfl (X:=.sl (.arr 64 .leaf) (xs.map bo)) (ZD:=ZD) (n:=xs.length) (t+1) 0 (some 0) (b9 _);obtain ⟨c2,e2⟩:=a6o (O:=O) hf hsb hm h2 hml (t:=t) (k:=k) (i:=0) (w:=t+1+(k+t)) ht hk hpos hxl (y:=ys[0]) (vo:=.sl 2 [] 0 0 (some 0)) (BO:=.sl false .leaf []) rfl (Y:=.sl (.arr 64 .leaf) (ys.map bo)) (ZD:=ZD) (n:=xs.length) (k+t) 0 c1 (b9 _);rw [e00,cx,fa] at e1;rw [e00,show t+1+0=t+1 from rfl] at e2;have hRL:((gy m t k xs[0] ys[0]).map bo).length=t+1+(k+t):=by rw [af,jz]
 have hwp:0<t+1+(k+t):=by omega
 obtain ⟨co',ih⟩:=a6i (O:=O) hf hsb hm h2 hml (t:=t) (k:=k) ht hk hyl hxl hxy hn (ZD:=ZD) (xs.length-1) 0 none (by omega)
 have htk:((mj m t k xs ys).take (0+1)).map (fun Q=>Q.map bo)=[(gy m t k xs[0] ys[0]).map bo]:=by rw [Bo hpos hlty,cj]; rfl
 rw [htk] at ih;refine ⟨co',bn ?_ ih⟩;simp only [elS,cz,cw] at *;generalize ((gy m t k xs[0] ys[0]).take (t+1)).map bo=TR at *;generalize (gy m t k xs[0] ys[0]).map bo=QD at *;generalize ys.map bo=YD,xs.map bo=XD at *;clear htk;generalize t+1+(k+t)=ww,((t+1:Nat):Int)=t1,((k+t:Nat):Int)=kt,pad (row m)=Pm,xs.length=xl at *;simp -implicitDefEqProofs [ir_spec_l09Decodet_L2,ap,hpos,e1,e2,hRL,hwp,w64,List.replicate]
end
theorem a1j {p:Int} [IsP p] {S:List (Fp p)} (h:S.length≤8):eS S=eS (fl S):=by
 unfold eS;have hl:=lf S;rw [C0 (fx h) (fx (ju hl h)) fun i _=>by rw [wn,wn,zk]]
def H6 (O:am):Prop:=∀(p:Int) [IsP p] (m:Fp p) (k:Nat) (xs ys:List (Fp p)),Fld m→1≤k→k≤xs.length→xs.length≤4→ys.length=xs.length→(∀x∈xs,x.len<m.len)→(∀y∈ys,y.len<m.len) →
 (∀q,Dm m k xs ys=some q→ask O F47 [(D.int .i64 p),(D.arr 64 .leaf (aq .u8 (pad (row m)))),.sl (.arr 64 .leaf) (xs.map bo),(D.int .i64 k),.sl (.arr 64 .leaf) (ys.map bo)]=some (.tup [eS q,(D.bool true)])) ∧
 (Dm m k xs ys=none→∃r:List (List Int),ask O F47 [(D.int .i64 p),(D.arr 64 .leaf (aq .u8 (pad (row m)))),.sl (.arr 64 .leaf) (xs.map bo),(D.int .i64 k),.sl (.arr 64 .leaf) (ys.map bo)]=some (.tup [.arr 8 (.arr 64 .leaf) (r.map bh),(D.bool false)]))
theorem a31 (hT:T F47=some ir_spec_l09Decodet) (hf:p8 (den T A)) (hsb:si (den T A)) (hnu:Rx (den T A)) (hsk:Q5 (den T A)) (hdg:Ec (den T A)) (hdv:Wf (den T A) F3z true) (hva:He (den T A)) (hdi:Ai (den T A)):H6 (den T A):=by
 intro p ip m k xs ys hm hk1 hkn hn4 hxy hxl hyl;have h2:=hm.two;have hml:=hm.five;have hm0:=hm.mon.2
 have htd:((xs.length:Int)-k).tdiv 2=(((xs.length-k)/2:Nat):Int):=by
  rw [show (xs.length:Int)-k=((xs.length-k:Nat):Int) by omega]; rfl
 have w0:IntKind.i64.wrap ((xs.length:Int)-k)=(xs.length:Int)-k:=wt;have w9:IntKind.i64.wrap ((((xs.length-k)/2:Nat):Int))=(((xs.length-k)/2:Nat):Int):=wt;have w1:IntKind.i64.wrap ((((xs.length-k)/2:Nat):Int)+1)=(((xs.length-k)/2+1:Nat):Int):=wt;have w2:IntKind.i64.wrap ((((xs.length-k)/2+1:Nat):Int)+k)=(((xs.length-k)/2+1+k:Nat):Int):=wt;have w3:IntKind.i64.wrap ((((xs.length-k)/2+1+k:Nat):Int)+(((xs.length-k)/2:Nat):Int))=(((xs.length-k)/2+1+(k+(xs.length-k)/2):Nat):Int):=wt;obtain ⟨co,e1⟩:=ab0 (O:=den T A) hf hsb hm0 h2 (by omega) (xs:=xs) (ys:=ys) (t:=(xs.length-k)/2) (k:=k) (by omega) (by omega) hyl hxl hxy (by omega) (ZD:=.arr 8 (.arr 64 .leaf) z8) (by omega)
 have hRM:=Rq hm0 (t:=(xs.length-k)/2) (k:=k) hxy hxl hyl;obtain ⟨IX',RR',e2⟩:=hnu p m xs.length ((xs.length-k)/2+1+(k+(xs.length-k)/2)) (mj m ((xs.length-k)/2) k xs ys) co (List.range xs.length) ((mj m ((xs.length-k)/2) k xs ys).map fun Q=>Q.map bo) hm (by omega) (by omega) hRM (Ng (pk hxy))
 have hFl:=Ak (m:=m) (w:=(xs.length-k)/2+1+(k+(xs.length-k)/2)) (N:=mj m ((xs.length-k)/2) k xs ys);have hFr:=Jr hm0 h2 hRM;have ht2:(xs.length-k)/2≤2:=by omega
 have htk:(xs.length-k)/2+k≤4:=by omega
 generalize hF:G5 m ((xs.length-k)/2+1+(k+(xs.length-k)/2)) (mj m ((xs.length-k)/2) k xs ys)=F at *;have hdV:rq m ((xs.length-k)/2) k xs ys=fl (F.take ((xs.length-k)/2+1)):=by rw [←hF]; rfl
 have hdU:wu m ((xs.length-k)/2) k xs ys=fl (F.drop ((xs.length-k)/2+1)):=by rw [←hF]; rfl
 have hFD:(F.map bo).length=(xs.length-k)/2+1+(k+(xs.length-k)/2):=by rw [af]; exact hFl
 have hlV:(F.take ((xs.length-k)/2+1)).length≤8:=by rw [b8]; omega
 have hlU:(F.drop ((xs.length-k)/2+1)).length≤8:=by rw [ec]; omega
 have e3:=hsk p (F.take ((xs.length-k)/2+1)) hlV;have e4:=hsk p (F.drop ((xs.length-k)/2+1)) hlU;rw [←nr,a1j hlV,←hdV,List.map_take] at e3;rw [←nr,a1j hlU,←hdU,List.map_drop] at e4
 have hSV:Sk m (rq m ((xs.length-k)/2) k xs ys):=by
  rw [hdV];refine ⟨jg _,?_,fun c hc=>hFr c (fc (fc (by unfold fl at hc; exact hc)))⟩
  have:=lf (F.take ((xs.length-k)/2+1));omega
 have hSU:Sk m (wu m ((xs.length-k)/2) k xs ys):=by
  rw [hdU];refine ⟨jg _,?_,fun c hc=>hFr c (List.mem_of_mem_drop (fc (by unfold fl at hc; exact hc)))⟩
  have:=lf (F.drop ((xs.length-k)/2+1));omega
 have hkk:(xs.length-k)/2+1≤(xs.length-k)/2+1+(k+(xs.length-k)/2):=by omega
 have hdt:((F.map bo).drop ((xs.length-k)/2+1)).take ((xs.length-k)/2+1+(k+(xs.length-k)/2)-((xs.length-k)/2+1))=(F.map bo).drop ((xs.length-k)/2+1):=aw (by rw [ec,hFD]; exact ba _)
 have hdQ:yg m ((xs.length-k)/2) k xs ys=pc true m (rq m ((xs.length-k)/2) k xs ys) (wu m ((xs.length-k)/2) k xs ys).length [] (wu m ((xs.length-k)/2) k xs ys):=rfl;have e5:=hdg p m (rq m ((xs.length-k)/2) k xs ys) hm0 (by omega) hSV
 have hsp:∀Q:List (Fp p),Sk m Q→ask (den T A) F4d [(D.int .i64 p),(D.arr 64 .leaf (aq .u8 (pad (row m)))),eS Q,.sl (.arr 64 .leaf) (xs.map bo)]=some (.sl (.arr 64 .leaf) ((kq m Q xs).map bo))∧ask (den T A) F48 [(D.int .i64 p),.sl (.arr 64 .leaf) ((kq m Q xs).map bo),.sl (.arr 64 .leaf) (ys.map bo)]=some (D.int .i64 ((gd (dif (kq m Q xs) ys) []).length)):=fun Q hQ=>by
  have h8:=hva p m (pd8 Q) xs h2 (by omega) (fx hQ.eight) (Iy hm0 hQ.res) (by omega) hxl
  have hvp:kq m (pd8 Q) xs=kq m Q xs:=by
   rw [←Nj hm0 (pd8 Q),show fl (pd8 Q)=fl Q from I9 fun i=>wn i,Nj hm0]
  rw [hvp] at h8;exact ⟨h8,hdi p (kq m Q xs) ys (by rw [k9]; exact hxy.symm) (by rw [k9]; omega) (fun x hx=>by have:=Uh hm0 Q xs x hx; omega) (fun y hy=>by have:=hyl y hy; omega)⟩
 have e00:((0:Nat):Int)=0:=rfl;simp only [elS,cz,cw,e00] at e1;have hXL:(xs.map bo).length=xs.length:=af ..;have hz8:(.arr 8 (.arr 64 .leaf) z8:D)=.arr 8 (.arr 64 .leaf) ((List.replicate 8 (pad [])).map bh):=rfl;have hfz:=md (List.replicate 8 (pad []));have hfV:=md (skP (pd8 (rq m ((xs.length-k)/2) k xs ys)));have hfU:=md (skP (pd8 (wu m ((xs.length-k)/2) k xs ys)));unfold Dm;have hfz8:D.flats z8=true:=rfl;generalize (xs.length-k)/2=t at *;have hti:(0:Int)≤(t:Nat):=by omega
 rw [nr] at e3 e4 e5;generalize F.map bo=FD,List.range xs.length=IX,(mj m t k xs ys).map (fun Q=>Q.map bo)=MD,ys.map bo=YD,xs.map bo=XD at *
 by_cases hV:rq m t k xs ys=[]
 ·rw [if_pos (.inl hV)]
  refine ⟨fun q hq=>(by cases hq),fun _=>⟨List.replicate 8 (pad []),?_⟩⟩
  have hlv:((rq m t k xs ys).length:Int)-1<0:=by rw [hV]; simp
  rw [←hz8];refine c9 hT rfl ?_;clear hRM hSV hSU hdV hdU hdQ hFr hsp hV hF hxl hyl hxy hkn hlV hlU hfz hz8;generalize row m=Rm,((rq m t k xs ys).length:Int)-1=dv,(skP (pd8 (wu m t k xs ys))).map bh=UD,(skP (pd8 (rq m t k xs ys))).map bh=VD at *;generalize ((t+1+k:Nat):Int)=t2,xs.length=xl,pad Rm=Pm at *;generalize hww:t+1+(k+t)=ww at *;generalize t+1=t1 at *;simp -implicitDefEqProofs [ir_spec_l09Decodet,ir_spec_l09Decodet_B,ap,w0,htd,w9,w1,w2,w3,e1,e2,e3,e4,e5,hFD,hkk,hdt,hXL,hfV,hfU,hlv,List.replicate,List.idxOf,List.findIdx,List.findIdx.go]
 ·have hV1:1≤(rq m t k xs ys).length:=by
   cases hq:rq m t k xs ys with
   | nil=>exact absurd hq hV
   | cons=>simp
  have e6:=hdv p m (wu m t k xs ys) (rq m t k xs ys) hm hSU hSV hV1;have hok:=J5 true hm hSV hV1 (wu m t k xs ys).length [] (wu m t k xs ys) (ba _) (Sk.nil m) hSU;rw [←hdQ] at e6 hok;obtain ⟨hQs,hRs,-⟩:=hok;obtain ⟨e7,e9⟩:=hsp (yg m t k xs ys).1 hQs;have e8:=hdg p m (yg m t k xs ys).2 hm0 (by omega) hRs
  have e10:=hdg p m (yg m t k xs ys).1 hm0 (by omega) hQs
  have hlv:¬ ((rq m t k xs ys).length:Int)-1<0:=by omega
  have hfQ:=md (skP (pd8 (yg m t k xs ys).1));have hfR:=md (skP (pd8 (yg m t k xs ys).2));simp only [hV,false_or];rw [nr,nr,nr] at e6;simp only [nr] at e6 e7 e8 e10 ⊢;clear hRM hSV hSU hdV hdU hdQ hFr hsp hV hF hxl hyl hxy hkn hlV hlU hQs hRs hV1 hfz;generalize ((rq m t k xs ys).length:Int)-1=dv,(skP (pd8 (wu m t k xs ys))).map bh=UD,(skP (pd8 (rq m t k xs ys))).map bh=VD at *;generalize hQ:(yg m t k xs ys).1=Q at *;generalize hR:(yg m t k xs ys).2=R at *;generalize (kq m Q xs).map bo=VL,(gd (dif (kq m Q xs) ys) []).length=sp at *
  have hQl:∀Q':List (Fp p),(if R≠[]∨k<Q.length∨t<sp then none else some Q)=some Q'→R=[]∧¬ k<Q.length∧¬ t<sp∧Q'=Q:=by
   intro Q' h
   split at h
   ·cases h
   ·rename_i hc
    simp only [not_or,ne_eq,Classical.not_not] at hc;exact ⟨hc.1,hc.2.1,hc.2.2,(au h).symm⟩
  have hQn:(if R≠[]∨k<Q.length∨t<sp then none else some Q)=none→R≠[]∨(R=[]∧k<Q.length)∨(R=[]∧¬ k<Q.length∧t<sp):=by
   intro h
   split at h
   ·rename_i hc
    by_cases h1:R=[]
    ·by_cases h2:k<Q.length
     ·exact .inr (.inl ⟨h1,h2⟩)
     ·exact .inr (.inr ⟨h1,h2,hc.elim (fun h=>absurd h1 h) (fun h=>h.elim (fun h=>absurd h h2) id)⟩)
    ·exact .inl h1
   ·cases h
  refine ⟨fun q hq=>?_,fun hq=>?_⟩
  ·obtain ⟨rfl,h1,h2,rfl⟩:=hQl q hq
   have hge:¬ (k:Int)≤(q.length:Int)-1:=by omega
   have hle:sp≤t:=by omega
   have hlei:(sp:Int)≤t:=by omega
   refine c9 hT rfl ?_;clear hQl hQn hq;generalize row m=Rm,(q.length:Int)-1=dq,(skP (pd8 ([]:List (Fp p)))).map bh=RD,(skP (pd8 q)).map bh=QD at *;generalize ((t+1+k:Nat):Int)=t2,xs.length=xl,pad Rm=Pm at *;generalize hww:t+1+(k+t)=ww at *;generalize t+1=t1 at *;simp -implicitDefEqProofs [ir_spec_l09Decodet,ir_spec_l09Decodet_B,ap,w0,htd,w9,w1,w2,w3,e1,e2,e3,e4,e5,e6,e8,hFD,hkk,hdt,hXL,hfV,hfU,hfQ,hfR,hlv,e7,e9,e10,hge,hlei,List.replicate,List.idxOf,List.findIdx,List.findIdx.go]
  ·rcases hQn hq with h1 | ⟨rfl,h1⟩ | ⟨rfl,h1,h2⟩
   ·have hRp:0<R.length:=kv.2 h1
    have hge:(0:Int)≤(R.length:Int)-1:=by omega
    refine ⟨List.replicate 8 (pad []),?_⟩;rw [←hz8];refine c9 hT rfl ?_;clear hQl hQn hq hz8;generalize row m=Rm,(R.length:Int)-1=dr,(skP (pd8 R)).map bh=RD,(skP (pd8 Q)).map bh=QD at *;generalize ((t+1+k:Nat):Int)=t2,xs.length=xl,pad Rm=Pm at *;generalize hww:t+1+(k+t)=ww at *;generalize t+1=t1 at *;simp -implicitDefEqProofs [ir_spec_l09Decodet,ir_spec_l09Decodet_B,ap,w0,htd,w9,w1,w2,w3,e1,e2,e3,e4,e5,e6,e8,hFD,hkk,hdt,hXL,hfV,hfU,hfQ,hfR,hlv,hge,List.replicate,List.idxOf,List.findIdx,List.findIdx.go]
   ·have hge:(k:Int)≤(Q.length:Int)-1:=by omega
    refine ⟨List.replicate 8 (pad []),?_⟩;rw [←hz8];refine c9 hT rfl ?_;clear hQl hQn hq hz8;generalize row m=Rm,(Q.length:Int)-1=dq,(skP (pd8 ([]:List (Fp p)))).map bh=RD,(skP (pd8 Q)).map bh=QD at *;generalize ((t+1+k:Nat):Int)=t2,xs.length=xl,pad Rm=Pm at *;generalize hww:t+1+(k+t)=ww at *;generalize t+1=t1 at *;simp -implicitDefEqProofs [ir_spec_l09Decodet,ir_spec_l09Decodet_B,ap,w0,htd,w9,w1,w2,w3,e1,e2,e3,e4,e5,e6,e8,hFD,hkk,hdt,hXL,hfV,hfU,hfQ,hfR,hlv,e10,hge,List.replicate,List.idxOf,List.findIdx,List.findIdx.go]
   ·have hge:¬ (k:Int)≤(Q.length:Int)-1:=by omega
    have hle:¬ sp≤t:=by omega
    have hlei:¬ (sp:Int)≤t:=by omega
    refine ⟨skP (pd8 Q),?_⟩;refine c9 hT rfl ?_;clear hQl hQn hq hz8;generalize row m=Rm,(Q.length:Int)-1=dq,(skP (pd8 ([]:List (Fp p)))).map bh=RD,(skP (pd8 Q)).map bh=QD at *;generalize ((t+1+k:Nat):Int)=t2,xs.length=xl,pad Rm=Pm at *;generalize hww:t+1+(k+t)=ww at *;generalize t+1=t1 at *;simp -implicitDefEqProofs [ir_spec_l09Decodet,ir_spec_l09Decodet_B,ap,w0,htd,w9,w1,w2,w3,e1,e2,e3,e4,e5,e6,e8,hFD,hkk,hdt,hXL,hfV,hfU,hfQ,hfR,hlv,e7,e9,e10,hge,hlei,List.replicate,List.idxOf,List.findIdx,List.findIdx.go]
end Pe
namespace Pe
open Go Gq
variable {T:Nat→Option Fn} {A:am}
open Classical in
noncomputable def drO (p:Int) (l:List Int) (ls:List (List Int)) (k:Int) (ms:List (List Int)):Option (List (List Int)):=
 if h:fp p l ls ms (iwP ls ms k)=0 then
  haveI:IsP p:=(Oy h).1.choose
  (Dm (gw p l) k.toNat (ls.map (gw p)) (ms.map (gw p))).map fun q=>skP ((pd8 q).take k.toNat)
 else none
theorem Ir {p:Int} [IsP p] {m:Fp p} {S R:List (Fp p)} {k:Nat} (h:fp p (pad (row m)) (skP S) (skP R) (iwP (skP S) (skP R) k)=0) (hm:m.len≤64) (hS:∀a∈S,a.len≤64) (hR:∀a∈R,a.len≤64):drO p (pad (row m)) (skP S) k (skP R)=(Dm m k S R).map fun q=>skP ((pd8 q).take k):=by
 unfold drO;rw [dif_pos h,v8 hm,Bz hS,Bz hR,xj]
noncomputable def drL (p:Int) (l:List Int) (ls:List (List Int)) (k:Int) (ms:List (List Int)):List (List Int):=(drO p l ls k ms).getD []
open Classical in
noncomputable def drC (p:Int) (l:List Int) (ls:List (List Int)) (k:Int) (ms:List (List Int)):Int:=
 if fp p l ls ms (iwP ls ms k)=0 then (if (drO p l ls k ms).isSome then 0 else 4) else fp p l ls ms (iwP ls ms k)
theorem Q8 {p:Int} {l:List Int} {ls ms:List (List Int)} {k:Int} (h:¬ fp p l ls ms (iwP ls ms k)=0):drL p l ls k ms=[]∧drC p l ls k ms=fp p l ls ms (iwP ls ms k):=by
 unfold drL drC drO;rw [dif_neg h,if_neg h];exact ⟨rfl,rfl⟩
theorem Yx {p:Int} {l:List Int} {ls ms:List (List Int)} {k:Int} (h:fp p l ls ms (iwP ls ms k)=0):∃(_:IsP p) (m:Fp p) (S R:List (Fp p)) (n:Nat),l=pad (row m)∧Fld m∧ls=skP S∧ms=skP R∧k=n∧(∀a∈S,a.len<m.len)∧(∀a∈R,a.len<m.len)∧S.length≤4∧1≤n∧n≤S.length∧R.length=S.length:=by
 obtain ⟨ip,m,S,R,e,hm,hS0,hR0,hS,hR,h4,hc⟩:=ajr h;have hSl:ls.length=S.length:=by rw [hS0,af]
 have hRl:ms.length=R.length:=by rw [hR0,af]
 obtain ⟨⟨h1,h2⟩,h3⟩:=hc;exact ⟨ip,m,S,R,k.toNat,e,hm,hS0,hR0,by omega,hS,hR,h4,by omega,by omega,by omega⟩
theorem S7 {p:Int} [IsP p] {m:Fp p} {k:Nat} {xs ys q:List (Fp p)} (h:Dm m k xs ys=some q):q.length≤k:=by
 unfold Dm at h
 split at h
 ·cases h
 ·rename_i hc
  obtain rfl:=au h;simp only [not_or] at hc;have:=hc.2.2.1;omega
theorem Qm {p:Int} [IsP p] {m:Fp p} (hm:Fld m) {k:Nat} {xs ys q:List (Fp p)} (hkn:k≤xs.length) (hn4:xs.length≤4) (hxy:ys.length=xs.length) (hxl:∀x∈xs,x.len<m.len) (hyl:∀y∈ys,y.len<m.len) (h:Dm m k xs ys=some q):Sk m q:=by
 have hm0:=hm.mon.2;have hRM:=Rq hm0 (t:=(xs.length-k)/2) (k:=k) hxy hxl hyl;have hFl:=Ak (m:=m) (w:=(xs.length-k)/2+1+(k+(xs.length-k)/2)) (N:=mj m ((xs.length-k)/2) k xs ys);have hFr:=Jr hm0 hm.two hRM;unfold Dm at h
 split at h
 ·cases h
 ·rename_i hc
  obtain rfl:=au h;simp only [not_or] at hc;have hV:=hc.1;clear hc h
  have hV1:1≤(rq m ((xs.length-k)/2) k xs ys).length:=by
   cases hq:rq m ((xs.length-k)/2) k xs ys with
   | nil=>exact absurd hq hV
   | cons=>simp
  have hSV:Sk m (rq m ((xs.length-k)/2) k xs ys):=by
   unfold rq;refine ⟨jg _,?_,fun c hc=>hFr c (fc (fc (by unfold fl at hc; exact hc)))⟩
   have:=lf ((G5 m ((xs.length-k)/2+1+(k+(xs.length-k)/2)) (mj m ((xs.length-k)/2) k xs ys)).take ((xs.length-k)/2+1));rw [b8] at this;omega
  have hSU:Sk m (wu m ((xs.length-k)/2) k xs ys):=by
   unfold wu;refine ⟨jg _,?_,fun c hc=>hFr c (List.mem_of_mem_drop (fc (by unfold fl at hc; exact hc)))⟩
   have:=lf ((G5 m ((xs.length-k)/2+1+(k+(xs.length-k)/2)) (mj m ((xs.length-k)/2) k xs ys)).drop ((xs.length-k)/2+1));rw [ec] at this;omega
  exact (J5 true hm hSV hV1 _ [] _ (ba _) (Sk.nil m) hSU).1
theorem a04 {p:Int} [IsP p] {q:List (Fp p)} {k:Nat} (hq:q.length≤k) (hk:k≤8):(pd8 q).take k=q++List.replicate (k-q.length) 0:=by
 unfold pd8;rw [List.take_append,aw hq,List.take_replicate]
 congr 2
 omega
theorem aeq (p:Int) (l:List Int) (ls:List (List Int)) (k:Int) (ms:List (List Int)):(∀x∈drL p l ls k ms,x.length=64)∧(drL p l ls k ms).length≤8:=by
 by_cases h:fp p l ls ms (iwP ls ms k)=0
 ·obtain ⟨ip,m,S,R,n,rfl,hm,rfl,rfl,rfl,hS,hR,h4,-,hn,-⟩:=Yx h
  have h5:=hm.five;unfold drL;rw [Ir h (by omega) (fun a ha=>by have:=hS a ha; omega) (fun a ha=>by have:=hR a ha; omega)]
  cases Dm m n S R with
  | none=>exact ⟨fun x hx=>by simp at hx,by simp⟩
  | some q=>
   refine ⟨fun x hx=>by obtain ⟨a,_,rfl⟩:=cn.1 hx; exact di _,?_⟩
   show (List.map _ _).length≤8;rw [af,b8];omega
 ·rw [(Q8 h).1]; exact ⟨fun x hx=>by simp at hx,by simp⟩
def qf (O:am) (F:Nat):Prop:=∀(p:Int) (l:List Int) (ls:List (List Int)) (k:Int) (ms:List (List Int)),m9 l→l.length=64→wq ls→wq ms→ls.length+ms.length<2000000→ask O F [(D.int .i64 p),(D.arr 64 .leaf (aq .u8 l)),.sl (.arr 64 .leaf) (ls.map bh),(D.int .i64 k),.sl (.arr 64 .leaf) (ms.map bh)]=some (D.tup [.sl (.arr 64 .leaf) ((drL p l ls k ms).map bh),(D.int .i64 (drC p l ls k ms))])
theorem Pz (hT:T F4=some ir_impl_DecodeRankt) (hic:G7 (den T A)) (hp:Gb (den T A)) (hfo:xv (den T A)) (hro:Qe (den T A)) (hde:En (den T A)) (hpo:It (den T A)):qf (den T A) F4:=by
 classical
 intro p l ls k ms bl gl ha hb hl;have e0:=hic ls ms k (by omega) (by omega)
 have e1:=hp p l ls ms (decide (iwP ls ms k)) bl gl ha hb hl;rw [sm (ns:=ms) (d:=iwP ls ms k) mh (by rw [decide_eq_true_eq])] at e1
 by_cases h:fp p l ls ms (iwP ls ms k)=0
 ·have h':=h
  rw [h] at e1;obtain ⟨ip,m,S,R,n,rfl,hm,rfl,rfl,rfl,hS,hR,h4,hn1,hn,heq2⟩:=Yx h;have h5:=hm.five;have hdg:=Ir h' (by omega) (fun a ha=>by have:=hS a ha; omega) (fun a ha=>by have:=hR a ha; omega)
  have e3:=hfo p m (by omega)
  have e4:=hro p S (by omega) (fun x hx=>by have:=hS x hx; omega)
  have e5:=hro p R (by omega) (fun x hx=>by have:=hR x hx; omega)
  have e6:=hde p m n S R hm hn1 hn h4 heq2 hS hR;have hfd:fw m=.st [.leaf,.leaf] [(D.int .i64 p),(D.sl .leaf (aq .i64 (row m)))]:=rfl;rw [hfd] at e3 e6;unfold drL drC;rw [if_pos h',hdg];clear h h';generalize decide (iwP (skP S) (skP R) n)=b at *;rw [qy S] at e0 e1 ⊢;rw [qy R] at e0 e1 ⊢;refine c9 hT rfl ?_;cases hq:Dm m n S R with
  | none=>
   rw [hq] at e6;show _=some (D.tup [.sl (.arr 64 .leaf) [],(D.int .i64 4)]);generalize row m=Rm,pad (row m)=Pm,R.map bf=RR,S.map bf=SR,R.map bo=RD,S.map bo=SD at *;simp -implicitDefEqProofs [ir_impl_DecodeRankt,ir_impl_DecodeRankt_B,ap,e0,e1,e3,e4,e5,e6]
  | some q=>
   rw [hq] at e6;have hql:=S7 hq;have hqs:=Qm hm hn h4 heq2 hS hR hq;have hqr:∀c∈q,c.len≤64:=fun c hc=>by have:=hqs.res c hc; omega
   have e7:=hpo p q (by omega) hqr
   have hout:(skP ((pd8 q).take n)).map bh=q.map bo++List.replicate (n-q.length) (D.arr 64 .leaf (aq .u8 (pad []))):=by
    rw [a04 hql (by omega),qy,cj,ew]
    show _++List.replicate _ (D.arr 64 .leaf (aq .u8 (pad (row (0:Fp p)))))=_;rw [dj]
   show _=some (D.tup [.sl (.arr 64 .leaf) ((skP ((pd8 q).take n)).map bh),(D.int .i64 0)])
   have hcp:(q.map bo).take n++(List.replicate n (D.arr 64 .leaf (aq .u8 (pad [])))).drop (min (q.map bo).length n)=q.map bo++List.replicate (n-q.length) (D.arr 64 .leaf (aq .u8 (pad []))):=by
    rw [aw (by rw [af]; exact hql),af,Nat.min_eq_left hql,List.drop_replicate]
   have h64:n*64≤1099511627776:=by omega
   have hni:(0:Int)≤(n:Nat):=by omega
   change _=some (D.tup [.sl .leaf (q.map bf),.bool true]) at e6
   rw [hout];have hXl:(q.map bo++List.replicate (n-q.length) (D.arr 64 .leaf (aq .u8 (pad [])))).length=n:=by rw [bg,af,bt]; omega
   have htX:(q.map bo++List.replicate (n-q.length) (D.arr 64 .leaf (aq .u8 (pad [])))).take n=q.map bo++List.replicate (n-q.length) (D.arr 64 .leaf (aq .u8 (pad []))):=aw (by omega)
   generalize q.map bo++List.replicate (n-q.length) (D.arr 64 .leaf (aq .u8 (pad [])))=XD at *;generalize hz:List.replicate n (D.arr 64 .leaf (aq .u8 (pad [])))=ZD at *;have hzl:ZD.length=n:=by rw [←hz]; exact bt
   generalize row m=Rm,pad (row m)=Pm,R.map bf=RR,S.map bf=SR,R.map bo=RD,S.map bo=SD,q.map bf=QR,q.map bo=QD at *;simp -implicitDefEqProofs [ir_impl_DecodeRankt,ir_impl_DecodeRankt_B,ap,e0,e1,e3,e4,e5,e6,e7,h64,hz,hzl,hcp,hXl,htX,List.replicate]
 ·obtain ⟨g1,g2⟩:=Q8 h
  rw [g1,g2,fa];refine c9 hT rfl ?_;generalize ms.map bh=MD,ls.map bh=LD,decide (iwP ls ms k)=b,fp p l ls ms (iwP ls ms k)=cc at *;simp -implicitDefEqProofs [ir_impl_DecodeRankt,ir_impl_DecodeRankt_B,ap,e0,e1,h]
theorem acp {O:am} {FD:List D} (hF:FD.length=8) (hsh:∀(i:Nat) (h:i<FD.length),(FD[i]'h).sh=.arr 64 .leaf) (hfl:∀(i:Nat) (h:i<FD.length),(FD[i]'h).isTup=false) {n:Nat} (hn:n≤8):∀(r i:Nat) (cp:Option Nat),i+r=n→∃cp':Option Nat,
 dn O 0 (.loop ir_spec_DecodeRankt_L0) ⟨[(3,(.d (.int .i64 n))),(13,.ptr 1 []),(15,.sl 2 [] 0 i cp),(16,(.d (.int .i64 i)))],[.hole,.box false (.arr 8 (.arr 64 .leaf) FD),.sl false (.arr 64 .leaf) (FD.take i),.hole,.hole]⟩ =
  some (.exit 0,⟨[(3,(.d (.int .i64 n))),(13,.ptr 1 []),(15,.sl 2 [] 0 n cp'),(16,(.d (.int .i64 n))),(40,(.d (.bool false)))],[.hole,.box false (.arr 8 (.arr 64 .leaf) FD),.sl false (.arr 64 .leaf) (FD.take n),.hole,.hole]⟩)
 | 0,i,cp,hi=>by
  obtain rfl:i=n:=by omega
  refine ⟨cp,bu ?_⟩;generalize FD.take i=TD at *;simp -implicitDefEqProofs [ir_spec_DecodeRankt_L0,ap]
 | r+1,i,cp,hi=>by
  have hlt:i<n:=by omega
  have hli:(i:Int)<n:=by omega
  have hi8:i<8:=by omega
  have hiF:i<FD.length:=by omega
  have w4:=wi i;have h64:(i+1)*64≤1099511627776:=by omega
  have htk:FD.take (i+1)=FD.take i++[FD[i]]:=br hiF;have hL:(FD.take i).length=i:=by rw [b8]; omega
  have htt:(FD.take i).take i=FD.take i:=aw (by omega)
  obtain ⟨cp',ih⟩:=acp hF hsh hfl hn r (i+1) none (by omega)
  refine ⟨cp',bn ?_ ih⟩;rw [htk];have hs:=hsh i hiF;have hf:=hfl i hiF;have hg:∀h:i<FD.length,FD[i]'h=FD[i]:=fun _=>rfl
  generalize FD.take i=TD at *;generalize hx:FD[i]=X at *;simp -implicitDefEqProofs [ir_spec_DecodeRankt_L0,ap,hli,hi8,hF,hx,hs,hf,h64,hL,htt,w4,List.replicate]
theorem N6 (hT:T F3b=some ir_spec_DecodeRankt) (hp:M2 (den T A)) (hde:H6 (den T A)):qf (den T A) F3b:=by
 classical
 intro p l ls k ms bl gl ha hb hl;have e1:=hp p l ls ms k bl gl ha hb (by omega) (by omega)
 rw [sm (c:=(1≤k∧k≤(ls.length:Int))∧ms.length=ls.length) (ns:=ms) (d:=iwP ls ms k) mh mh] at e1
 by_cases h:fp p l ls ms (iwP ls ms k)=0
 ·have h':=h
  rw [h] at e1;obtain ⟨ip,m,S,R,n,rfl,hm,rfl,rfl,rfl,hS,hR,h4,hn1,hn,heq2⟩:=Yx h;have h5:=hm.five;have hdg:=Ir h' (by omega) (fun a ha=>by have:=hS a ha; omega) (fun a ha=>by have:=hR a ha; omega)
  obtain ⟨g1,g2⟩:=hde p m n S R hm hn1 hn h4 heq2 hS hR;unfold drL drC;rw [if_pos h',hdg];clear h h';rw [qy S] at e1 ⊢;rw [qy R] at e1 ⊢;refine c9 hT rfl ?_;cases hq:Dm m n S R with
  | none=>
   obtain ⟨r,e2⟩:=g2 hq;have hfl:=md r;show _=some (D.tup [.sl (.arr 64 .leaf) [],(D.int .i64 4)]);generalize pad (row m)=Pm,R.map bo=RD,S.map bo=SD,r.map bh=ZD at *;simp -implicitDefEqProofs [ir_spec_DecodeRankt,ir_spec_DecodeRankt_B,ap,e1,e2,hfl]
  | some q=>
   have e2:=g1 q hq;rw [nr] at e2;have hqs:=Qm hm hn h4 heq2 hS hR hq;have hfl:=md (skP (pd8 q));have h8:=Jk hqs.eight;have hsh:∀(i:Nat) (h:i<((skP (pd8 q)).map bh).length),(((skP (pd8 q)).map bh)[i]'h).sh=.arr 64 .leaf:=fun i h=>by rw [bb]; rfl
   have htu:∀(i:Nat) (h:i<((skP (pd8 q)).map bh).length),(((skP (pd8 q)).map bh)[i]'h).isTup=false:=fun i h=>by rw [bb]; rfl
   obtain ⟨cp,e3⟩:=acp (O:=den T A) h8 hsh htu (n:=n) (by omega) n 0 (some 0) (b9 _)
   have e00:((0:Nat):Int)=0:=rfl;rw [e00,cx] at e3
   have hout:(skP ((pd8 q).take n)).map bh=((skP (pd8 q)).map bh).take n:=by
    unfold skP;rw [List.map_take,List.map_take]
   have hLn:(((skP (pd8 q)).map bh).take n).length=n:=by rw [b8,h8]; omega
   have htn:(((skP (pd8 q)).map bh).take n).take n=((skP (pd8 q)).map bh).take n:=aw (by omega)
   show _=some (D.tup [.sl (.arr 64 .leaf) ((skP ((pd8 q).take n)).map bh),(D.int .i64 0)]);rw [hout];generalize pad (row m)=Pm,R.map bo=RD,S.map bo=SD,(skP (pd8 q)).map bh=QD,((skP (pd8 q)).map bh).take n=TD at *;simp -implicitDefEqProofs [ir_spec_DecodeRankt,ir_spec_DecodeRankt_B,ap,e1,e2,e3,hfl,hLn,htn,List.replicate]
 ·obtain ⟨g1,g2⟩:=Q8 h
  rw [g1,g2,fa];refine c9 hT rfl ?_;generalize ms.map bh=MD,ls.map bh=LD,fp p l ls ms (iwP ls ms k)=cc at *;simp -implicitDefEqProofs [ir_spec_DecodeRankt,ir_spec_DecodeRankt_B,ap,e1,h]
def zc (O:am):Prop:=∀(p:Int) (l:List Int) (ls:List (List Int)) (k:Int) (ms:List (List Int)) (cq cr:Option Nat),m9 l→l.length=64→wq ls→wq ms→ls.length+ms.length<2000000→∃cp:Option Nat,
 O F5 [(.d (.int .i64 p)),.d (D.arr 64 .leaf (aq .u8 l)),.sl 0 [] 0 ls.length cq,(.d (.int .i64 k)),.sl 1 [] 0 ms.length cr] [.sl false (.arr 64 .leaf) (ls.map bh),.sl false (.arr 64 .leaf) (ms.map bh)]=some (.tup [.sl 2 [] 0 (drL p l ls k ms).length cp,(.d (.int .i64 (drC p l ls k ms)))],[.sl false (.arr 64 .leaf) (ls.map bh),.sl false (.arr 64 .leaf) (ms.map bh)],[.sl false (.arr 64 .leaf) ((drL p l ls k ms).map bh)])
theorem Qy (hT:T F5=some ir_impl_DecodeRank_hwt) (hic:G7 (den T A)) (hp:Gb (den T A)) (hfo:xv (den T A)) (hro:Xv (den T A)) (hde:En (den T A)) (hpo:It (den T A)):zc (den T A):=by
 classical
 intro p l ls k ms cq cr bl gl ha hb hl;have e0:=hic ls ms k (by omega) (by omega)
 have e1:=hp p l ls ms (decide (iwP ls ms k)) bl gl ha hb hl;rw [sm (ns:=ms) (d:=iwP ls ms k) mh (by rw [decide_eq_true_eq])] at e1
 have hLL:(ls.map bh).length=ls.length:=af ..;have hMM:(ms.map bh).length=ms.length:=af ..;have htl:(ls.map bh).take ls.length=ls.map bh:=aw (by omega)
 have htm:(ms.map bh).take ms.length=ms.map bh:=aw (by omega)
 by_cases h:fp p l ls ms (iwP ls ms k)=0
 ·have h':=h
  rw [h] at e1;obtain ⟨ip,m,S,R,n,rfl,hm,rfl,rfl,rfl,hS,hR,h4,hn1,hn,heq2⟩:=Yx h;have h5:=hm.five;have hdg:=Ir h' (by omega) (fun a ha=>by have:=hS a ha; omega) (fun a ha=>by have:=hR a ha; omega)
  have hSl:(skP S).length=S.length:=af ..;have hRl:(skP R).length=R.length:=af ..;have e3:=hfo p m (by omega)
  obtain ⟨q4,e4⟩:=hro p S cq (by omega) (fun x hx=>by have:=hS x hx; omega)
  obtain ⟨q5,e5⟩:=hro p R cr (by omega) (fun x hx=>by have:=hR x hx; omega)
  have e6:=hde p m n S R hm hn1 hn h4 heq2 hS hR;have hfd:fw m=.st [.leaf,.leaf] [(D.int .i64 p),(D.sl .leaf (aq .i64 (row m)))]:=rfl;rw [hfd] at e3 e6;unfold drL drC;rw [if_pos h',hdg];clear h h';generalize decide (iwP (skP S) (skP R) n)=b at *;rw [hSl] at hLL htl ⊢;rw [hRl] at hMM htm ⊢;rw [qy S] at e0 e1 hLL htl ⊢;rw [qy R] at e0 e1 hMM htm ⊢;have hSR:(S.map bf).length=S.length:=af ..;have hRR:(R.map bf).length=R.length:=af ..;have hts:(S.map bf).take S.length=S.map bf:=aw (by omega)
  have htR:(R.map bf).take R.length=R.map bf:=aw (by omega)
  cases hq:Dm m n S R with
  | none=>
   rw [hq] at e6
   change _=some (D.tup [.sl .leaf [],.bool false]) at e6
   refine ⟨some 0,pm hT rfl ?_⟩;show _=some (V.tup [.sl 2 [] 0 0 (some 0),(.d (.int .i64 4))],_,[Blk.sl false (.arr 64 .leaf) []]);clear hSl hRl hn h4 heq2 hS hR hdg hq hfd;generalize row m=Rm,pad (row m)=Pm,R.length=rn,S.length=sn,R.map bf=RR,S.map bf=SR,R.map bo=RD,S.map bo=SD at *;simp -implicitDefEqProofs [ir_impl_DecodeRank_hwt,ir_impl_DecodeRank_hwt_B,ap,e0,e1,e3,e4,e5,e6,hLL,hMM,htl,htm,hSR,hRR,hts,htR,List.idxOf,List.findIdx,List.findIdx.go]
  | some q=>
   rw [hq] at e6
   change _=some (D.tup [.sl .leaf (q.map bf),.bool true]) at e6
   have hql:=S7 hq;have hqs:=Qm hm hn h4 heq2 hS hR hq;have hqr:∀c∈q,c.len≤64:=fun c hc=>by have:=hqs.res c hc; omega
   have e7:=hpo p q (by omega) hqr
   have hout:(skP ((pd8 q).take n)).map bh=q.map bo++List.replicate (n-q.length) (D.arr 64 .leaf (aq .u8 (pad []))):=by
    rw [a04 hql (by omega),qy,cj,ew]
    show _++List.replicate _ (D.arr 64 .leaf (aq .u8 (pad (row (0:Fp p)))))=_;rw [dj]
   have hcp:(q.map bo).take n++(List.replicate n (D.arr 64 .leaf (aq .u8 (pad [])))).drop (min (q.map bo).length n)=q.map bo++List.replicate (n-q.length) (D.arr 64 .leaf (aq .u8 (pad []))):=by
    rw [aw (by rw [af]; exact hql),af,Nat.min_eq_left hql,List.drop_replicate]
   have h64:n*64≤1099511627776:=by omega
   have hlen:(skP ((pd8 q).take n)).length=n:=by
    unfold skP;rw [af,b8,fx hqs.eight]; omega
   refine ⟨some n,pm hT rfl ?_⟩;show _=some (V.tup [.sl 2 [] 0 (skP ((pd8 q).take n)).length (some n),(.d (.int .i64 0))],_,[Blk.sl false (.arr 64 .leaf) ((skP ((pd8 q).take n)).map bh)]);rw [hlen,hout];generalize q.map bo++List.replicate (n-q.length) (D.arr 64 .leaf (aq .u8 (pad [])))=XD at *;clear hSl hRl hn h4 heq2 hS hR hdg hq hfd hout hlen hql hqs hqr;generalize hz:List.replicate n (D.arr 64 .leaf (aq .u8 (pad [])))=ZD at *;have hzl:ZD.length=n:=by rw [←hz]; exact bt
   generalize row m=Rm,pad (row m)=Pm,R.length=rn,S.length=sn,R.map bf=RR,S.map bf=SR,R.map bo=RD,S.map bo=SD,q.map bf=QR,q.map bo=QD at *;simp -implicitDefEqProofs [ir_impl_DecodeRank_hwt,ir_impl_DecodeRank_hwt_B,ap,e0,e1,e3,e4,e5,e6,e7,h64,hz,hzl,hcp,hLL,hMM,htl,htm,hSR,hRR,hts,htR,List.idxOf,List.findIdx,List.findIdx.go]
 ·obtain ⟨g1,g2⟩:=Q8 h
  rw [g1,g2,fa];refine ⟨some 0,pm hT rfl ?_⟩;generalize ms.length=rn,ls.length=sn,ms.map bh=MD,ls.map bh=LD,decide (iwP ls ms k)=b,fp p l ls ms (iwP ls ms k)=cc at *;simp -implicitDefEqProofs [ir_impl_DecodeRank_hwt,ir_impl_DecodeRank_hwt_B,ap,e0,e1,hLL,hMM,htl,htm,h,List.idxOf,List.findIdx,List.findIdx.go]
end Pe
namespace Pe
open Go Gq
variable {T:Nat→Option Fn} {A:am}
def za (O:am):Prop:=∀(p:Int) (l:List Int),m9 l→l.length=64→∀(ls:List (List Int)),wq ls→ls.length≤9223372036854775807→∀(kk:Int) (ms:List (List Int)),wq ms→ms.length≤9223372036854775807→ask O F1y [(D.int .i64 p),(D.arr 64 .leaf (aq .u8 l)),.sl (.arr 64 .leaf) (ls.map bh),(D.int .i64 kk),.sl (.arr 64 .leaf) (ms.map bh)]=some (D.bool true)
theorem L6 (hT:T F1y=some Z1y) (hp:wj (den T A)) (hk:Wp (den T A)) (hkh:Y3 (den T A)) (he:Y8 (den T A)) (hsz:Xt (den T A)) (hmk:Js (den T A)) (hhd:Lm (den T A)) (hi:qf (den T A) F4) (hih:zc (den T A)) (hs:qf (den T A) F3b):za (den T A):=by
 intro p l bl gl ls ha hl kk ms hb hm;have e0:=hsz (ls.map bh) 1048576 (by omega) (by omega) (by rw [af]; exact hl)
 rw [af] at e0;refine c9 hT rfl ?_
 by_cases hbig:(1048576:Int)<ls.length
 ·rw [if_pos hbig] at e0
  generalize ms.map bh=MD,ls.map bh=LD at *;simp -implicitDefEqProofs [Z1y,Z1y_B,ap,e0]
 ·rw [if_neg hbig] at e0
  have hn0:¬ (1048576:Int)-ls.length<0:=by omega
  have e0':=hsz (ms.map bh) (1048576-ls.length) (by omega) (by omega) (by rw [af]; exact hm)
  rw [af] at e0'
  by_cases hbig2:(1048576:Int)-ls.length<ms.length
  ·rw [if_pos hbig2] at e0'
   generalize ms.map bh=MD,ls.map bh=LD,(1048576:Int)-ls.length=left at *;simp -implicitDefEqProofs [Z1y,Z1y_B,ap,e0,e0',hn0]
  ·rw [if_neg hbig2] at e0'
   have hl2:ls.length+ms.length<2000000:=by omega
   have e1:=hp l bl gl;have e2:=hk ls ha (by omega)
   have f2:=hk ms hb (by omega)
   have e2':=hkh ls ha (by omega)
   have f2':=hkh ms hb (by omega)
   have e3:=hi p l ls kk ms bl gl ha hb hl2;have e4:=hs p l ls kk ms bl gl ha hb hl2;obtain ⟨cp,e5⟩:=hih p l ls kk ms (some ls.length) (some ms.length) bl gl ha hb hl2;obtain ⟨s1,s2⟩:=aeq p l ls kk ms;have e6:=he ls (fun l hl=>(ha l hl).1) (by omega)
   have f6:=he ms (fun l hl=>(hb l hl).1) (by omega)
   have e7:=he (drL p l ls kk ms) s1 (by omega)
   have e8:=hmk ls (some ls.length) 1 (by omega) (by omega) (fun l hl=>(ha l hl).1)
   have f8:=hmk ms (some ms.length) (1+64*ls.length) (by omega) (by omega) (fun l hl=>(hb l hl).1)
   have e9:=hmk (drL p l ls kk ms) cp 1 (by omega) (by omega) s1
   have e10:=hhd 1 (drL p l ls kk ms).length (by omega) (by omega)
   have hLL:(ls.map bh).length=ls.length:=af ..;have htl:(ls.map bh).take ls.length=ls.map bh:=aw (by omega)
   have hMM:(ms.map bh).length=ms.length:=af ..;have htm:(ms.map bh).take ms.length=ms.map bh:=aw (by omega)
   have hRL:((drL p l ls kk ms).map bh).length=(drL p l ls kk ms).length:=af ..;have htr:((drL p l ls kk ms).map bh).take (drL p l ls kk ms).length=(drL p l ls kk ms).map bh:=aw (by omega)
   have hNL:((o9 1 (drL p l ls kk ms).length).map bh).length=(drL p l ls kk ms).length:=by rw [af,ur]
   have htn:((o9 1 (drL p l ls kk ms).length).map bh).take (drL p l ls kk ms).length=(o9 1 (drL p l ls kk ms).length).map bh:=aw (by omega)
   have hn:¬ (1048576:Int)-ls.length-ms.length<0:=by omega
   have hn2:¬ ((1+64*ls.length+64*ms.length:Nat):Int)<0:=by omega
   have hn3:¬ ((1+64*(drL p l ls kk ms).length:Nat):Int)<0:=by omega
   have e01:((1:Nat):Int)=1:=rfl;rw [e01] at e8 e9 e10;generalize ms.length=n2,ls.length=n,ms.map bh=MD,ls.map bh=LD,(1048576:Int)-ls.length=left,(1048576:Int)-ls.length-ms.length=left2,drC p l ls kk ms=cc,(drL p l ls kk ms).length=sl,(drL p l ls kk ms).map bh=SD,(o9 1 (drL p l ls kk ms).length).map bh=ND,(o9 (1+64*ls.length) ms.length).map bh=QE,(o9 1 ls.length).map bh=QD,((1+64*(drL p l ls kk ms).length:Nat):Int)=k2,((1+64*ls.length:Nat):Int)=k1,((1+64*ls.length+64*ms.length:Nat):Int)=k0 at *;simp -implicitDefEqProofs [Z1y,Z1y_B,ap,e0,e0',hn0,e1,e2,f2,e2',f2',e3,e4,e5,e6,f6,e7,e8,f8,e9,e10,hLL,htl,hMM,htm,hRL,htr,hNL,htn,hn,hn2,hn3,List.replicate,List.idxOf,List.findIdx,List.findIdx.go]
end Pe
namespace Pe
open Go
theorem O3:∀(xs:List D),(∀x∈xs,tyP.has x)→∃ls:List (List Int),xs=ls.map bh∧wq ls
 | [],_=>⟨[],rfl,fun _ h=>by cases h⟩
 | x::xs,h=>by
  obtain ⟨ls,rfl,hb⟩:=O3 xs fun y hy=>h y (ka _ hy)
  obtain ⟨l,rfl,b,g⟩:=ad1 (h x (by simp))
  refine ⟨l::ls,rfl,fun y hy=>?_⟩
  rcases dp.1 hy with rfl | hy
  ·exact ⟨g,b⟩
  ·exact hb y hy
abbrev tyPs:Ty:=.sl tyP
theorem a6w {d:D} (h:tyPs.has d):∃ls:List (List Int),d=.sl (.arr 64 .leaf) (ls.map bh)∧wq ls∧ls.length≤9223372036854775807:=by
 cases d <;> simp only [Ty.has] at h
 obtain ⟨rfl,h1,h2⟩:=h;obtain ⟨ls,rfl,hb⟩:=O3 _ h2;exact ⟨ls,rfl,hb,by simpa using h1⟩
end Pe
