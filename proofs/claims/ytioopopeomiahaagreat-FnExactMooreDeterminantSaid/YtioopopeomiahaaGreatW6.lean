/-
  A part of the proof: an evaluator for a small form of the code, its soundness, and contracts of functions over it.
-/
import Derived.Test.YtioopopeomiahaaGreatProg
import Derived.KernelRfl
import Derived.Test.YtioopopeomiahaaGreatW1
import Derived.Test.YtioopopeomiahaaGreatW2
import Derived.Test.YtioopopeomiahaaGreatW3
import Derived.Test.YtioopopeomiahaaGreatW4
import Derived.Test.YtioopopeomiahaaGreatW5

namespace Pe
open Go
def tab:List (Nat×Fn):=[(F0,Z0),(F1,Z1),(F2,Z2),(F3,Z3),(F4,Z4),(F5,Z5),(F7,Z7),(F8,Z8),(F9,Z9),(Fa,Za),(Fb,Zb),(Fc,Zc),(Fe,Ze),(Ff,Zf),(Fg,Zg),(Fh,Zh),(Fi,Zi),(Fj,Zj),(Fk,Zk),(Fl,Zl),(Fm,Zm),(Fo,Zo),(Fq,Zq),(Fr,Zr),(Fs,Zs),(Ft,Zt),(Fu,Zu),(Fv,Zv),(Fw,Zw),(Fx,Zx),(Fy,Zy),(Fz,Zz),(F10,Z10),(F11,Z11),(F12,Z12),(F13,Z13),(F14,Z14),(F15,Z15),(F16,Z16),(F17,Z17),(F18,Z18),(F19,Z19),(F1a,Z1a),(F1b,Z1b),(F1c,Z1c),(F1d,Z1d),(F1e,Z1e),(F1f,Z1f),(F1g,Z1g),(F1h,Z1h),(F1i,Z1i),(F1j,Z1j),(F1k,Z1k),(F1l,Z1l),(F1m,Z1m),(F1n,Z1n),(F1o,Z1o),(F1p,Z1p),(F1r,Z1r),(F1t,Z1t),(F1u,Z1u),(F1v,Z1v),(F1w,Z1w),(F1x,Z1x),(F21,Z21),(F29,Z29),(F2d,ir_spec_MooreDeterminantt),(F2e,Z2e),(F2f,Z2f),(F2g,Z2g),(F2h,Z2h),(F2i,Z2i),(F2j,Z2j),(F2k,Z2k),(F2l,Z2l),(F2m,Z2m),(F2n,Z2n),(F2o,Z2o),(F2p,Z2p),(F2q,Z2q),(F2r,Z2r),(F2s,Z2s),(F2t,Z2t),(F2u,Z2u),(F2v,Z2v),(F2w,Z2w),(F2x,Z2x),(F2y,Z2y),(F2z,Z2z),(F30,Z30),(F31,ir_spec_l09Determinantt),(F32,Z32),(F33,ir_spec_l09Moore_ht)]
def nums:List (Nat×Nat):=[(F1n,6),(F1k,9),(F1m,4),(F1o,7),(F1l,10),(F2g,24),(F2s,64),(F2m,52),(F2z,37),(F2j,54),(F2k,38),(F2h,22),(F2n,12),(F2q,23),(F2e,25),(F2v,39),(F2p,26),(F2r,41),(F2u,56),(F2f,40),(F2i,66),(F2t,65),(F2l,55),(F2o,53),(F2w,36),(F30,21),(F32,11),(F2y,27),(F31,13),(F2x,28),(F33,14),(F2d,5),(F1e,32),(F1b,46),(F1c,31),(F1h,17),(F1f,45),(F19,30),(Fc,16),(F1v,92),(F1t,83),(F8,84),(F7,71),(Fl,72),(Fk,62),(Fg,44),(F12,49),(F1a,50),(Fs,34),(F16,48),(F14,75),(Fx,74),(F1d,68),(F1s,73),(Ft,63),(Fr,85),(Fw,77),(F13,47),(F11,51),(Fo,76),(F10,87),(Fz,86),(F17,78),(F15,79),(F21,93),(F2b,105),(F20,94),(F1q,101),(F1r,102),(F1p,89),(F24,106),(F2c,107),(F1y,95),(F25,110),(F23,109),(F22,108),(F1z,96),(F2a,97),(F26,98),(F28,99),(F27,100),(F29,88),(F1x,80),(F2,103),(F0,90),(F3,104),(F1,91),(Fb,82),(Fv,81),(Fu,69),(Fy,59),(F1i,58),(Fm,67),(F4,57),(Fj,42),(F1w,70),(F1u,60),(Fa,61),(F9,43),(F18,29),(Fq,15),(F1g,20),(Fi,33),(Fe,18),(Ff,35),(Fh,19),(F5,8),(F1j,3)]
def tabF (f:Nat):Option Fn:=tab.lookup f
def numF (f:Nat):Nat:=(nums.lookup f).getD 0
theorem K0:dj Go.Proofs.Tryz.prog numF (numF F0) Z0=true:=by kernel_rfl
theorem K1:dj Go.Proofs.Tryz.prog numF (numF F1) Z1=true:=by kernel_rfl
theorem K2:dj Go.Proofs.Tryz.prog numF (numF F2) Z2=true:=by kernel_rfl
theorem K3:dj Go.Proofs.Tryz.prog numF (numF F3) Z3=true:=by kernel_rfl
theorem K4:dj Go.Proofs.Tryz.prog numF (numF F4) Z4=true:=by kernel_rfl
theorem K5:dj Go.Proofs.Tryz.prog numF (numF F5) Z5=true:=by kernel_rfl
theorem K7:dj Go.Proofs.Tryz.prog numF (numF F7) Z7=true:=by kernel_rfl
theorem K8:dj Go.Proofs.Tryz.prog numF (numF F8) Z8=true:=by kernel_rfl
theorem K9:dj Go.Proofs.Tryz.prog numF (numF F9) Z9=true:=by kernel_rfl
theorem Ka:dj Go.Proofs.Tryz.prog numF (numF Fa) Za=true:=by kernel_rfl
theorem Kb:dj Go.Proofs.Tryz.prog numF (numF Fb) Zb=true:=by kernel_rfl
theorem Kc:dj Go.Proofs.Tryz.prog numF (numF Fc) Zc=true:=by kernel_rfl
theorem Ke:dj Go.Proofs.Tryz.prog numF (numF Fe) Ze=true:=by kernel_rfl
theorem Kf:dj Go.Proofs.Tryz.prog numF (numF Ff) Zf=true:=by kernel_rfl
theorem Kg:dj Go.Proofs.Tryz.prog numF (numF Fg) Zg=true:=by kernel_rfl
theorem Kh:dj Go.Proofs.Tryz.prog numF (numF Fh) Zh=true:=by kernel_rfl
theorem Ki:dj Go.Proofs.Tryz.prog numF (numF Fi) Zi=true:=by kernel_rfl
theorem Kj:dj Go.Proofs.Tryz.prog numF (numF Fj) Zj=true:=by kernel_rfl
theorem Kk:dj Go.Proofs.Tryz.prog numF (numF Fk) Zk=true:=by kernel_rfl
theorem Kl:dj Go.Proofs.Tryz.prog numF (numF Fl) Zl=true:=by kernel_rfl
theorem Km:dj Go.Proofs.Tryz.prog numF (numF Fm) Zm=true:=by kernel_rfl
theorem Ko:dj Go.Proofs.Tryz.prog numF (numF Fo) Zo=true:=by kernel_rfl
theorem Kq:dj Go.Proofs.Tryz.prog numF (numF Fq) Zq=true:=by kernel_rfl
theorem Kr:dj Go.Proofs.Tryz.prog numF (numF Fr) Zr=true:=by kernel_rfl
theorem Ks:dj Go.Proofs.Tryz.prog numF (numF Fs) Zs=true:=by kernel_rfl
theorem Kt:dj Go.Proofs.Tryz.prog numF (numF Ft) Zt=true:=by kernel_rfl
theorem Ku:dj Go.Proofs.Tryz.prog numF (numF Fu) Zu=true:=by kernel_rfl
theorem Kv:dj Go.Proofs.Tryz.prog numF (numF Fv) Zv=true:=by kernel_rfl
theorem Kw:dj Go.Proofs.Tryz.prog numF (numF Fw) Zw=true:=by kernel_rfl
theorem Kx:dj Go.Proofs.Tryz.prog numF (numF Fx) Zx=true:=by kernel_rfl
theorem Ky:dj Go.Proofs.Tryz.prog numF (numF Fy) Zy=true:=by kernel_rfl
theorem Kz:dj Go.Proofs.Tryz.prog numF (numF Fz) Zz=true:=by kernel_rfl
theorem K10:dj Go.Proofs.Tryz.prog numF (numF F10) Z10=true:=by kernel_rfl
theorem K11:dj Go.Proofs.Tryz.prog numF (numF F11) Z11=true:=by kernel_rfl
theorem K12:dj Go.Proofs.Tryz.prog numF (numF F12) Z12=true:=by kernel_rfl
theorem K13:dj Go.Proofs.Tryz.prog numF (numF F13) Z13=true:=by kernel_rfl
theorem K14:dj Go.Proofs.Tryz.prog numF (numF F14) Z14=true:=by kernel_rfl
theorem K15:dj Go.Proofs.Tryz.prog numF (numF F15) Z15=true:=by kernel_rfl
theorem K16:dj Go.Proofs.Tryz.prog numF (numF F16) Z16=true:=by kernel_rfl
theorem K17:dj Go.Proofs.Tryz.prog numF (numF F17) Z17=true:=by kernel_rfl
theorem K18:dj Go.Proofs.Tryz.prog numF (numF F18) Z18=true:=by kernel_rfl
theorem K19:dj Go.Proofs.Tryz.prog numF (numF F19) Z19=true:=by kernel_rfl
theorem K1a:dj Go.Proofs.Tryz.prog numF (numF F1a) Z1a=true:=by kernel_rfl
theorem K1b:dj Go.Proofs.Tryz.prog numF (numF F1b) Z1b=true:=by kernel_rfl
theorem K1c:dj Go.Proofs.Tryz.prog numF (numF F1c) Z1c=true:=by kernel_rfl
theorem K1d:dj Go.Proofs.Tryz.prog numF (numF F1d) Z1d=true:=by kernel_rfl
theorem K1e:dj Go.Proofs.Tryz.prog numF (numF F1e) Z1e=true:=by kernel_rfl
theorem K1f:dj Go.Proofs.Tryz.prog numF (numF F1f) Z1f=true:=by kernel_rfl
theorem K1g:dj Go.Proofs.Tryz.prog numF (numF F1g) Z1g=true:=by kernel_rfl
theorem K1h:dj Go.Proofs.Tryz.prog numF (numF F1h) Z1h=true:=by kernel_rfl
theorem K1i:dj Go.Proofs.Tryz.prog numF (numF F1i) Z1i=true:=by kernel_rfl
theorem K1j:dj Go.Proofs.Tryz.prog numF (numF F1j) Z1j=true:=by kernel_rfl
theorem K1k:dj Go.Proofs.Tryz.prog numF (numF F1k) Z1k=true:=by kernel_rfl
theorem K1l:dj Go.Proofs.Tryz.prog numF (numF F1l) Z1l=true:=by kernel_rfl
theorem K1m:dj Go.Proofs.Tryz.prog numF (numF F1m) Z1m=true:=by kernel_rfl
theorem K1n:dj Go.Proofs.Tryz.prog numF (numF F1n) Z1n=true:=by kernel_rfl
theorem K1o:dj Go.Proofs.Tryz.prog numF (numF F1o) Z1o=true:=by kernel_rfl
theorem K1p:dj Go.Proofs.Tryz.prog numF (numF F1p) Z1p=true:=by kernel_rfl
theorem K1r:dj Go.Proofs.Tryz.prog numF (numF F1r) Z1r=true:=by kernel_rfl
theorem K1t:dj Go.Proofs.Tryz.prog numF (numF F1t) Z1t=true:=by kernel_rfl
theorem K1u:dj Go.Proofs.Tryz.prog numF (numF F1u) Z1u=true:=by kernel_rfl
theorem K1v:dj Go.Proofs.Tryz.prog numF (numF F1v) Z1v=true:=by kernel_rfl
theorem K1w:dj Go.Proofs.Tryz.prog numF (numF F1w) Z1w=true:=by kernel_rfl
theorem K1x:dj Go.Proofs.Tryz.prog numF (numF F1x) Z1x=true:=by kernel_rfl
theorem K21:dj Go.Proofs.Tryz.prog numF (numF F21) Z21=true:=by kernel_rfl
theorem K29:dj Go.Proofs.Tryz.prog numF (numF F29) Z29=true:=by kernel_rfl
theorem K2d:dj Go.Proofs.Tryz.prog numF (numF F2d) ir_spec_MooreDeterminantt=true:=by kernel_rfl
theorem K2e:dj Go.Proofs.Tryz.prog numF (numF F2e) Z2e=true:=by kernel_rfl
theorem K2f:dj Go.Proofs.Tryz.prog numF (numF F2f) Z2f=true:=by kernel_rfl
theorem K2g:dj Go.Proofs.Tryz.prog numF (numF F2g) Z2g=true:=by kernel_rfl
theorem K2h:dj Go.Proofs.Tryz.prog numF (numF F2h) Z2h=true:=by kernel_rfl
theorem K2i:dj Go.Proofs.Tryz.prog numF (numF F2i) Z2i=true:=by kernel_rfl
theorem K2j:dj Go.Proofs.Tryz.prog numF (numF F2j) Z2j=true:=by kernel_rfl
theorem K2k:dj Go.Proofs.Tryz.prog numF (numF F2k) Z2k=true:=by kernel_rfl
theorem K2l:dj Go.Proofs.Tryz.prog numF (numF F2l) Z2l=true:=by kernel_rfl
theorem K2m:dj Go.Proofs.Tryz.prog numF (numF F2m) Z2m=true:=by kernel_rfl
theorem K2n:dj Go.Proofs.Tryz.prog numF (numF F2n) Z2n=true:=by kernel_rfl
theorem K2o:dj Go.Proofs.Tryz.prog numF (numF F2o) Z2o=true:=by kernel_rfl
theorem K2p:dj Go.Proofs.Tryz.prog numF (numF F2p) Z2p=true:=by kernel_rfl
theorem K2q:dj Go.Proofs.Tryz.prog numF (numF F2q) Z2q=true:=by kernel_rfl
theorem K2r:dj Go.Proofs.Tryz.prog numF (numF F2r) Z2r=true:=by kernel_rfl
theorem K2s:dj Go.Proofs.Tryz.prog numF (numF F2s) Z2s=true:=by kernel_rfl
theorem K2t:dj Go.Proofs.Tryz.prog numF (numF F2t) Z2t=true:=by kernel_rfl
theorem K2u:dj Go.Proofs.Tryz.prog numF (numF F2u) Z2u=true:=by kernel_rfl
theorem K2v:dj Go.Proofs.Tryz.prog numF (numF F2v) Z2v=true:=by kernel_rfl
theorem K2w:dj Go.Proofs.Tryz.prog numF (numF F2w) Z2w=true:=by kernel_rfl
theorem K2x:dj Go.Proofs.Tryz.prog numF (numF F2x) Z2x=true:=by kernel_rfl
theorem K2y:dj Go.Proofs.Tryz.prog numF (numF F2y) Z2y=true:=by kernel_rfl
theorem K2z:dj Go.Proofs.Tryz.prog numF (numF F2z) Z2z=true:=by kernel_rfl
theorem K30:dj Go.Proofs.Tryz.prog numF (numF F30) Z30=true:=by kernel_rfl
theorem K31:dj Go.Proofs.Tryz.prog numF (numF F31) ir_spec_l09Determinantt=true:=by kernel_rfl
theorem K32:dj Go.Proofs.Tryz.prog numF (numF F32) Z32=true:=by kernel_rfl
theorem K33:dj Go.Proofs.Tryz.prog numF (numF F33) ir_spec_l09Moore_ht=true:=by kernel_rfl
theorem a3l:∀f fn,tabF f=some fn→∃g,Go.Proofs.Tryz.prog.funcs[numF f]? = some g∧Bm Go.Proofs.Tryz.prog numF fn g=true:=Et (l:=tab) ⟨K0,K1,K2,K3,K4,K5,K7,K8,K9,Ka,Kb,Kc,Ke,Kf,Kg,Kh,Ki,Kj,Kk,Kl,Km,Ko,Kq,Kr,Ks,Kt,Ku,Kv,Kw,Kx,Ky,Kz,K10,K11,K12,K13,K14,K15,K16,K17,K18,K19,K1a,K1b,K1c,K1d,K1e,K1f,K1g,K1h,K1i,K1j,K1k,K1l,K1m,K1n,K1o,K1p,K1r,K1t,K1u,K1v,K1w,K1x,K21,K29,K2d,K2e,K2f,K2g,K2h,K2i,K2j,K2k,K2l,K2m,K2n,K2o,K2p,K2q,K2r,K2s,K2t,K2u,K2v,K2w,K2x,K2y,K2z,K30,K31,K32,K33,trivial⟩
def uz (f:Nat):Option (Sh×D×Nat):=if f=F1s then some (.leaf,.int .i64 0,8) else none
theorem a1z:Go.Proofs.Tryz.prog.follows .mixedOrders=true:=by kernel_rfl
theorem T4:∀f s z bytes,uz f=some (s,z,bytes)→Sh.beq s s=true∧∃g,Go.Proofs.Tryz.prog.funcs[numF f]? = some g∧Bm Go.Proofs.Tryz.prog numF (ro s z bytes) g=true∧(match g.body with | some x=>od x | none=>false)=true:=by
 intro f s z bytes h;unfold uz at h
 split at h
 ·rename_i hf
  subst hf;obtain ⟨rfl,rfl,rfl⟩:Sh.leaf=s∧D.int .i64 0=z∧8=bytes:=by simpa using h
  refine ⟨rfl,?_⟩;have h1:(match Go.Proofs.Tryz.prog.funcs[numF F1s]? with | some g=>Bm Go.Proofs.Tryz.prog numF (ro .leaf (.int .i64 0) 8) g&&(match g.body with | some x=>od x | none=>false) | none=>false)=true:=by kernel_rfl
  split at h1
  ·rename_i g hg
   simp only [af] at h1;exact ⟨g,hg,h1.1,h1.2⟩
  ·cases h1
 ·cases h
theorem sound:jk Go.Proofs.Tryz.prog numF (den tabF (Am uz)):=Sy a3l (Iz a1z T4) a1z
end Pe
