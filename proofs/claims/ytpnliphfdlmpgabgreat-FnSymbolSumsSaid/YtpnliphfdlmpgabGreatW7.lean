/-
  A part of the proof: an evaluator for a small form of the code, its soundness, and contracts of functions over it.
-/
import Derived.Test.YtpnliphfdlmpgabGreatProg
import Derived.KernelRfl
import Derived.Test.YtpnliphfdlmpgabGreatW1
import Derived.Test.YtpnliphfdlmpgabGreatW2
import Derived.Test.YtpnliphfdlmpgabGreatW3
import Derived.Test.YtpnliphfdlmpgabGreatW4
import Derived.Test.YtpnliphfdlmpgabGreatW5
import Derived.Test.YtpnliphfdlmpgabGreatW6

namespace Pe
open Go
def tab:List (Nat×Fn):=[(F0,Z0),(F1,Z1),(F2,Z2),(F3,Z3),(F4,Z4),(F5,Z5),(F6,Z6),(F7,Z7),(F8,Z8),(F9,Z9),(Fa,Za),(Fb,Zb),(Fc,Zc),(Fe,Ze),(Ff,Zf),(Fg,Zg),(Fh,Zh),(Fi,Zi),(Fj,Zj),(Fk,Zk),(Fl,Zl),(Fm,Zm),(Fo,Zo),(Fq,Zq),(Fr,Zr),(Fs,Zs),(Ft,Zt),(Fu,Zu),(Fv,Zv),(Fw,Zw),(Fx,Zx),(Fy,Zy),(Fz,Zz),(F10,Z10),(F11,Z11),(F12,Z12),(F13,Z13),(F14,Z14),(F15,Z15),(F16,Z16),(F17,Z17),(F18,Z18),(F19,Z19),(F1a,Z1a),(F1b,Z1b),(F1c,Z1c),(F1d,Z1d),(F1e,Z1e),(F1f,Z1f),(F1g,Z1g),(F1h,Z1h),(F1i,Z1i),(F1j,Z1j),(F1k,Z1k),(F1l,Z1l),(F1m,Z1m),(F1n,Z1n),(F1o,Z1o),(F1p,Z1p),(F1q,Z1q),(F1r,Z1r),(F1s,Z1s),(F1t,Z1t),(F1u,Z1u),(F1w,Z1w),(F1y,Z1y),(F1z,Z1z),(F20,Z20),(F21,Z21),(F22,Z22),(F26,Z26),(F2e,Z2e),(F2i,Z2i),(F2j,Z2j),(F2k,Z2k),(F2l,Z2l),(F2m,Z2m),(F2n,Z2n),(F2o,Z2o),(F2p,Z2p),(F2q,Z2q),(F2r,Z2r),(F2s,Z2s),(F2t,Z2t),(F2u,Z2u),(F2v,Z2v),(F2w,Z2w),(F2x,Z2x),(F2y,Z2y),(F2z,Z2z),(F30,Z30),(F31,Z31),(F32,Z32),(F33,Z33),(F34,Z34),(F35,Z35),(F36,Z36),(F37,Z37),(F38,Z38),(F39,Z39),(F3a,Z3a),(F3b,Z3b),(F3c,Z3c),(F3d,Z3d),(F3e,Z3e),(F3f,Z3f),(F3g,Z3g),(F3h,Z3h),(F3i,Z3i),(F3j,Z3j),(F3k,Z3k),(F3l,Z3l),(F3m,Z3m),(F3n,Z3n),(F3o,Z3o),(F3p,Z3p),(F3q,Z3q),(F3r,Z3r)]
def nums:List (Nat×Nat):=[(F2w,39),(F32,68),(F3f,65),(F35,66),(F2u,31),(F37,67),(F3p,32),(F2v,38),(F33,98),(F2x,97),(F36,99),(F3c,56),(F2r,55),(F3i,111),(F38,100),(F3e,76),(F3b,40),(F3k,75),(F3j,77),(F3l,46),(F3r,33),(F2p,10),(F2i,13),(F1n,64),(F1h,30),(F1j,36),(Fo,42),(F21,112),(F1z,101),(Fh,102),(Fg,81),(F20,129),(F1y,113),(Ff,114),(Fe,103),(Fm,104),(Fl,83),(Ft,82),(Fs,57),(F1p,63),(F1l,62),(Fr,28),(F15,69),(F13,35),(F16,70),(F14,37),(F1a,78),(F1i,73),(Fv,49),(F1f,51),(F1c,87),(F10,88),(F1x,115),(Fw,105),(Fu,84),(Fz,90),(F1b,96),(F17,72),(Fq,89),(F1g,91),(F1d,92),(F26,117),(F2g,130),(F25,118),(F1v,125),(F1w,126),(F1u,108),(F29,131),(F2h,132),(F23,119),(F2a,135),(F28,134),(F27,133),(F24,120),(F2f,121),(F2b,122),(F2d,123),(F2c,124),(F2e,107),(F22,93),(F2,127),(F0,109),(F3,128),(F1,110),(Fi,95),(Fy,94),(Fx,71),(F1e,44),(F18,29),(Fb,9),(F5,12),(F1r,4),(F6,21),(F1m,80),(F4,60),(F7,23),(F11,59),(Fj,58),(F8,22),(F30,24),(F3a,47),(F2y,27),(F3h,53),(F2t,116),(F31,106),(F3g,85),(F34,86),(F2z,61),(F3d,34),(F3n,25),(F2s,26),(F2j,5),(F9,6),(F2n,7),(F2l,8),(F1s,11),(F39,41),(F2m,14),(F12,43),(Fc,15),(F3m,74),(F3o,45),(F2q,16),(F2k,17),(F1k,79),(F1o,52),(Fk,48),(F19,50),(Fa,18),(F3q,54),(F2o,19),(F1t,20),(F1q,3)]
def tabF (f:Nat):Option Fn:=tab.lookup f
def numF (f:Nat):Nat:=(nums.lookup f).getD 0
theorem K0:okAt Go.Proofs.Tryz.prog numF (numF F0) Z0=true:=by kernel_rfl
theorem K1:okAt Go.Proofs.Tryz.prog numF (numF F1) Z1=true:=by kernel_rfl
theorem K2:okAt Go.Proofs.Tryz.prog numF (numF F2) Z2=true:=by kernel_rfl
theorem K3:okAt Go.Proofs.Tryz.prog numF (numF F3) Z3=true:=by kernel_rfl
theorem K4:okAt Go.Proofs.Tryz.prog numF (numF F4) Z4=true:=by kernel_rfl
theorem K5:okAt Go.Proofs.Tryz.prog numF (numF F5) Z5=true:=by kernel_rfl
theorem K6:okAt Go.Proofs.Tryz.prog numF (numF F6) Z6=true:=by kernel_rfl
theorem K7:okAt Go.Proofs.Tryz.prog numF (numF F7) Z7=true:=by kernel_rfl
theorem K8:okAt Go.Proofs.Tryz.prog numF (numF F8) Z8=true:=by kernel_rfl
theorem K9:okAt Go.Proofs.Tryz.prog numF (numF F9) Z9=true:=by kernel_rfl
theorem Ka:okAt Go.Proofs.Tryz.prog numF (numF Fa) Za=true:=by kernel_rfl
theorem Kb:okAt Go.Proofs.Tryz.prog numF (numF Fb) Zb=true:=by kernel_rfl
theorem Kc:okAt Go.Proofs.Tryz.prog numF (numF Fc) Zc=true:=by kernel_rfl
theorem Ke:okAt Go.Proofs.Tryz.prog numF (numF Fe) Ze=true:=by kernel_rfl
theorem Kf:okAt Go.Proofs.Tryz.prog numF (numF Ff) Zf=true:=by kernel_rfl
theorem Kg:okAt Go.Proofs.Tryz.prog numF (numF Fg) Zg=true:=by kernel_rfl
theorem Kh:okAt Go.Proofs.Tryz.prog numF (numF Fh) Zh=true:=by kernel_rfl
theorem Ki:okAt Go.Proofs.Tryz.prog numF (numF Fi) Zi=true:=by kernel_rfl
theorem Kj:okAt Go.Proofs.Tryz.prog numF (numF Fj) Zj=true:=by kernel_rfl
theorem Kk:okAt Go.Proofs.Tryz.prog numF (numF Fk) Zk=true:=by kernel_rfl
theorem Kl:okAt Go.Proofs.Tryz.prog numF (numF Fl) Zl=true:=by kernel_rfl
theorem Km:okAt Go.Proofs.Tryz.prog numF (numF Fm) Zm=true:=by kernel_rfl
theorem Ko:okAt Go.Proofs.Tryz.prog numF (numF Fo) Zo=true:=by kernel_rfl
theorem Kq:okAt Go.Proofs.Tryz.prog numF (numF Fq) Zq=true:=by kernel_rfl
theorem Kr:okAt Go.Proofs.Tryz.prog numF (numF Fr) Zr=true:=by kernel_rfl
theorem Ks:okAt Go.Proofs.Tryz.prog numF (numF Fs) Zs=true:=by kernel_rfl
theorem Kt:okAt Go.Proofs.Tryz.prog numF (numF Ft) Zt=true:=by kernel_rfl
theorem Ku:okAt Go.Proofs.Tryz.prog numF (numF Fu) Zu=true:=by kernel_rfl
theorem Kv:okAt Go.Proofs.Tryz.prog numF (numF Fv) Zv=true:=by kernel_rfl
theorem Kw:okAt Go.Proofs.Tryz.prog numF (numF Fw) Zw=true:=by kernel_rfl
theorem Kx:okAt Go.Proofs.Tryz.prog numF (numF Fx) Zx=true:=by kernel_rfl
theorem Ky:okAt Go.Proofs.Tryz.prog numF (numF Fy) Zy=true:=by kernel_rfl
theorem Kz:okAt Go.Proofs.Tryz.prog numF (numF Fz) Zz=true:=by kernel_rfl
theorem K10:okAt Go.Proofs.Tryz.prog numF (numF F10) Z10=true:=by kernel_rfl
theorem K11:okAt Go.Proofs.Tryz.prog numF (numF F11) Z11=true:=by kernel_rfl
theorem K12:okAt Go.Proofs.Tryz.prog numF (numF F12) Z12=true:=by kernel_rfl
theorem K13:okAt Go.Proofs.Tryz.prog numF (numF F13) Z13=true:=by kernel_rfl
theorem K14:okAt Go.Proofs.Tryz.prog numF (numF F14) Z14=true:=by kernel_rfl
theorem K15:okAt Go.Proofs.Tryz.prog numF (numF F15) Z15=true:=by kernel_rfl
theorem K16:okAt Go.Proofs.Tryz.prog numF (numF F16) Z16=true:=by kernel_rfl
theorem K17:okAt Go.Proofs.Tryz.prog numF (numF F17) Z17=true:=by kernel_rfl
theorem K18:okAt Go.Proofs.Tryz.prog numF (numF F18) Z18=true:=by kernel_rfl
theorem K19:okAt Go.Proofs.Tryz.prog numF (numF F19) Z19=true:=by kernel_rfl
theorem K1a:okAt Go.Proofs.Tryz.prog numF (numF F1a) Z1a=true:=by kernel_rfl
theorem K1b:okAt Go.Proofs.Tryz.prog numF (numF F1b) Z1b=true:=by kernel_rfl
theorem K1c:okAt Go.Proofs.Tryz.prog numF (numF F1c) Z1c=true:=by kernel_rfl
theorem K1d:okAt Go.Proofs.Tryz.prog numF (numF F1d) Z1d=true:=by kernel_rfl
theorem K1e:okAt Go.Proofs.Tryz.prog numF (numF F1e) Z1e=true:=by kernel_rfl
theorem K1f:okAt Go.Proofs.Tryz.prog numF (numF F1f) Z1f=true:=by kernel_rfl
theorem K1g:okAt Go.Proofs.Tryz.prog numF (numF F1g) Z1g=true:=by kernel_rfl
theorem K1h:okAt Go.Proofs.Tryz.prog numF (numF F1h) Z1h=true:=by kernel_rfl
theorem K1i:okAt Go.Proofs.Tryz.prog numF (numF F1i) Z1i=true:=by kernel_rfl
theorem K1j:okAt Go.Proofs.Tryz.prog numF (numF F1j) Z1j=true:=by kernel_rfl
theorem K1k:okAt Go.Proofs.Tryz.prog numF (numF F1k) Z1k=true:=by kernel_rfl
theorem K1l:okAt Go.Proofs.Tryz.prog numF (numF F1l) Z1l=true:=by kernel_rfl
theorem K1m:okAt Go.Proofs.Tryz.prog numF (numF F1m) Z1m=true:=by kernel_rfl
theorem K1n:okAt Go.Proofs.Tryz.prog numF (numF F1n) Z1n=true:=by kernel_rfl
theorem K1o:okAt Go.Proofs.Tryz.prog numF (numF F1o) Z1o=true:=by kernel_rfl
theorem K1p:okAt Go.Proofs.Tryz.prog numF (numF F1p) Z1p=true:=by kernel_rfl
theorem K1q:okAt Go.Proofs.Tryz.prog numF (numF F1q) Z1q=true:=by kernel_rfl
theorem K1r:okAt Go.Proofs.Tryz.prog numF (numF F1r) Z1r=true:=by kernel_rfl
theorem K1s:okAt Go.Proofs.Tryz.prog numF (numF F1s) Z1s=true:=by kernel_rfl
theorem K1t:okAt Go.Proofs.Tryz.prog numF (numF F1t) Z1t=true:=by kernel_rfl
theorem K1u:okAt Go.Proofs.Tryz.prog numF (numF F1u) Z1u=true:=by kernel_rfl
theorem K1w:okAt Go.Proofs.Tryz.prog numF (numF F1w) Z1w=true:=by kernel_rfl
theorem K1y:okAt Go.Proofs.Tryz.prog numF (numF F1y) Z1y=true:=by kernel_rfl
theorem K1z:okAt Go.Proofs.Tryz.prog numF (numF F1z) Z1z=true:=by kernel_rfl
theorem K20:okAt Go.Proofs.Tryz.prog numF (numF F20) Z20=true:=by kernel_rfl
theorem K21:okAt Go.Proofs.Tryz.prog numF (numF F21) Z21=true:=by kernel_rfl
theorem K22:okAt Go.Proofs.Tryz.prog numF (numF F22) Z22=true:=by kernel_rfl
theorem K26:okAt Go.Proofs.Tryz.prog numF (numF F26) Z26=true:=by kernel_rfl
theorem K2e:okAt Go.Proofs.Tryz.prog numF (numF F2e) Z2e=true:=by kernel_rfl
theorem K2i:okAt Go.Proofs.Tryz.prog numF (numF F2i) Z2i=true:=by kernel_rfl
theorem K2j:okAt Go.Proofs.Tryz.prog numF (numF F2j) Z2j=true:=by kernel_rfl
theorem K2k:okAt Go.Proofs.Tryz.prog numF (numF F2k) Z2k=true:=by kernel_rfl
theorem K2l:okAt Go.Proofs.Tryz.prog numF (numF F2l) Z2l=true:=by kernel_rfl
theorem K2m:okAt Go.Proofs.Tryz.prog numF (numF F2m) Z2m=true:=by kernel_rfl
theorem K2n:okAt Go.Proofs.Tryz.prog numF (numF F2n) Z2n=true:=by kernel_rfl
theorem K2o:okAt Go.Proofs.Tryz.prog numF (numF F2o) Z2o=true:=by kernel_rfl
theorem K2p:okAt Go.Proofs.Tryz.prog numF (numF F2p) Z2p=true:=by kernel_rfl
theorem K2q:okAt Go.Proofs.Tryz.prog numF (numF F2q) Z2q=true:=by kernel_rfl
theorem K2r:okAt Go.Proofs.Tryz.prog numF (numF F2r) Z2r=true:=by kernel_rfl
theorem K2s:okAt Go.Proofs.Tryz.prog numF (numF F2s) Z2s=true:=by kernel_rfl
theorem K2t:okAt Go.Proofs.Tryz.prog numF (numF F2t) Z2t=true:=by kernel_rfl
theorem K2u:okAt Go.Proofs.Tryz.prog numF (numF F2u) Z2u=true:=by kernel_rfl
theorem K2v:okAt Go.Proofs.Tryz.prog numF (numF F2v) Z2v=true:=by kernel_rfl
theorem K2w:okAt Go.Proofs.Tryz.prog numF (numF F2w) Z2w=true:=by kernel_rfl
theorem K2x:okAt Go.Proofs.Tryz.prog numF (numF F2x) Z2x=true:=by kernel_rfl
theorem K2y:okAt Go.Proofs.Tryz.prog numF (numF F2y) Z2y=true:=by kernel_rfl
theorem K2z:okAt Go.Proofs.Tryz.prog numF (numF F2z) Z2z=true:=by kernel_rfl
theorem K30:okAt Go.Proofs.Tryz.prog numF (numF F30) Z30=true:=by kernel_rfl
theorem K31:okAt Go.Proofs.Tryz.prog numF (numF F31) Z31=true:=by kernel_rfl
theorem K32:okAt Go.Proofs.Tryz.prog numF (numF F32) Z32=true:=by kernel_rfl
theorem K33:okAt Go.Proofs.Tryz.prog numF (numF F33) Z33=true:=by kernel_rfl
theorem K34:okAt Go.Proofs.Tryz.prog numF (numF F34) Z34=true:=by kernel_rfl
theorem K35:okAt Go.Proofs.Tryz.prog numF (numF F35) Z35=true:=by kernel_rfl
theorem K36:okAt Go.Proofs.Tryz.prog numF (numF F36) Z36=true:=by kernel_rfl
theorem K37:okAt Go.Proofs.Tryz.prog numF (numF F37) Z37=true:=by kernel_rfl
theorem K38:okAt Go.Proofs.Tryz.prog numF (numF F38) Z38=true:=by kernel_rfl
theorem K39:okAt Go.Proofs.Tryz.prog numF (numF F39) Z39=true:=by kernel_rfl
theorem K3a:okAt Go.Proofs.Tryz.prog numF (numF F3a) Z3a=true:=by kernel_rfl
theorem K3b:okAt Go.Proofs.Tryz.prog numF (numF F3b) Z3b=true:=by kernel_rfl
theorem K3c:okAt Go.Proofs.Tryz.prog numF (numF F3c) Z3c=true:=by kernel_rfl
theorem K3d:okAt Go.Proofs.Tryz.prog numF (numF F3d) Z3d=true:=by kernel_rfl
theorem K3e:okAt Go.Proofs.Tryz.prog numF (numF F3e) Z3e=true:=by kernel_rfl
theorem K3f:okAt Go.Proofs.Tryz.prog numF (numF F3f) Z3f=true:=by kernel_rfl
theorem K3g:okAt Go.Proofs.Tryz.prog numF (numF F3g) Z3g=true:=by kernel_rfl
theorem K3h:okAt Go.Proofs.Tryz.prog numF (numF F3h) Z3h=true:=by kernel_rfl
theorem K3i:okAt Go.Proofs.Tryz.prog numF (numF F3i) Z3i=true:=by kernel_rfl
theorem K3j:okAt Go.Proofs.Tryz.prog numF (numF F3j) Z3j=true:=by kernel_rfl
theorem K3k:okAt Go.Proofs.Tryz.prog numF (numF F3k) Z3k=true:=by kernel_rfl
theorem K3l:okAt Go.Proofs.Tryz.prog numF (numF F3l) Z3l=true:=by kernel_rfl
theorem K3m:okAt Go.Proofs.Tryz.prog numF (numF F3m) Z3m=true:=by kernel_rfl
theorem K3n:okAt Go.Proofs.Tryz.prog numF (numF F3n) Z3n=true:=by kernel_rfl
theorem K3o:okAt Go.Proofs.Tryz.prog numF (numF F3o) Z3o=true:=by kernel_rfl
theorem K3p:okAt Go.Proofs.Tryz.prog numF (numF F3p) Z3p=true:=by kernel_rfl
theorem K3q:okAt Go.Proofs.Tryz.prog numF (numF F3q) Z3q=true:=by kernel_rfl
theorem K3r:okAt Go.Proofs.Tryz.prog numF (numF F3r) Z3r=true:=by kernel_rfl
theorem tab_ok:∀f fn,tabF f=some fn→∃g,Go.Proofs.Tryz.prog.funcs[numF f]? = some g∧fnOk Go.Proofs.Tryz.prog numF fn g=true:=tab_sound (l:=tab) ⟨K0,K1,K2,K3,K4,K5,K6,K7,K8,K9,Ka,Kb,Kc,Ke,Kf,Kg,Kh,Ki,Kj,Kk,Kl,Km,Ko,Kq,Kr,Ks,Kt,Ku,Kv,Kw,Kx,Ky,Kz,K10,K11,K12,K13,K14,K15,K16,K17,K18,K19,K1a,K1b,K1c,K1d,K1e,K1f,K1g,K1h,K1i,K1j,K1k,K1l,K1m,K1n,K1o,K1p,K1q,K1r,K1s,K1t,K1u,K1w,K1y,K1z,K20,K21,K22,K26,K2e,K2i,K2j,K2k,K2l,K2m,K2n,K2o,K2p,K2q,K2r,K2s,K2t,K2u,K2v,K2w,K2x,K2y,K2z,K30,K31,K32,K33,K34,K35,K36,K37,K38,K39,K3a,K3b,K3c,K3d,K3e,K3f,K3g,K3h,K3i,K3j,K3k,K3l,K3m,K3n,K3o,K3p,K3q,K3r,trivial⟩
def cloneIds (f:Nat):Option (Sh×D×Nat):=if f=F1x then some (.leaf,.int .i64 0,8) else none
theorem mixed:Go.Proofs.Tryz.prog.follows .mixedOrders=true:=by kernel_rfl
theorem clones_ok:∀f s z bytes,cloneIds f=some (s,z,bytes)→Sh.beq s s=true∧∃g,Go.Proofs.Tryz.prog.funcs[numF f]? = some g∧fnOk Go.Proofs.Tryz.prog numF (cloneFn s z bytes) g=true∧(match g.body with | some x=>cloneShape x | none=>false)=true:=by
 intro f s z bytes h
 unfold cloneIds at h
 split at h
 ·rename_i hf
  subst hf
  obtain ⟨rfl,rfl,rfl⟩:Sh.leaf=s∧D.int .i64 0=z∧8=bytes:=by simpa using h
  refine ⟨rfl,?_⟩
  have h1:(match Go.Proofs.Tryz.prog.funcs[numF F1x]? with | some g=>fnOk Go.Proofs.Tryz.prog numF (cloneFn .leaf (.int .i64 0) 8) g&&(match g.body with | some x=>cloneShape x | none=>false) | none=>false)=true:=by kernel_rfl
  split at h1
  ·rename_i g hg
   simp only [Bool.and_eq_true] at h1
   exact ⟨g,hg,h1.1,h1.2⟩
  ·cases h1
 ·cases h
theorem sound:CallOk Go.Proofs.Tryz.prog numF (den tabF (cloneA cloneIds)):=den_sound tab_ok (cloneA_sound mixed clones_ok) mixed
end Pe
