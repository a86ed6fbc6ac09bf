/-
  A part of the proof: an evaluator for a small form of the code, its soundness, and contracts of functions over it.
-/
import Derived.Test.YtlnmecnmlnegcaaGreatProg
import Derived.KernelRfl
import Derived.Test.YtlnmecnmlnegcaaGreatW1
import Derived.Test.YtlnmecnmlnegcaaGreatW2
import Derived.Test.YtlnmecnmlnegcaaGreatW3
import Derived.Test.YtlnmecnmlnegcaaGreatW4
import Derived.Test.YtlnmecnmlnegcaaGreatW5

namespace Pe
open Go
def tab:List (Nat×Fn):=[(F0,Z0),(F2,Z2),(F3,Z3),(F4,Z4),(F5,Z5),(F6,Z6),(F7,Z7),(F8,Z8),(F9,Z9),(Fa,Za),(Fb,Zb),(Fc,Zc),(Fe,Ze),(Ff,Zf),(Fg,Zg),(Fh,Zh),(Fi,Zi),(Fj,Zj),(Fk,Zk),(Fl,Zl),(Fm,Zm),(Fo,Zo),(Fq,Zq),(Fr,Zr),(Fs,Zs),(Ft,Zt),(Fu,Zu),(Fv,Zv),(Fw,Zw),(Fx,Zx),(Fy,Zy),(Fz,Zz),(F10,Z10),(F11,Z11),(F12,Z12),(F13,Z13),(F14,Z14),(F15,Z15),(F16,Z16),(F17,Z17),(F18,Z18),(F19,Z19),(F1a,Z1a),(F1b,Z1b),(F1c,Z1c),(F1d,Z1d),(F1e,Z1e),(F1f,Z1f),(F1g,Z1g),(F1h,Z1h),(F1i,Z1i),(F1j,Z1j),(F1k,Z1k),(F1l,Z1l),(F1m,Z1m),(F1n,Z1n),(F1o,Z1o),(F1p,Z1p),(F1q,Z1q),(F1r,Z1r),(F1s,Z1s),(F1u,Z1u),(F1w,Z1w),(F1x,Z1x),(F1y,Z1y),(F1z,Z1z),(F20,Z20),(F21,Z21),(F22,Z22),(F26,Z26),(F2e,Z2e),(F2i,Z2i),(F2j,Z2j),(F2k,Z2k),(F2l,Z2l),(F2m,Z2m),(F2n,Z2n),(F2o,Z2o),(F2p,Z2p),(F2q,Z2q),(F2r,Z2r),(F2s,Z2s),(F2t,Z2t),(F2u,Z2u),(F2v,Z2v),(F2w,Z2w),(F2x,Z2x),(F2y,Z2y),(F2z,Z2z),(F30,Z30),(F31,Z31),(F32,Z32),(F33,Z33),(F34,Z34),(F35,Z35),(F36,Z36),(F37,Z37),(F38,Z38),(F39,Z39),(F3a,Z3a),(F3b,Z3b),(F3c,Z3c),(F3d,Z3d),(F3e,Z3e),(F3f,Z3f),(F3g,Z3g),(F3h,Z3h),(F3i,Z3i),(F3j,Z3j),(F3k,Z3k),(F3l,Z3l),(F3m,Z3m),(F3n,Z3n),(F3o,Z3o)]
def nums:List (Nat×Nat):=[(F1p,4),(F17,57),(F16,36),(F15,38),(Fr,35),(F21,83),(F1y,37),(F1h,59),(F1l,78),(F19,93),(F1g,94),(Fy,72),(F1d,61),(F1b,67),(F13,68),(F1j,69),(F1v,108),(Fz,95),(Fx,92),(F12,71),(F1a,91),(F18,60),(Fs,70),(F1e,73),(F1c,74),(F26,109),(F2g,125),(F25,110),(F1t,117),(F1u,118),(F1s,97),(F29,126),(F2h,127),(F23,111),(F2a,131),(F28,129),(F27,128),(F24,112),(F2f,113),(F2b,114),(F2d,115),(F2c,116),(F2e,96),(F22,75),(F3,119),(F0,98),(F4,120),(F2,99),(Fk,77),(F11,76),(F10,27),(F14,40),(F9,39),(F1k,29),(Fu,41),(F8,12),(F2v,44),(F3c,45),(F3g,42),(F33,43),(F2w,65),(F34,82),(F2x,80),(F37,84),(F3d,101),(F2r,81),(F3j,121),(F39,102),(F3f,86),(F3i,64),(F2t,103),(F32,87),(F3h,85),(F35,46),(F2o,13),(F1r,14),(F1f,28),(F1i,62),(F1m,56),(F20,122),(F1x,104),(Fj,105),(Fi,88),(F1z,130),(F1w,123),(Fh,124),(Fg,106),(Fq,107),(Fo,90),(Fw,89),(Fv,58),(Fc,23),(F6,24),(F31,32),(F3b,34),(F2z,53),(F2y,63),(F3e,33),(F30,52),(F2s,66),(F3o,25),(F2k,5),(F1n,48),(Fl,26),(F7,6),(F36,100),(F2u,79),(F3k,30),(F3n,31),(F2n,7),(F1q,8),(Fb,9),(F2q,10),(F2l,11),(F3a,47),(F2j,15),(Ft,49),(F5,16),(F3l,50),(F3m,51),(F2i,17),(F2m,18),(Fa,19),(F38,54),(F2p,20),(Fm,55),(Fe,21),(Ff,22),(F1o,3)]
def tabF (f:Nat):Option Fn:=tab.lookup f
def numF (f:Nat):Nat:=(nums.lookup f).getD 0
theorem K0:cn Go.Proofs.Tryz.prog numF (numF F0) Z0=true:=by kernel_rfl
theorem K2:cn Go.Proofs.Tryz.prog numF (numF F2) Z2=true:=by kernel_rfl
theorem K3:cn Go.Proofs.Tryz.prog numF (numF F3) Z3=true:=by kernel_rfl
theorem K4:cn Go.Proofs.Tryz.prog numF (numF F4) Z4=true:=by kernel_rfl
theorem K5:cn Go.Proofs.Tryz.prog numF (numF F5) Z5=true:=by kernel_rfl
theorem K6:cn Go.Proofs.Tryz.prog numF (numF F6) Z6=true:=by kernel_rfl
theorem K7:cn Go.Proofs.Tryz.prog numF (numF F7) Z7=true:=by kernel_rfl
theorem K8:cn Go.Proofs.Tryz.prog numF (numF F8) Z8=true:=by kernel_rfl
theorem K9:cn Go.Proofs.Tryz.prog numF (numF F9) Z9=true:=by kernel_rfl
theorem Ka:cn Go.Proofs.Tryz.prog numF (numF Fa) Za=true:=by kernel_rfl
theorem Kb:cn Go.Proofs.Tryz.prog numF (numF Fb) Zb=true:=by kernel_rfl
theorem Kc:cn Go.Proofs.Tryz.prog numF (numF Fc) Zc=true:=by kernel_rfl
theorem Ke:cn Go.Proofs.Tryz.prog numF (numF Fe) Ze=true:=by kernel_rfl
theorem Kf:cn Go.Proofs.Tryz.prog numF (numF Ff) Zf=true:=by kernel_rfl
theorem Kg:cn Go.Proofs.Tryz.prog numF (numF Fg) Zg=true:=by kernel_rfl
theorem Kh:cn Go.Proofs.Tryz.prog numF (numF Fh) Zh=true:=by kernel_rfl
theorem Ki:cn Go.Proofs.Tryz.prog numF (numF Fi) Zi=true:=by kernel_rfl
theorem Kj:cn Go.Proofs.Tryz.prog numF (numF Fj) Zj=true:=by kernel_rfl
theorem Kk:cn Go.Proofs.Tryz.prog numF (numF Fk) Zk=true:=by kernel_rfl
theorem Kl:cn Go.Proofs.Tryz.prog numF (numF Fl) Zl=true:=by kernel_rfl
theorem Km:cn Go.Proofs.Tryz.prog numF (numF Fm) Zm=true:=by kernel_rfl
theorem Ko:cn Go.Proofs.Tryz.prog numF (numF Fo) Zo=true:=by kernel_rfl
theorem Kq:cn Go.Proofs.Tryz.prog numF (numF Fq) Zq=true:=by kernel_rfl
theorem Kr:cn Go.Proofs.Tryz.prog numF (numF Fr) Zr=true:=by kernel_rfl
theorem Ks:cn Go.Proofs.Tryz.prog numF (numF Fs) Zs=true:=by kernel_rfl
theorem Kt:cn Go.Proofs.Tryz.prog numF (numF Ft) Zt=true:=by kernel_rfl
theorem Ku:cn Go.Proofs.Tryz.prog numF (numF Fu) Zu=true:=by kernel_rfl
theorem Kv:cn Go.Proofs.Tryz.prog numF (numF Fv) Zv=true:=by kernel_rfl
theorem Kw:cn Go.Proofs.Tryz.prog numF (numF Fw) Zw=true:=by kernel_rfl
theorem Kx:cn Go.Proofs.Tryz.prog numF (numF Fx) Zx=true:=by kernel_rfl
theorem Ky:cn Go.Proofs.Tryz.prog numF (numF Fy) Zy=true:=by kernel_rfl
theorem Kz:cn Go.Proofs.Tryz.prog numF (numF Fz) Zz=true:=by kernel_rfl
theorem K10:cn Go.Proofs.Tryz.prog numF (numF F10) Z10=true:=by kernel_rfl
theorem K11:cn Go.Proofs.Tryz.prog numF (numF F11) Z11=true:=by kernel_rfl
theorem K12:cn Go.Proofs.Tryz.prog numF (numF F12) Z12=true:=by kernel_rfl
theorem K13:cn Go.Proofs.Tryz.prog numF (numF F13) Z13=true:=by kernel_rfl
theorem K14:cn Go.Proofs.Tryz.prog numF (numF F14) Z14=true:=by kernel_rfl
theorem K15:cn Go.Proofs.Tryz.prog numF (numF F15) Z15=true:=by kernel_rfl
theorem K16:cn Go.Proofs.Tryz.prog numF (numF F16) Z16=true:=by kernel_rfl
theorem K17:cn Go.Proofs.Tryz.prog numF (numF F17) Z17=true:=by kernel_rfl
theorem K18:cn Go.Proofs.Tryz.prog numF (numF F18) Z18=true:=by kernel_rfl
theorem K19:cn Go.Proofs.Tryz.prog numF (numF F19) Z19=true:=by kernel_rfl
theorem K1a:cn Go.Proofs.Tryz.prog numF (numF F1a) Z1a=true:=by kernel_rfl
theorem K1b:cn Go.Proofs.Tryz.prog numF (numF F1b) Z1b=true:=by kernel_rfl
theorem K1c:cn Go.Proofs.Tryz.prog numF (numF F1c) Z1c=true:=by kernel_rfl
theorem K1d:cn Go.Proofs.Tryz.prog numF (numF F1d) Z1d=true:=by kernel_rfl
theorem K1e:cn Go.Proofs.Tryz.prog numF (numF F1e) Z1e=true:=by kernel_rfl
theorem K1f:cn Go.Proofs.Tryz.prog numF (numF F1f) Z1f=true:=by kernel_rfl
theorem K1g:cn Go.Proofs.Tryz.prog numF (numF F1g) Z1g=true:=by kernel_rfl
theorem K1h:cn Go.Proofs.Tryz.prog numF (numF F1h) Z1h=true:=by kernel_rfl
theorem K1i:cn Go.Proofs.Tryz.prog numF (numF F1i) Z1i=true:=by kernel_rfl
theorem K1j:cn Go.Proofs.Tryz.prog numF (numF F1j) Z1j=true:=by kernel_rfl
theorem K1k:cn Go.Proofs.Tryz.prog numF (numF F1k) Z1k=true:=by kernel_rfl
theorem K1l:cn Go.Proofs.Tryz.prog numF (numF F1l) Z1l=true:=by kernel_rfl
theorem K1m:cn Go.Proofs.Tryz.prog numF (numF F1m) Z1m=true:=by kernel_rfl
theorem K1n:cn Go.Proofs.Tryz.prog numF (numF F1n) Z1n=true:=by kernel_rfl
theorem K1o:cn Go.Proofs.Tryz.prog numF (numF F1o) Z1o=true:=by kernel_rfl
theorem K1p:cn Go.Proofs.Tryz.prog numF (numF F1p) Z1p=true:=by kernel_rfl
theorem K1q:cn Go.Proofs.Tryz.prog numF (numF F1q) Z1q=true:=by kernel_rfl
theorem K1r:cn Go.Proofs.Tryz.prog numF (numF F1r) Z1r=true:=by kernel_rfl
theorem K1s:cn Go.Proofs.Tryz.prog numF (numF F1s) Z1s=true:=by kernel_rfl
theorem K1u:cn Go.Proofs.Tryz.prog numF (numF F1u) Z1u=true:=by kernel_rfl
theorem K1w:cn Go.Proofs.Tryz.prog numF (numF F1w) Z1w=true:=by kernel_rfl
theorem K1x:cn Go.Proofs.Tryz.prog numF (numF F1x) Z1x=true:=by kernel_rfl
theorem K1y:cn Go.Proofs.Tryz.prog numF (numF F1y) Z1y=true:=by kernel_rfl
theorem K1z:cn Go.Proofs.Tryz.prog numF (numF F1z) Z1z=true:=by kernel_rfl
theorem K20:cn Go.Proofs.Tryz.prog numF (numF F20) Z20=true:=by kernel_rfl
theorem K21:cn Go.Proofs.Tryz.prog numF (numF F21) Z21=true:=by kernel_rfl
theorem K22:cn Go.Proofs.Tryz.prog numF (numF F22) Z22=true:=by kernel_rfl
theorem K26:cn Go.Proofs.Tryz.prog numF (numF F26) Z26=true:=by kernel_rfl
theorem K2e:cn Go.Proofs.Tryz.prog numF (numF F2e) Z2e=true:=by kernel_rfl
theorem K2i:cn Go.Proofs.Tryz.prog numF (numF F2i) Z2i=true:=by kernel_rfl
theorem K2j:cn Go.Proofs.Tryz.prog numF (numF F2j) Z2j=true:=by kernel_rfl
theorem K2k:cn Go.Proofs.Tryz.prog numF (numF F2k) Z2k=true:=by kernel_rfl
theorem K2l:cn Go.Proofs.Tryz.prog numF (numF F2l) Z2l=true:=by kernel_rfl
theorem K2m:cn Go.Proofs.Tryz.prog numF (numF F2m) Z2m=true:=by kernel_rfl
theorem K2n:cn Go.Proofs.Tryz.prog numF (numF F2n) Z2n=true:=by kernel_rfl
theorem K2o:cn Go.Proofs.Tryz.prog numF (numF F2o) Z2o=true:=by kernel_rfl
theorem K2p:cn Go.Proofs.Tryz.prog numF (numF F2p) Z2p=true:=by kernel_rfl
theorem K2q:cn Go.Proofs.Tryz.prog numF (numF F2q) Z2q=true:=by kernel_rfl
theorem K2r:cn Go.Proofs.Tryz.prog numF (numF F2r) Z2r=true:=by kernel_rfl
theorem K2s:cn Go.Proofs.Tryz.prog numF (numF F2s) Z2s=true:=by kernel_rfl
theorem K2t:cn Go.Proofs.Tryz.prog numF (numF F2t) Z2t=true:=by kernel_rfl
theorem K2u:cn Go.Proofs.Tryz.prog numF (numF F2u) Z2u=true:=by kernel_rfl
theorem K2v:cn Go.Proofs.Tryz.prog numF (numF F2v) Z2v=true:=by kernel_rfl
theorem K2w:cn Go.Proofs.Tryz.prog numF (numF F2w) Z2w=true:=by kernel_rfl
theorem K2x:cn Go.Proofs.Tryz.prog numF (numF F2x) Z2x=true:=by kernel_rfl
theorem K2y:cn Go.Proofs.Tryz.prog numF (numF F2y) Z2y=true:=by kernel_rfl
theorem K2z:cn Go.Proofs.Tryz.prog numF (numF F2z) Z2z=true:=by kernel_rfl
theorem K30:cn Go.Proofs.Tryz.prog numF (numF F30) Z30=true:=by kernel_rfl
theorem K31:cn Go.Proofs.Tryz.prog numF (numF F31) Z31=true:=by kernel_rfl
theorem K32:cn Go.Proofs.Tryz.prog numF (numF F32) Z32=true:=by kernel_rfl
theorem K33:cn Go.Proofs.Tryz.prog numF (numF F33) Z33=true:=by kernel_rfl
theorem K34:cn Go.Proofs.Tryz.prog numF (numF F34) Z34=true:=by kernel_rfl
theorem K35:cn Go.Proofs.Tryz.prog numF (numF F35) Z35=true:=by kernel_rfl
theorem K36:cn Go.Proofs.Tryz.prog numF (numF F36) Z36=true:=by kernel_rfl
theorem K37:cn Go.Proofs.Tryz.prog numF (numF F37) Z37=true:=by kernel_rfl
theorem K38:cn Go.Proofs.Tryz.prog numF (numF F38) Z38=true:=by kernel_rfl
theorem K39:cn Go.Proofs.Tryz.prog numF (numF F39) Z39=true:=by kernel_rfl
theorem K3a:cn Go.Proofs.Tryz.prog numF (numF F3a) Z3a=true:=by kernel_rfl
theorem K3b:cn Go.Proofs.Tryz.prog numF (numF F3b) Z3b=true:=by kernel_rfl
theorem K3c:cn Go.Proofs.Tryz.prog numF (numF F3c) Z3c=true:=by kernel_rfl
theorem K3d:cn Go.Proofs.Tryz.prog numF (numF F3d) Z3d=true:=by kernel_rfl
theorem K3e:cn Go.Proofs.Tryz.prog numF (numF F3e) Z3e=true:=by kernel_rfl
theorem K3f:cn Go.Proofs.Tryz.prog numF (numF F3f) Z3f=true:=by kernel_rfl
theorem K3g:cn Go.Proofs.Tryz.prog numF (numF F3g) Z3g=true:=by kernel_rfl
theorem K3h:cn Go.Proofs.Tryz.prog numF (numF F3h) Z3h=true:=by kernel_rfl
theorem K3i:cn Go.Proofs.Tryz.prog numF (numF F3i) Z3i=true:=by kernel_rfl
theorem K3j:cn Go.Proofs.Tryz.prog numF (numF F3j) Z3j=true:=by kernel_rfl
theorem K3k:cn Go.Proofs.Tryz.prog numF (numF F3k) Z3k=true:=by kernel_rfl
theorem K3l:cn Go.Proofs.Tryz.prog numF (numF F3l) Z3l=true:=by kernel_rfl
theorem K3m:cn Go.Proofs.Tryz.prog numF (numF F3m) Z3m=true:=by kernel_rfl
theorem K3n:cn Go.Proofs.Tryz.prog numF (numF F3n) Z3n=true:=by kernel_rfl
theorem K3o:cn Go.Proofs.Tryz.prog numF (numF F3o) Z3o=true:=by kernel_rfl
theorem Yx:∀f fn,tabF f=some fn→∃g,Go.Proofs.Tryz.prog.funcs[numF f]? = some g∧Am Go.Proofs.Tryz.prog numF fn g=true:=Ep (l:=tab) ⟨K0,K2,K3,K4,K5,K6,K7,K8,K9,Ka,Kb,Kc,Ke,Kf,Kg,Kh,Ki,Kj,Kk,Kl,Km,Ko,Kq,Kr,Ks,Kt,Ku,Kv,Kw,Kx,Ky,Kz,K10,K11,K12,K13,K14,K15,K16,K17,K18,K19,K1a,K1b,K1c,K1d,K1e,K1f,K1g,K1h,K1i,K1j,K1k,K1l,K1m,K1n,K1o,K1p,K1q,K1r,K1s,K1u,K1w,K1x,K1y,K1z,K20,K21,K22,K26,K2e,K2i,K2j,K2k,K2l,K2m,K2n,K2o,K2p,K2q,K2r,K2s,K2t,K2u,K2v,K2w,K2x,K2y,K2z,K30,K31,K32,K33,K34,K35,K36,K37,K38,K39,K3a,K3b,K3c,K3d,K3e,K3f,K3g,K3h,K3i,K3j,K3k,K3l,K3m,K3n,K3o,trivial⟩
def uw (f:Nat):Option (Sh×D×Nat):=if f=F1v then some (.leaf,.int .i64 0,8) else none
theorem Xg:Go.Proofs.Tryz.prog.follows .mixedOrders=true:=by kernel_rfl
theorem Qw:∀f s z bytes,uw f=some (s,z,bytes)→Sh.beq s s=true∧∃g,Go.Proofs.Tryz.prog.funcs[numF f]? = some g∧Am Go.Proofs.Tryz.prog numF (rq s z bytes) g=true∧(match g.body with | some x=>ov x | none=>false)=true:=by
 intro f s z bytes h;unfold uw at h
 split at h
 ·rename_i hf
  subst hf;obtain ⟨rfl,rfl,rfl⟩:Sh.leaf=s∧D.int .i64 0=z∧8=bytes:=by simpa using h
  refine ⟨rfl,?_⟩;have h1:(match Go.Proofs.Tryz.prog.funcs[numF F1v]? with | some g=>Am Go.Proofs.Tryz.prog numF (rq .leaf (.int .i64 0) 8) g&&(match g.body with | some x=>ov x | none=>false) | none=>false)=true:=by kernel_rfl
  split at h1
  ·rename_i g hg
   simp only [al] at h1;exact ⟨g,hg,h1.1,h1.2⟩
  ·cases h1
 ·cases h
theorem sound:jp Go.Proofs.Tryz.prog numF (den tabF (ze uw)):=Pf Yx (Hd Xg Qw) Xg
end Pe
