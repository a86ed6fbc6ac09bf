/-
  A part of the proof: an evaluator for a small form of the code, its soundness, and contracts of functions over it.
-/
import Derived.Test.YtjanjcnncilddaaGreatProg
import Derived.KernelRfl
import Derived.Test.YtjanjcnncilddaaGreatW1
import Derived.Test.YtjanjcnncilddaaGreatW2
import Derived.Test.YtjanjcnncilddaaGreatW3
import Derived.Test.YtjanjcnncilddaaGreatW4
import Derived.Test.YtjanjcnncilddaaGreatW5
import Derived.Test.YtjanjcnncilddaaGreatW6
import Derived.Test.YtjanjcnncilddaaGreatW7

namespace Pe
open Go
def tab:List (Nat×Fn):=[(F0,Z0),(F1,Z1),(F2,Z2),(F3,Z3),(F4,Z4),(F5,Z5),(F6,Z6),(F7,Z7),(F8,Z8),(F9,Z9),(Fa,Za),(Fb,Zb),(Fc,Zc),(Fe,Ze),(Ff,Zf),(Fg,Zg),(Fh,Zh),(Fi,Zi),(Fj,Zj),(Fk,Zk),(Fl,Zl),(Fm,Zm),(Fo,Zo),(Fq,Zq),(Fr,Zr),(Fs,Zs),(Ft,Zt),(Fu,Zu),(Fv,Zv),(Fw,Zw),(Fx,Zx),(Fy,Zy),(Fz,Zz),(F10,Z10),(F11,Z11),(F12,Z12),(F13,Z13),(F14,Z14),(F15,Z15),(F16,Z16),(F17,Z17),(F18,Z18),(F19,Z19),(F1a,Z1a),(F1b,Z1b),(F1c,Z1c),(F1d,Z1d),(F1e,Z1e),(F1f,Z1f),(F1g,Z1g),(F1h,Z1h),(F1i,Z1i),(F1j,Z1j),(F1k,Z1k),(F1l,Z1l),(F1m,Z1m),(F1n,Z1n),(F1o,Z1o),(F1p,Z1p),(F1q,Z1q),(F1r,Z1r),(F1s,Z1s),(F1t,Z1t),(F1u,Z1u),(F1v,Z1v),(F1w,Z1w),(F1x,Z1x),(F1y,Z1y),(F1z,Z1z),(F20,Z20),(F21,Z21),(F22,Z22),(F23,Z23),(F24,Z24),(F25,Z25),(F26,Z26),(F27,Z27),(F28,Z28),(F29,Z29),(F2a,Z2a),(F2b,Z2b),(F2d,Z2d),(F2f,Z2f),(F2g,Z2g),(F2h,Z2h),(F2i,Z2i),(F2j,Z2j),(F2n,Z2n),(F2v,Z2v),(F2z,Z2z),(F30,Z30),(F31,Z31),(F32,Z32),(F33,Z33),(F34,Z34),(F35,Z35),(F36,Z36),(F37,Z37),(F38,Z38),(F39,Z39),(F3a,Z3a),(F3b,Z3b),(F3c,Z3c),(F3d,Z3d),(F3e,Z3e),(F3f,Z3f),(F3g,Z3g),(F3h,Z3h),(F3i,Z3i),(F3j,Z3j),(F3k,Z3k),(F3l,Z3l),(F3m,Z3m),(F3n,Z3n),(F3o,Z3o),(F3p,Z3p),(F3q,Z3q),(F3r,Z3r),(F3s,Z3s),(F3t,Z3t),(F3u,Z3u),(F3v,Z3v),(F3w,Z3w),(F3x,Z3x),(F3y,Z3y),(F3z,Z3z),(F40,Z40),(F41,Z41),(F42,Z42),(F43,Z43),(F44,Z44),(F45,Z45),(F46,Z46),(F47,Z47),(F48,Z48),(F49,Z49),(F4a,Z4a),(F4b,Z4b),(F4c,Z4c),(F4d,Z4d),(F4e,Z4e),(F4f,Z4f),(F4g,Z4g),(F4h,Z4h),(F4i,Z4i),(F4j,Z4j),(F4k,Z4k),(F4l,Z4l)]
def nums:List (Nat×Nat):=[(F3g,41),(F3l,97),(F3m,132),(F3h,129),(F3p,105),(F3u,71),(F3c,93),(F40,130),(F3r,109),(F3w,57),(F3z,131),(F3d,110),(F3k,127),(F3y,107),(F3n,98),(F3x,88),(F3o,115),(F3e,78),(F3q,96),(F4c,46),(F48,40),(F4e,61),(F42,59),(F4h,58),(F4i,62),(F3b,19),(F1y,91),(F1s,36),(F1u,37),(F2h,143),(F2f,135),(Fl,136),(Fk,123),(F14,124),(F13,90),(Fx,45),(Ft,44),(F1m,101),(F1t,102),(F1c,50),(F1q,85),(F1o,119),(F1h,117),(F1w,125),(F2e,128),(F1d,100),(F1b,108),(F1g,137),(F1n,49),(F1l,55),(F16,99),(F1k,66),(F1j,65),(F1r,138),(F1p,139),(F2n,148),(F2x,160),(F2m,149),(F2c,156),(F2d,157),(F2b,145),(F2q,161),(F2y,162),(F2k,150),(F2r,165),(F2p,164),(F2o,163),(F2l,151),(F2w,152),(F2s,153),(F2u,154),(F2t,155),(F2v,144),(F2j,140),(F2,158),(F0,146),(F3,159),(F1,147),(Fq,142),(F1f,141),(F1e,126),(F1i,95),(F24,72),(F15,120),(Fh,94),(F12,43),(Ff,9),(F2i,133),(F2g,112),(Fo,113),(Fm,73),(Fs,89),(Fr,35),(F8,47),(F1x,82),(F10,54),(Fw,56),(Fb,60),(Fj,18),(F4k,106),(F4l,53),(F37,13),(Fa,48),(Fv,103),(F11,51),(F1v,104),(F23,52),(F6,12),(F26,4),(F2a,27),(F29,8),(F27,83),(F28,28),(F1a,121),(F19,84),(Fi,29),(F22,75),(Fu,76),(F20,92),(F21,114),(Fz,77),(F7,39),(Fy,118),(F9,81),(Fc,26),(F47,67),(F44,116),(F49,79),(F4g,80),(F3a,25),(F1z,74),(F17,64),(Fg,24),(F45,42),(F36,7),(F18,38),(F5,6),(F3j,30),(F41,33),(F3s,70),(F3i,32),(F3v,34),(F46,86),(F3t,69),(F43,134),(F4b,122),(F3f,68),(F4d,111),(F4a,87),(F4f,31),(F31,5),(F39,10),(F32,11),(F33,14),(Fe,15),(F38,16),(F35,17),(F4j,63),(F30,20),(F4,21),(F2z,22),(F34,23),(F25,3)]
def tabF (f:Nat):Option Fn:=tab.lookup f
def numF (f:Nat):Nat:=(nums.lookup f).getD 0
theorem K0:okAt Go.Proofs.Tryz.prog numF (numF F0) Z0=true:=by kernel_rfl
theorem K1:okAt Go.Proofs.Tryz.prog numF (numF F1) Z1=true:=by kernel_rfl
theorem K2:okAt Go.Proofs.Tryz.prog numF (numF F2) Z2=true:=by kernel_rfl
theorem K3:okAt Go.Proofs.Tryz.prog numF (numF F3) Z3=true:=by kernel_rfl
theorem K4:okAt Go.Proofs.Tryz.prog numF (numF F4) Z4=true:=by kernel_rfl
theorem K5:okAt Go.Proofs.Tryz.prog numF (numF F5) Z5=true:=by kernel_rfl
theorem K6:okAt Go.Proofs.Tryz.prog numF (numF F6) Z6=true:=by kernel_rfl
theorem K7:okAt Go.Proofs.Tryz.prog numF (numF F7) Z7=true:=by kernel_rfl
theorem K8:okAt Go.Proofs.Tryz.prog numF (numF F8) Z8=true:=by kernel_rfl
theorem K9:okAt Go.Proofs.Tryz.prog numF (numF F9) Z9=true:=by kernel_rfl
theorem Ka:okAt Go.Proofs.Tryz.prog numF (numF Fa) Za=true:=by kernel_rfl
theorem Kb:okAt Go.Proofs.Tryz.prog numF (numF Fb) Zb=true:=by kernel_rfl
theorem Kc:okAt Go.Proofs.Tryz.prog numF (numF Fc) Zc=true:=by kernel_rfl
theorem Ke:okAt Go.Proofs.Tryz.prog numF (numF Fe) Ze=true:=by kernel_rfl
theorem Kf:okAt Go.Proofs.Tryz.prog numF (numF Ff) Zf=true:=by kernel_rfl
theorem Kg:okAt Go.Proofs.Tryz.prog numF (numF Fg) Zg=true:=by kernel_rfl
theorem Kh:okAt Go.Proofs.Tryz.prog numF (numF Fh) Zh=true:=by kernel_rfl
theorem Ki:okAt Go.Proofs.Tryz.prog numF (numF Fi) Zi=true:=by kernel_rfl
theorem Kj:okAt Go.Proofs.Tryz.prog numF (numF Fj) Zj=true:=by kernel_rfl
theorem Kk:okAt Go.Proofs.Tryz.prog numF (numF Fk) Zk=true:=by kernel_rfl
theorem Kl:okAt Go.Proofs.Tryz.prog numF (numF Fl) Zl=true:=by kernel_rfl
theorem Km:okAt Go.Proofs.Tryz.prog numF (numF Fm) Zm=true:=by kernel_rfl
theorem Ko:okAt Go.Proofs.Tryz.prog numF (numF Fo) Zo=true:=by kernel_rfl
theorem Kq:okAt Go.Proofs.Tryz.prog numF (numF Fq) Zq=true:=by kernel_rfl
theorem Kr:okAt Go.Proofs.Tryz.prog numF (numF Fr) Zr=true:=by kernel_rfl
theorem Ks:okAt Go.Proofs.Tryz.prog numF (numF Fs) Zs=true:=by kernel_rfl
theorem Kt:okAt Go.Proofs.Tryz.prog numF (numF Ft) Zt=true:=by kernel_rfl
theorem Ku:okAt Go.Proofs.Tryz.prog numF (numF Fu) Zu=true:=by kernel_rfl
theorem Kv:okAt Go.Proofs.Tryz.prog numF (numF Fv) Zv=true:=by kernel_rfl
theorem Kw:okAt Go.Proofs.Tryz.prog numF (numF Fw) Zw=true:=by kernel_rfl
theorem Kx:okAt Go.Proofs.Tryz.prog numF (numF Fx) Zx=true:=by kernel_rfl
theorem Ky:okAt Go.Proofs.Tryz.prog numF (numF Fy) Zy=true:=by kernel_rfl
theorem Kz:okAt Go.Proofs.Tryz.prog numF (numF Fz) Zz=true:=by kernel_rfl
theorem K10:okAt Go.Proofs.Tryz.prog numF (numF F10) Z10=true:=by kernel_rfl
theorem K11:okAt Go.Proofs.Tryz.prog numF (numF F11) Z11=true:=by kernel_rfl
theorem K12:okAt Go.Proofs.Tryz.prog numF (numF F12) Z12=true:=by kernel_rfl
theorem K13:okAt Go.Proofs.Tryz.prog numF (numF F13) Z13=true:=by kernel_rfl
theorem K14:okAt Go.Proofs.Tryz.prog numF (numF F14) Z14=true:=by kernel_rfl
theorem K15:okAt Go.Proofs.Tryz.prog numF (numF F15) Z15=true:=by kernel_rfl
theorem K16:okAt Go.Proofs.Tryz.prog numF (numF F16) Z16=true:=by kernel_rfl
theorem K17:okAt Go.Proofs.Tryz.prog numF (numF F17) Z17=true:=by kernel_rfl
theorem K18:okAt Go.Proofs.Tryz.prog numF (numF F18) Z18=true:=by kernel_rfl
theorem K19:okAt Go.Proofs.Tryz.prog numF (numF F19) Z19=true:=by kernel_rfl
theorem K1a:okAt Go.Proofs.Tryz.prog numF (numF F1a) Z1a=true:=by kernel_rfl
theorem K1b:okAt Go.Proofs.Tryz.prog numF (numF F1b) Z1b=true:=by kernel_rfl
theorem K1c:okAt Go.Proofs.Tryz.prog numF (numF F1c) Z1c=true:=by kernel_rfl
theorem K1d:okAt Go.Proofs.Tryz.prog numF (numF F1d) Z1d=true:=by kernel_rfl
theorem K1e:okAt Go.Proofs.Tryz.prog numF (numF F1e) Z1e=true:=by kernel_rfl
theorem K1f:okAt Go.Proofs.Tryz.prog numF (numF F1f) Z1f=true:=by kernel_rfl
theorem K1g:okAt Go.Proofs.Tryz.prog numF (numF F1g) Z1g=true:=by kernel_rfl
theorem K1h:okAt Go.Proofs.Tryz.prog numF (numF F1h) Z1h=true:=by kernel_rfl
theorem K1i:okAt Go.Proofs.Tryz.prog numF (numF F1i) Z1i=true:=by kernel_rfl
theorem K1j:okAt Go.Proofs.Tryz.prog numF (numF F1j) Z1j=true:=by kernel_rfl
theorem K1k:okAt Go.Proofs.Tryz.prog numF (numF F1k) Z1k=true:=by kernel_rfl
theorem K1l:okAt Go.Proofs.Tryz.prog numF (numF F1l) Z1l=true:=by kernel_rfl
theorem K1m:okAt Go.Proofs.Tryz.prog numF (numF F1m) Z1m=true:=by kernel_rfl
theorem K1n:okAt Go.Proofs.Tryz.prog numF (numF F1n) Z1n=true:=by kernel_rfl
theorem K1o:okAt Go.Proofs.Tryz.prog numF (numF F1o) Z1o=true:=by kernel_rfl
theorem K1p:okAt Go.Proofs.Tryz.prog numF (numF F1p) Z1p=true:=by kernel_rfl
theorem K1q:okAt Go.Proofs.Tryz.prog numF (numF F1q) Z1q=true:=by kernel_rfl
theorem K1r:okAt Go.Proofs.Tryz.prog numF (numF F1r) Z1r=true:=by kernel_rfl
theorem K1s:okAt Go.Proofs.Tryz.prog numF (numF F1s) Z1s=true:=by kernel_rfl
theorem K1t:okAt Go.Proofs.Tryz.prog numF (numF F1t) Z1t=true:=by kernel_rfl
theorem K1u:okAt Go.Proofs.Tryz.prog numF (numF F1u) Z1u=true:=by kernel_rfl
theorem K1v:okAt Go.Proofs.Tryz.prog numF (numF F1v) Z1v=true:=by kernel_rfl
theorem K1w:okAt Go.Proofs.Tryz.prog numF (numF F1w) Z1w=true:=by kernel_rfl
theorem K1x:okAt Go.Proofs.Tryz.prog numF (numF F1x) Z1x=true:=by kernel_rfl
theorem K1y:okAt Go.Proofs.Tryz.prog numF (numF F1y) Z1y=true:=by kernel_rfl
theorem K1z:okAt Go.Proofs.Tryz.prog numF (numF F1z) Z1z=true:=by kernel_rfl
theorem K20:okAt Go.Proofs.Tryz.prog numF (numF F20) Z20=true:=by kernel_rfl
theorem K21:okAt Go.Proofs.Tryz.prog numF (numF F21) Z21=true:=by kernel_rfl
theorem K22:okAt Go.Proofs.Tryz.prog numF (numF F22) Z22=true:=by kernel_rfl
theorem K23:okAt Go.Proofs.Tryz.prog numF (numF F23) Z23=true:=by kernel_rfl
theorem K24:okAt Go.Proofs.Tryz.prog numF (numF F24) Z24=true:=by kernel_rfl
theorem K25:okAt Go.Proofs.Tryz.prog numF (numF F25) Z25=true:=by kernel_rfl
theorem K26:okAt Go.Proofs.Tryz.prog numF (numF F26) Z26=true:=by kernel_rfl
theorem K27:okAt Go.Proofs.Tryz.prog numF (numF F27) Z27=true:=by kernel_rfl
theorem K28:okAt Go.Proofs.Tryz.prog numF (numF F28) Z28=true:=by kernel_rfl
theorem K29:okAt Go.Proofs.Tryz.prog numF (numF F29) Z29=true:=by kernel_rfl
theorem K2a:okAt Go.Proofs.Tryz.prog numF (numF F2a) Z2a=true:=by kernel_rfl
theorem K2b:okAt Go.Proofs.Tryz.prog numF (numF F2b) Z2b=true:=by kernel_rfl
theorem K2d:okAt Go.Proofs.Tryz.prog numF (numF F2d) Z2d=true:=by kernel_rfl
theorem K2f:okAt Go.Proofs.Tryz.prog numF (numF F2f) Z2f=true:=by kernel_rfl
theorem K2g:okAt Go.Proofs.Tryz.prog numF (numF F2g) Z2g=true:=by kernel_rfl
theorem K2h:okAt Go.Proofs.Tryz.prog numF (numF F2h) Z2h=true:=by kernel_rfl
theorem K2i:okAt Go.Proofs.Tryz.prog numF (numF F2i) Z2i=true:=by kernel_rfl
theorem K2j:okAt Go.Proofs.Tryz.prog numF (numF F2j) Z2j=true:=by kernel_rfl
theorem K2n:okAt Go.Proofs.Tryz.prog numF (numF F2n) Z2n=true:=by kernel_rfl
theorem K2v:okAt Go.Proofs.Tryz.prog numF (numF F2v) Z2v=true:=by kernel_rfl
theorem K2z:okAt Go.Proofs.Tryz.prog numF (numF F2z) Z2z=true:=by kernel_rfl
theorem K30:okAt Go.Proofs.Tryz.prog numF (numF F30) Z30=true:=by kernel_rfl
theorem K31:okAt Go.Proofs.Tryz.prog numF (numF F31) Z31=true:=by kernel_rfl
theorem K32:okAt Go.Proofs.Tryz.prog numF (numF F32) Z32=true:=by kernel_rfl
theorem K33:okAt Go.Proofs.Tryz.prog numF (numF F33) Z33=true:=by kernel_rfl
theorem K34:okAt Go.Proofs.Tryz.prog numF (numF F34) Z34=true:=by kernel_rfl
theorem K35:okAt Go.Proofs.Tryz.prog numF (numF F35) Z35=true:=by kernel_rfl
theorem K36:okAt Go.Proofs.Tryz.prog numF (numF F36) Z36=true:=by kernel_rfl
theorem K37:okAt Go.Proofs.Tryz.prog numF (numF F37) Z37=true:=by kernel_rfl
theorem K38:okAt Go.Proofs.Tryz.prog numF (numF F38) Z38=true:=by kernel_rfl
theorem K39:okAt Go.Proofs.Tryz.prog numF (numF F39) Z39=true:=by kernel_rfl
theorem K3a:okAt Go.Proofs.Tryz.prog numF (numF F3a) Z3a=true:=by kernel_rfl
theorem K3b:okAt Go.Proofs.Tryz.prog numF (numF F3b) Z3b=true:=by kernel_rfl
theorem K3c:okAt Go.Proofs.Tryz.prog numF (numF F3c) Z3c=true:=by kernel_rfl
theorem K3d:okAt Go.Proofs.Tryz.prog numF (numF F3d) Z3d=true:=by kernel_rfl
theorem K3e:okAt Go.Proofs.Tryz.prog numF (numF F3e) Z3e=true:=by kernel_rfl
theorem K3f:okAt Go.Proofs.Tryz.prog numF (numF F3f) Z3f=true:=by kernel_rfl
theorem K3g:okAt Go.Proofs.Tryz.prog numF (numF F3g) Z3g=true:=by kernel_rfl
theorem K3h:okAt Go.Proofs.Tryz.prog numF (numF F3h) Z3h=true:=by kernel_rfl
theorem K3i:okAt Go.Proofs.Tryz.prog numF (numF F3i) Z3i=true:=by kernel_rfl
theorem K3j:okAt Go.Proofs.Tryz.prog numF (numF F3j) Z3j=true:=by kernel_rfl
theorem K3k:okAt Go.Proofs.Tryz.prog numF (numF F3k) Z3k=true:=by kernel_rfl
theorem K3l:okAt Go.Proofs.Tryz.prog numF (numF F3l) Z3l=true:=by kernel_rfl
theorem K3m:okAt Go.Proofs.Tryz.prog numF (numF F3m) Z3m=true:=by kernel_rfl
theorem K3n:okAt Go.Proofs.Tryz.prog numF (numF F3n) Z3n=true:=by kernel_rfl
theorem K3o:okAt Go.Proofs.Tryz.prog numF (numF F3o) Z3o=true:=by kernel_rfl
theorem K3p:okAt Go.Proofs.Tryz.prog numF (numF F3p) Z3p=true:=by kernel_rfl
theorem K3q:okAt Go.Proofs.Tryz.prog numF (numF F3q) Z3q=true:=by kernel_rfl
theorem K3r:okAt Go.Proofs.Tryz.prog numF (numF F3r) Z3r=true:=by kernel_rfl
theorem K3s:okAt Go.Proofs.Tryz.prog numF (numF F3s) Z3s=true:=by kernel_rfl
theorem K3t:okAt Go.Proofs.Tryz.prog numF (numF F3t) Z3t=true:=by kernel_rfl
theorem K3u:okAt Go.Proofs.Tryz.prog numF (numF F3u) Z3u=true:=by kernel_rfl
theorem K3v:okAt Go.Proofs.Tryz.prog numF (numF F3v) Z3v=true:=by kernel_rfl
theorem K3w:okAt Go.Proofs.Tryz.prog numF (numF F3w) Z3w=true:=by kernel_rfl
theorem K3x:okAt Go.Proofs.Tryz.prog numF (numF F3x) Z3x=true:=by kernel_rfl
theorem K3y:okAt Go.Proofs.Tryz.prog numF (numF F3y) Z3y=true:=by kernel_rfl
theorem K3z:okAt Go.Proofs.Tryz.prog numF (numF F3z) Z3z=true:=by kernel_rfl
theorem K40:okAt Go.Proofs.Tryz.prog numF (numF F40) Z40=true:=by kernel_rfl
theorem K41:okAt Go.Proofs.Tryz.prog numF (numF F41) Z41=true:=by kernel_rfl
theorem K42:okAt Go.Proofs.Tryz.prog numF (numF F42) Z42=true:=by kernel_rfl
theorem K43:okAt Go.Proofs.Tryz.prog numF (numF F43) Z43=true:=by kernel_rfl
theorem K44:okAt Go.Proofs.Tryz.prog numF (numF F44) Z44=true:=by kernel_rfl
theorem K45:okAt Go.Proofs.Tryz.prog numF (numF F45) Z45=true:=by kernel_rfl
theorem K46:okAt Go.Proofs.Tryz.prog numF (numF F46) Z46=true:=by kernel_rfl
theorem K47:okAt Go.Proofs.Tryz.prog numF (numF F47) Z47=true:=by kernel_rfl
theorem K48:okAt Go.Proofs.Tryz.prog numF (numF F48) Z48=true:=by kernel_rfl
theorem K49:okAt Go.Proofs.Tryz.prog numF (numF F49) Z49=true:=by kernel_rfl
theorem K4a:okAt Go.Proofs.Tryz.prog numF (numF F4a) Z4a=true:=by kernel_rfl
theorem K4b:okAt Go.Proofs.Tryz.prog numF (numF F4b) Z4b=true:=by kernel_rfl
theorem K4c:okAt Go.Proofs.Tryz.prog numF (numF F4c) Z4c=true:=by kernel_rfl
theorem K4d:okAt Go.Proofs.Tryz.prog numF (numF F4d) Z4d=true:=by kernel_rfl
theorem K4e:okAt Go.Proofs.Tryz.prog numF (numF F4e) Z4e=true:=by kernel_rfl
theorem K4f:okAt Go.Proofs.Tryz.prog numF (numF F4f) Z4f=true:=by kernel_rfl
theorem K4g:okAt Go.Proofs.Tryz.prog numF (numF F4g) Z4g=true:=by kernel_rfl
theorem K4h:okAt Go.Proofs.Tryz.prog numF (numF F4h) Z4h=true:=by kernel_rfl
theorem K4i:okAt Go.Proofs.Tryz.prog numF (numF F4i) Z4i=true:=by kernel_rfl
theorem K4j:okAt Go.Proofs.Tryz.prog numF (numF F4j) Z4j=true:=by kernel_rfl
theorem K4k:okAt Go.Proofs.Tryz.prog numF (numF F4k) Z4k=true:=by kernel_rfl
theorem K4l:okAt Go.Proofs.Tryz.prog numF (numF F4l) Z4l=true:=by kernel_rfl
theorem tab_ok:∀f fn,tabF f=some fn→∃g,Go.Proofs.Tryz.prog.funcs[numF f]? = some g∧fnOk Go.Proofs.Tryz.prog numF fn g=true:=tab_sound (l:=tab) ⟨K0,K1,K2,K3,K4,K5,K6,K7,K8,K9,Ka,Kb,Kc,Ke,Kf,Kg,Kh,Ki,Kj,Kk,Kl,Km,Ko,Kq,Kr,Ks,Kt,Ku,Kv,Kw,Kx,Ky,Kz,K10,K11,K12,K13,K14,K15,K16,K17,K18,K19,K1a,K1b,K1c,K1d,K1e,K1f,K1g,K1h,K1i,K1j,K1k,K1l,K1m,K1n,K1o,K1p,K1q,K1r,K1s,K1t,K1u,K1v,K1w,K1x,K1y,K1z,K20,K21,K22,K23,K24,K25,K26,K27,K28,K29,K2a,K2b,K2d,K2f,K2g,K2h,K2i,K2j,K2n,K2v,K2z,K30,K31,K32,K33,K34,K35,K36,K37,K38,K39,K3a,K3b,K3c,K3d,K3e,K3f,K3g,K3h,K3i,K3j,K3k,K3l,K3m,K3n,K3o,K3p,K3q,K3r,K3s,K3t,K3u,K3v,K3w,K3x,K3y,K3z,K40,K41,K42,K43,K44,K45,K46,K47,K48,K49,K4a,K4b,K4c,K4d,K4e,K4f,K4g,K4h,K4i,K4j,K4k,K4l,trivial⟩
def cloneIds (f:Nat):Option (Sh×D×Nat):=if f=F2e then some (.leaf,.int .i64 0,8) else none
theorem mixed:Go.Proofs.Tryz.prog.follows .mixedOrders=true:=by kernel_rfl
theorem clones_ok:∀f s z bytes,cloneIds f=some (s,z,bytes)→Sh.beq s s=true∧∃g,Go.Proofs.Tryz.prog.funcs[numF f]? = some g∧fnOk Go.Proofs.Tryz.prog numF (cloneFn s z bytes) g=true∧(match g.body with | some x=>cloneShape x | none=>false)=true:=by
 intro f s z bytes h
 unfold cloneIds at h
 split at h
 ·rename_i hf
  subst hf
  obtain ⟨rfl,rfl,rfl⟩:Sh.leaf=s∧D.int .i64 0=z∧8=bytes:=by simpa using h
  refine ⟨rfl,?_⟩
  have h1:(match Go.Proofs.Tryz.prog.funcs[numF F2e]? with | some g=>fnOk Go.Proofs.Tryz.prog numF (cloneFn .leaf (.int .i64 0) 8) g&&(match g.body with | some x=>cloneShape x | none=>false) | none=>false)=true:=by kernel_rfl
  split at h1
  ·rename_i g hg
   simp only [Bool.and_eq_true] at h1
   exact ⟨g,hg,h1.1,h1.2⟩
  ·cases h1
 ·cases h
theorem sound:CallOk Go.Proofs.Tryz.prog numF (den tabF (cloneA cloneIds)):=den_sound tab_ok (cloneA_sound mixed clones_ok) mixed
end Pe
