/-
  A part of the proof: an evaluator for a small form of the code, its soundness, and contracts of functions over it.
-/
import Derived.Test.YtjccdlpphbjckaaGreatProg
import Derived.KernelRfl
import Derived.Test.YtjccdlpphbjckaaGreatW1
import Derived.Test.YtjccdlpphbjckaaGreatW2
import Derived.Test.YtjccdlpphbjckaaGreatW3
import Derived.Test.YtjccdlpphbjckaaGreatW4
import Derived.Test.YtjccdlpphbjckaaGreatW5
import Derived.Test.YtjccdlpphbjckaaGreatW6
import Derived.Test.YtjccdlpphbjckaaGreatW7

namespace Pe
open Go
def tab:List (Nat×Fn):=[(F0,Z0),(F1,Z1),(F2,Z2),(F3,Z3),(F4,Z4),(F5,Z5),(F6,Z6),(F7,Z7),(F8,Z8),(Fa,Za),(Fb,Zb),(Fc,Zc),(Fe,Ze),(Ff,Zf),(Fg,Zg),(Fh,Zh),(Fi,Zi),(Fj,Zj),(Fk,Zk),(Fl,Zl),(Fm,Zm),(Fo,Zo),(Fq,Zq),(Fr,Zr),(Fs,Zs),(Ft,Zt),(Fu,Zu),(Fv,Zv),(Fw,Zw),(Fx,Zx),(Fy,Zy),(Fz,Zz),(F10,Z10),(F11,Z11),(F12,Z12),(F13,Z13),(F14,Z14),(F15,Z15),(F16,Z16),(F17,Z17),(F18,Z18),(F19,Z19),(F1a,Z1a),(F1b,Z1b),(F1c,Z1c),(F1d,Z1d),(F1e,Z1e),(F1f,Z1f),(F1g,Z1g),(F1h,Z1h),(F1i,Z1i),(F1j,Z1j),(F1k,Z1k),(F1l,Z1l),(F1m,Z1m),(F1n,Z1n),(F1o,Z1o),(F1p,Z1p),(F1q,Z1q),(F1r,Z1r),(F1s,Z1s),(F1t,Z1t),(F1u,Z1u),(F1v,Z1v),(F1w,Z1w),(F1x,Z1x),(F1y,Z1y),(F1z,Z1z),(F20,Z20),(F21,Z21),(F22,Z22),(F23,Z23),(F24,Z24),(F25,Z25),(F27,Z27),(F29,Z29),(F2a,Z2a),(F2b,Z2b),(F2d,Z2d),(F2e,Z2e),(F2f,Z2f),(F2g,Z2g),(F2n,Z2n),(F2o,Z2o),(F32,Z32),(F33,Z33),(F39,Z39),(F3a,Z3a),(F3b,Z3b),(F3c,Z3c),(F3d,Z3d),(F3e,Z3e),(F3f,ir_spec_MooreDeterminantt),(F3g,Z3g),(F3h,Z3h),(F3i,Z3i),(F3j,Z3j),(F3k,Z3k),(F3l,Z3l),(F3m,Z3m),(F3n,Z3n),(F3o,Z3o),(F3p,Z3p),(F3q,Z3q),(F3r,Z3r),(F3s,Z3s),(F3t,Z3t),(F3u,Z3u),(F3v,Z3v),(F3w,Z3w),(F3x,Z3x),(F3y,Z3y),(F3z,Z3z),(F40,Z40),(F41,Z41),(F42,Z42),(F43,Z43),(F44,Z44),(F45,Z45),(F46,Z46),(F47,Z47),(F48,Z48),(F49,Z49),(F4a,Z4a),(F4b,Z4b),(F4c,Z4c),(F4d,Z4d),(F4e,Z4e),(F4f,Z4f),(F4g,Z4g),(F4h,Z4h),(F4i,Z4i),(F4j,Z4j),(F4k,Z4k),(F4l,Z4l),(F4m,ir_spec_l09Determinantt),(F4n,Z4n),(F4o,Z4o),(F4p,Z4p),(F4q,Z4q),(F4r,ir_spec_l09Moore_ht),(F4s,Z4s),(F4t,Z4t),(F4u,Z4u)]
def nums:List (Nat×Nat):=[(F23,4),(F3m,54),(F44,136),(F3w,114),(F4i,87),(F3t,116),(F3u,96),(F3n,64),(F3x,34),(F41,65),(F3k,66),(F47,102),(F3z,67),(F43,90),(F46,120),(F3l,103),(F3s,118),(F45,95),(F3v,94),(F3y,115),(F4b,86),(F4j,48),(F4p,33),(F4h,57),(F4t,50),(F3i,23),(F1u,83),(F1o,41),(F1q,97),(F2d,157),(F2a,145),(Ff,146),(Fe,124),(Fx,125),(Fw,109),(Fq,72),(Fj,28),(F1f,100),(F1p,73),(F13,62),(F1l,99),(F1j,74),(F19,75),(F1s,76),(F28,137),(F15,119),(F12,112),(F18,139),(F1i,98),(F1d,101),(Fz,138),(F1c,153),(F1b,152),(F1m,140),(F1k,141),(F2n,159),(F36,169),(F2l,160),(F26,134),(F27,135),(F25,111),(F2t,148),(F38,149),(F2h,161),(F2u,172),(F2r,171),(F2p,170),(F2j,162),(F34,163),(F2w,164),(F30,165),(F2y,166),(F32,154),(F2f,142),(F2,167),(F0,155),(F3,168),(F1,156),(Fi,144),(F17,143),(F16,122),(F1a,106),(F21,105),(Fy,121),(F5,104),(Fv,70),(F2e,123),(F2b,107),(Fh,108),(Fg,71),(F1n,38),(F10,27),(F2o,126),(F37,147),(F2m,127),(F2i,128),(F2v,158),(F2s,151),(F2q,150),(F2k,129),(F35,130),(F2x,131),(F31,132),(F2z,133),(F33,110),(F2g,77),(F1h,78),(F1g,39),(F1e,43),(F1v,32),(Fb,14),(F3j,19),(F1t,60),(F11,37),(Fc,11),(F4n,49),(F3h,17),(F2c,85),(F29,46),(F14,47),(Fa,16),(F4d,68),(F4m,35),(F4c,69),(F4r,36),(F3f,7),(F1r,59),(F1z,29),(Ft,61),(Fl,30),(Fm,63),(Fs,31),(F7,6),(F4q,36),(F3g,9),(F8,8),(F1x,84),(F20,42),(Fu,80),(F1y,113),(Fk,82),(F1w,79),(Fo,81),(Fr,40),(F6,13),(F48,52),(F4l,89),(F4k,91),(F4g,88),(F4e,51),(F39,21),(F4,12),(F3r,24),(F40,44),(F3p,93),(F42,117),(F3q,92),(F49,53),(F4o,25),(F3o,56),(F4a,58),(F4f,55),(F4s,26),(F3b,5),(F24,10),(F4u,45),(F3c,15),(F3e,18),(F3a,20),(F3d,22),(F22,3)]
def tabF (f:Nat):Option Fn:=tab.lookup f
def numF (f:Nat):Nat:=(nums.lookup f).getD 0
theorem K0:dw Go.Proofs.Tryz.prog numF (numF F0) Z0=true:=by kernel_rfl
theorem K1:dw Go.Proofs.Tryz.prog numF (numF F1) Z1=true:=by kernel_rfl
theorem K2:dw Go.Proofs.Tryz.prog numF (numF F2) Z2=true:=by kernel_rfl
theorem K3:dw Go.Proofs.Tryz.prog numF (numF F3) Z3=true:=by kernel_rfl
theorem K4:dw Go.Proofs.Tryz.prog numF (numF F4) Z4=true:=by kernel_rfl
theorem K5:dw Go.Proofs.Tryz.prog numF (numF F5) Z5=true:=by kernel_rfl
theorem K6:dw Go.Proofs.Tryz.prog numF (numF F6) Z6=true:=by kernel_rfl
theorem K7:dw Go.Proofs.Tryz.prog numF (numF F7) Z7=true:=by kernel_rfl
theorem K8:dw Go.Proofs.Tryz.prog numF (numF F8) Z8=true:=by kernel_rfl
theorem Ka:dw Go.Proofs.Tryz.prog numF (numF Fa) Za=true:=by kernel_rfl
theorem Kb:dw Go.Proofs.Tryz.prog numF (numF Fb) Zb=true:=by kernel_rfl
theorem Kc:dw Go.Proofs.Tryz.prog numF (numF Fc) Zc=true:=by kernel_rfl
theorem Ke:dw Go.Proofs.Tryz.prog numF (numF Fe) Ze=true:=by kernel_rfl
theorem Kf:dw Go.Proofs.Tryz.prog numF (numF Ff) Zf=true:=by kernel_rfl
theorem Kg:dw Go.Proofs.Tryz.prog numF (numF Fg) Zg=true:=by kernel_rfl
theorem Kh:dw Go.Proofs.Tryz.prog numF (numF Fh) Zh=true:=by kernel_rfl
theorem Ki:dw Go.Proofs.Tryz.prog numF (numF Fi) Zi=true:=by kernel_rfl
theorem Kj:dw Go.Proofs.Tryz.prog numF (numF Fj) Zj=true:=by kernel_rfl
theorem Kk:dw Go.Proofs.Tryz.prog numF (numF Fk) Zk=true:=by kernel_rfl
theorem Kl:dw Go.Proofs.Tryz.prog numF (numF Fl) Zl=true:=by kernel_rfl
theorem Km:dw Go.Proofs.Tryz.prog numF (numF Fm) Zm=true:=by kernel_rfl
theorem Ko:dw Go.Proofs.Tryz.prog numF (numF Fo) Zo=true:=by kernel_rfl
theorem Kq:dw Go.Proofs.Tryz.prog numF (numF Fq) Zq=true:=by kernel_rfl
theorem Kr:dw Go.Proofs.Tryz.prog numF (numF Fr) Zr=true:=by kernel_rfl
theorem Ks:dw Go.Proofs.Tryz.prog numF (numF Fs) Zs=true:=by kernel_rfl
theorem Kt:dw Go.Proofs.Tryz.prog numF (numF Ft) Zt=true:=by kernel_rfl
theorem Ku:dw Go.Proofs.Tryz.prog numF (numF Fu) Zu=true:=by kernel_rfl
theorem Kv:dw Go.Proofs.Tryz.prog numF (numF Fv) Zv=true:=by kernel_rfl
theorem Kw:dw Go.Proofs.Tryz.prog numF (numF Fw) Zw=true:=by kernel_rfl
theorem Kx:dw Go.Proofs.Tryz.prog numF (numF Fx) Zx=true:=by kernel_rfl
theorem Ky:dw Go.Proofs.Tryz.prog numF (numF Fy) Zy=true:=by kernel_rfl
theorem Kz:dw Go.Proofs.Tryz.prog numF (numF Fz) Zz=true:=by kernel_rfl
theorem K10:dw Go.Proofs.Tryz.prog numF (numF F10) Z10=true:=by kernel_rfl
theorem K11:dw Go.Proofs.Tryz.prog numF (numF F11) Z11=true:=by kernel_rfl
theorem K12:dw Go.Proofs.Tryz.prog numF (numF F12) Z12=true:=by kernel_rfl
theorem K13:dw Go.Proofs.Tryz.prog numF (numF F13) Z13=true:=by kernel_rfl
theorem K14:dw Go.Proofs.Tryz.prog numF (numF F14) Z14=true:=by kernel_rfl
theorem K15:dw Go.Proofs.Tryz.prog numF (numF F15) Z15=true:=by kernel_rfl
theorem K16:dw Go.Proofs.Tryz.prog numF (numF F16) Z16=true:=by kernel_rfl
theorem K17:dw Go.Proofs.Tryz.prog numF (numF F17) Z17=true:=by kernel_rfl
theorem K18:dw Go.Proofs.Tryz.prog numF (numF F18) Z18=true:=by kernel_rfl
theorem K19:dw Go.Proofs.Tryz.prog numF (numF F19) Z19=true:=by kernel_rfl
theorem K1a:dw Go.Proofs.Tryz.prog numF (numF F1a) Z1a=true:=by kernel_rfl
theorem K1b:dw Go.Proofs.Tryz.prog numF (numF F1b) Z1b=true:=by kernel_rfl
theorem K1c:dw Go.Proofs.Tryz.prog numF (numF F1c) Z1c=true:=by kernel_rfl
theorem K1d:dw Go.Proofs.Tryz.prog numF (numF F1d) Z1d=true:=by kernel_rfl
theorem K1e:dw Go.Proofs.Tryz.prog numF (numF F1e) Z1e=true:=by kernel_rfl
theorem K1f:dw Go.Proofs.Tryz.prog numF (numF F1f) Z1f=true:=by kernel_rfl
theorem K1g:dw Go.Proofs.Tryz.prog numF (numF F1g) Z1g=true:=by kernel_rfl
theorem K1h:dw Go.Proofs.Tryz.prog numF (numF F1h) Z1h=true:=by kernel_rfl
theorem K1i:dw Go.Proofs.Tryz.prog numF (numF F1i) Z1i=true:=by kernel_rfl
theorem K1j:dw Go.Proofs.Tryz.prog numF (numF F1j) Z1j=true:=by kernel_rfl
theorem K1k:dw Go.Proofs.Tryz.prog numF (numF F1k) Z1k=true:=by kernel_rfl
theorem K1l:dw Go.Proofs.Tryz.prog numF (numF F1l) Z1l=true:=by kernel_rfl
theorem K1m:dw Go.Proofs.Tryz.prog numF (numF F1m) Z1m=true:=by kernel_rfl
theorem K1n:dw Go.Proofs.Tryz.prog numF (numF F1n) Z1n=true:=by kernel_rfl
theorem K1o:dw Go.Proofs.Tryz.prog numF (numF F1o) Z1o=true:=by kernel_rfl
theorem K1p:dw Go.Proofs.Tryz.prog numF (numF F1p) Z1p=true:=by kernel_rfl
theorem K1q:dw Go.Proofs.Tryz.prog numF (numF F1q) Z1q=true:=by kernel_rfl
theorem K1r:dw Go.Proofs.Tryz.prog numF (numF F1r) Z1r=true:=by kernel_rfl
theorem K1s:dw Go.Proofs.Tryz.prog numF (numF F1s) Z1s=true:=by kernel_rfl
theorem K1t:dw Go.Proofs.Tryz.prog numF (numF F1t) Z1t=true:=by kernel_rfl
theorem K1u:dw Go.Proofs.Tryz.prog numF (numF F1u) Z1u=true:=by kernel_rfl
theorem K1v:dw Go.Proofs.Tryz.prog numF (numF F1v) Z1v=true:=by kernel_rfl
theorem K1w:dw Go.Proofs.Tryz.prog numF (numF F1w) Z1w=true:=by kernel_rfl
theorem K1x:dw Go.Proofs.Tryz.prog numF (numF F1x) Z1x=true:=by kernel_rfl
theorem K1y:dw Go.Proofs.Tryz.prog numF (numF F1y) Z1y=true:=by kernel_rfl
theorem K1z:dw Go.Proofs.Tryz.prog numF (numF F1z) Z1z=true:=by kernel_rfl
theorem K20:dw Go.Proofs.Tryz.prog numF (numF F20) Z20=true:=by kernel_rfl
theorem K21:dw Go.Proofs.Tryz.prog numF (numF F21) Z21=true:=by kernel_rfl
theorem K22:dw Go.Proofs.Tryz.prog numF (numF F22) Z22=true:=by kernel_rfl
theorem K23:dw Go.Proofs.Tryz.prog numF (numF F23) Z23=true:=by kernel_rfl
theorem K24:dw Go.Proofs.Tryz.prog numF (numF F24) Z24=true:=by kernel_rfl
theorem K25:dw Go.Proofs.Tryz.prog numF (numF F25) Z25=true:=by kernel_rfl
theorem K27:dw Go.Proofs.Tryz.prog numF (numF F27) Z27=true:=by kernel_rfl
theorem K29:dw Go.Proofs.Tryz.prog numF (numF F29) Z29=true:=by kernel_rfl
theorem K2a:dw Go.Proofs.Tryz.prog numF (numF F2a) Z2a=true:=by kernel_rfl
theorem K2b:dw Go.Proofs.Tryz.prog numF (numF F2b) Z2b=true:=by kernel_rfl
theorem K2d:dw Go.Proofs.Tryz.prog numF (numF F2d) Z2d=true:=by kernel_rfl
theorem K2e:dw Go.Proofs.Tryz.prog numF (numF F2e) Z2e=true:=by kernel_rfl
theorem K2f:dw Go.Proofs.Tryz.prog numF (numF F2f) Z2f=true:=by kernel_rfl
theorem K2g:dw Go.Proofs.Tryz.prog numF (numF F2g) Z2g=true:=by kernel_rfl
theorem K2n:dw Go.Proofs.Tryz.prog numF (numF F2n) Z2n=true:=by kernel_rfl
theorem K2o:dw Go.Proofs.Tryz.prog numF (numF F2o) Z2o=true:=by kernel_rfl
theorem K32:dw Go.Proofs.Tryz.prog numF (numF F32) Z32=true:=by kernel_rfl
theorem K33:dw Go.Proofs.Tryz.prog numF (numF F33) Z33=true:=by kernel_rfl
theorem K39:dw Go.Proofs.Tryz.prog numF (numF F39) Z39=true:=by kernel_rfl
theorem K3a:dw Go.Proofs.Tryz.prog numF (numF F3a) Z3a=true:=by kernel_rfl
theorem K3b:dw Go.Proofs.Tryz.prog numF (numF F3b) Z3b=true:=by kernel_rfl
theorem K3c:dw Go.Proofs.Tryz.prog numF (numF F3c) Z3c=true:=by kernel_rfl
theorem K3d:dw Go.Proofs.Tryz.prog numF (numF F3d) Z3d=true:=by kernel_rfl
theorem K3e:dw Go.Proofs.Tryz.prog numF (numF F3e) Z3e=true:=by kernel_rfl
theorem K3f:dw Go.Proofs.Tryz.prog numF (numF F3f) ir_spec_MooreDeterminantt=true:=by kernel_rfl
theorem K3g:dw Go.Proofs.Tryz.prog numF (numF F3g) Z3g=true:=by kernel_rfl
theorem K3h:dw Go.Proofs.Tryz.prog numF (numF F3h) Z3h=true:=by kernel_rfl
theorem K3i:dw Go.Proofs.Tryz.prog numF (numF F3i) Z3i=true:=by kernel_rfl
theorem K3j:dw Go.Proofs.Tryz.prog numF (numF F3j) Z3j=true:=by kernel_rfl
theorem K3k:dw Go.Proofs.Tryz.prog numF (numF F3k) Z3k=true:=by kernel_rfl
theorem K3l:dw Go.Proofs.Tryz.prog numF (numF F3l) Z3l=true:=by kernel_rfl
theorem K3m:dw Go.Proofs.Tryz.prog numF (numF F3m) Z3m=true:=by kernel_rfl
theorem K3n:dw Go.Proofs.Tryz.prog numF (numF F3n) Z3n=true:=by kernel_rfl
theorem K3o:dw Go.Proofs.Tryz.prog numF (numF F3o) Z3o=true:=by kernel_rfl
theorem K3p:dw Go.Proofs.Tryz.prog numF (numF F3p) Z3p=true:=by kernel_rfl
theorem K3q:dw Go.Proofs.Tryz.prog numF (numF F3q) Z3q=true:=by kernel_rfl
theorem K3r:dw Go.Proofs.Tryz.prog numF (numF F3r) Z3r=true:=by kernel_rfl
theorem K3s:dw Go.Proofs.Tryz.prog numF (numF F3s) Z3s=true:=by kernel_rfl
theorem K3t:dw Go.Proofs.Tryz.prog numF (numF F3t) Z3t=true:=by kernel_rfl
theorem K3u:dw Go.Proofs.Tryz.prog numF (numF F3u) Z3u=true:=by kernel_rfl
theorem K3v:dw Go.Proofs.Tryz.prog numF (numF F3v) Z3v=true:=by kernel_rfl
theorem K3w:dw Go.Proofs.Tryz.prog numF (numF F3w) Z3w=true:=by kernel_rfl
theorem K3x:dw Go.Proofs.Tryz.prog numF (numF F3x) Z3x=true:=by kernel_rfl
theorem K3y:dw Go.Proofs.Tryz.prog numF (numF F3y) Z3y=true:=by kernel_rfl
theorem K3z:dw Go.Proofs.Tryz.prog numF (numF F3z) Z3z=true:=by kernel_rfl
theorem K40:dw Go.Proofs.Tryz.prog numF (numF F40) Z40=true:=by kernel_rfl
theorem K41:dw Go.Proofs.Tryz.prog numF (numF F41) Z41=true:=by kernel_rfl
theorem K42:dw Go.Proofs.Tryz.prog numF (numF F42) Z42=true:=by kernel_rfl
theorem K43:dw Go.Proofs.Tryz.prog numF (numF F43) Z43=true:=by kernel_rfl
theorem K44:dw Go.Proofs.Tryz.prog numF (numF F44) Z44=true:=by kernel_rfl
theorem K45:dw Go.Proofs.Tryz.prog numF (numF F45) Z45=true:=by kernel_rfl
theorem K46:dw Go.Proofs.Tryz.prog numF (numF F46) Z46=true:=by kernel_rfl
theorem K47:dw Go.Proofs.Tryz.prog numF (numF F47) Z47=true:=by kernel_rfl
theorem K48:dw Go.Proofs.Tryz.prog numF (numF F48) Z48=true:=by kernel_rfl
theorem K49:dw Go.Proofs.Tryz.prog numF (numF F49) Z49=true:=by kernel_rfl
theorem K4a:dw Go.Proofs.Tryz.prog numF (numF F4a) Z4a=true:=by kernel_rfl
theorem K4b:dw Go.Proofs.Tryz.prog numF (numF F4b) Z4b=true:=by kernel_rfl
theorem K4c:dw Go.Proofs.Tryz.prog numF (numF F4c) Z4c=true:=by kernel_rfl
theorem K4d:dw Go.Proofs.Tryz.prog numF (numF F4d) Z4d=true:=by kernel_rfl
theorem K4e:dw Go.Proofs.Tryz.prog numF (numF F4e) Z4e=true:=by kernel_rfl
theorem K4f:dw Go.Proofs.Tryz.prog numF (numF F4f) Z4f=true:=by kernel_rfl
theorem K4g:dw Go.Proofs.Tryz.prog numF (numF F4g) Z4g=true:=by kernel_rfl
theorem K4h:dw Go.Proofs.Tryz.prog numF (numF F4h) Z4h=true:=by kernel_rfl
theorem K4i:dw Go.Proofs.Tryz.prog numF (numF F4i) Z4i=true:=by kernel_rfl
theorem K4j:dw Go.Proofs.Tryz.prog numF (numF F4j) Z4j=true:=by kernel_rfl
theorem K4k:dw Go.Proofs.Tryz.prog numF (numF F4k) Z4k=true:=by kernel_rfl
theorem K4l:dw Go.Proofs.Tryz.prog numF (numF F4l) Z4l=true:=by kernel_rfl
theorem K4m:dw Go.Proofs.Tryz.prog numF (numF F4m) ir_spec_l09Determinantt=true:=by kernel_rfl
theorem K4n:dw Go.Proofs.Tryz.prog numF (numF F4n) Z4n=true:=by kernel_rfl
theorem K4o:dw Go.Proofs.Tryz.prog numF (numF F4o) Z4o=true:=by kernel_rfl
theorem K4p:dw Go.Proofs.Tryz.prog numF (numF F4p) Z4p=true:=by kernel_rfl
theorem K4q:dw Go.Proofs.Tryz.prog numF (numF F4q) Z4q=true:=by kernel_rfl
theorem K4r:dw Go.Proofs.Tryz.prog numF (numF F4r) ir_spec_l09Moore_ht=true:=by kernel_rfl
theorem K4s:dw Go.Proofs.Tryz.prog numF (numF F4s) Z4s=true:=by kernel_rfl
theorem K4t:dw Go.Proofs.Tryz.prog numF (numF F4t) Z4t=true:=by kernel_rfl
theorem K4u:dw Go.Proofs.Tryz.prog numF (numF F4u) Z4u=true:=by kernel_rfl
theorem af7:∀f fn,tabF f=some fn→∃g,Go.Proofs.Tryz.prog.funcs[numF f]? = some g∧B4 Go.Proofs.Tryz.prog numF fn g=true:=Q4 (l:=tab) ⟨K0,K1,K2,K3,K4,K5,K6,K7,K8,Ka,Kb,Kc,Ke,Kf,Kg,Kh,Ki,Kj,Kk,Kl,Km,Ko,Kq,Kr,Ks,Kt,Ku,Kv,Kw,Kx,Ky,Kz,K10,K11,K12,K13,K14,K15,K16,K17,K18,K19,K1a,K1b,K1c,K1d,K1e,K1f,K1g,K1h,K1i,K1j,K1k,K1l,K1m,K1n,K1o,K1p,K1q,K1r,K1s,K1t,K1u,K1v,K1w,K1x,K1y,K1z,K20,K21,K22,K23,K24,K25,K27,K29,K2a,K2b,K2d,K2e,K2f,K2g,K2n,K2o,K32,K33,K39,K3a,K3b,K3c,K3d,K3e,K3f,K3g,K3h,K3i,K3j,K3k,K3l,K3m,K3n,K3o,K3p,K3q,K3r,K3s,K3t,K3u,K3v,K3w,K3x,K3y,K3z,K40,K41,K42,K43,K44,K45,K46,K47,K48,K49,K4a,K4b,K4c,K4d,K4e,K4f,K4g,K4h,K4i,K4j,K4k,K4l,K4m,K4n,K4o,K4p,K4q,K4r,K4s,K4t,K4u,trivial⟩
def Ay (f:Nat):Option (Sh×D×Nat):=if f=F28 then some (.leaf,.int .i64 0,8) else none
theorem a64:Go.Proofs.Tryz.prog.follows .mixedOrders=true:=by kernel_rfl
theorem a2h:∀f s z bytes,Ay f=some (s,z,bytes)→Sh.beq s s=true∧∃g,Go.Proofs.Tryz.prog.funcs[numF f]? = some g∧B4 Go.Proofs.Tryz.prog numF (xq s z bytes) g=true∧(match g.body with | some x=>ub x | none=>false)=true:=by
 intro f s z bytes h;unfold Ay at h
 split at h
 ·rename_i hf
  subst hf;obtain ⟨rfl,rfl,rfl⟩:Sh.leaf=s∧D.int .i64 0=z∧8=bytes:=by simpa using h
  refine ⟨rfl,?_⟩;have h1:(match Go.Proofs.Tryz.prog.funcs[numF F28]? with | some g=>B4 Go.Proofs.Tryz.prog numF (xq .leaf (.int .i64 0) 8) g&&(match g.body with | some x=>ub x | none=>false) | none=>false)=true:=by kernel_rfl
  split at h1
  ·rename_i g hg
   simp only [az] at h1;exact ⟨g,hg,h1.1,h1.2⟩
  ·cases h1
 ·cases h
def G0 (f:Nat):Option (Sh×D×Nat):=if f=F2c then some (.arr 64 .leaf,.arr 64 .leaf z64,64) else none
theorem a9n:∀f s z bytes,G0 f=some (s,z,bytes)→Sh.beq s s=true∧∃g,Go.Proofs.Tryz.prog.funcs[numF f]? = some g∧B4 Go.Proofs.Tryz.prog numF (Hc s) g=true∧(match g.body with | some x=>t7 Go.Proofs.Tryz.prog numF s z bytes x | none=>false)=true:=by
 intro f s z bytes h;unfold G0 at h
 split at h
 ·rename_i hf
  subst hf;obtain ⟨rfl,rfl,rfl⟩:Sh.arr 64 .leaf=s∧D.arr 64 .leaf z64=z∧64=bytes:=by simpa using h
  refine ⟨rfl,?_⟩;have h1:(match Go.Proofs.Tryz.prog.funcs[numF F2c]? with | some g=>B4 Go.Proofs.Tryz.prog numF (Hc (.arr 64 .leaf)) g&&(match g.body with | some x=>t7 Go.Proofs.Tryz.prog numF (.arr 64 .leaf) (.arr 64 .leaf z64) 64 x | none=>false) | none=>false)=true:=by kernel_rfl
  split at h1
  ·rename_i g hg
   simp only [az] at h1;exact ⟨g,hg,h1.1,h1.2⟩
  ·cases h1
 ·cases h
theorem sound:ko Go.Proofs.Tryz.prog numF (den tabF (orA (H7 Ay) (Oy G0))):=a3n af7 (a2l (Rs a64 a2h) (Tn a64 a9n)) a64
end Pe
