/-
  A part of the proof: an evaluator for a small form of the code, its soundness, and contracts of functions over it.
-/
import Derived.Test.YtjanjcnncilddabGreatProg
import Derived.KernelRfl
import Derived.Test.YtjanjcnncilddabGreatW1
import Derived.Test.YtjanjcnncilddabGreatW2
import Derived.Test.YtjanjcnncilddabGreatW3
import Derived.Test.YtjanjcnncilddabGreatW4
import Derived.Test.YtjanjcnncilddabGreatW5
import Derived.Test.YtjanjcnncilddabGreatW6
import Derived.Test.YtjanjcnncilddabGreatW7

namespace Pe
open Go
def tab:List (Nat×Fn):=[(F0,Z0),(F1,Z1),(F2,Z2),(F3,Z3),(F4,Z4),(F5,Z5),(F6,Z6),(F7,Z7),(F8,Z8),(F9,Z9),(Fa,Za),(Fb,Zb),(Fc,Zc),(Fe,Ze),(Ff,Zf),(Fg,Zg),(Fh,Zh),(Fi,Zi),(Fj,Zj),(Fk,Zk),(Fl,Zl),(Fm,Zm),(Fo,Zo),(Fq,Zq),(Fr,Zr),(Fs,Zs),(Ft,Zt),(Fu,Zu),(Fv,Zv),(Fw,Zw),(Fx,Zx),(Fy,Zy),(F10,Z10),(F11,Z11),(F12,Z12),(F13,Z13),(F14,Z14),(F15,Z15),(F16,Z16),(F17,Z17),(F18,Z18),(F19,Z19),(F1a,Z1a),(F1b,Z1b),(F1c,Z1c),(F1d,Z1d),(F1e,Z1e),(F1f,Z1f),(F1g,Z1g),(F1h,Z1h),(F1i,Z1i),(F1j,Z1j),(F1k,Z1k),(F1l,Z1l),(F1m,Z1m),(F1n,Z1n),(F1o,Z1o),(F1p,Z1p),(F1q,Z1q),(F1r,Z1r),(F1s,Z1s),(F1t,Z1t),(F1u,Z1u),(F1v,Z1v),(F1w,Z1w),(F1x,Z1x),(F1y,Z1y),(F1z,Z1z),(F20,Z20),(F21,Z21),(F22,Z22),(F23,Z23),(F24,Z24),(F25,Z25),(F26,Z26),(F27,Z27),(F28,Z28),(F29,Z29),(F2a,Z2a),(F2b,Z2b),(F2c,Z2c),(F2d,Z2d),(F2e,Z2e),(F2g,Z2g),(F2i,Z2i),(F2j,Z2j),(F2k,Z2k),(F2l,Z2l),(F2m,Z2m),(F2n,Z2n),(F2o,Z2o),(F2p,Z2p),(F2w,Z2w),(F2x,Z2x),(F3b,Z3b),(F3c,Z3c),(F3i,Z3i),(F3j,Z3j),(F3k,Z3k),(F3l,Z3l),(F3m,Z3m),(F3n,Z3n),(F3o,Z3o),(F3p,Z3p),(F3q,Z3q),(F3r,Z3r),(F3s,Z3s),(F3t,Z3t),(F3u,Z3u),(F3v,Z3v),(F3w,Z3w),(F3x,Z3x),(F3y,Z3y),(F3z,Z3z),(F40,Z40),(F41,Z41),(F42,Z42),(F43,Z43),(F44,Z44),(F45,Z45),(F46,Z46),(F47,Z47),(F48,Z48),(F49,Z49),(F4a,Z4a),(F4b,Z4b),(F4c,Z4c),(F4d,Z4d),(F4e,Z4e),(F4f,Z4f),(F4g,Z4g),(F4h,Z4h),(F4i,Z4i),(F4j,Z4j),(F4k,Z4k),(F4l,Z4l),(F4m,Z4m),(F4n,Z4n),(F4o,Z4o),(F4p,Z4p),(F4q,Z4q),(F4r,Z4r),(F4s,Z4s),(F4t,Z4t),(F4u,Z4u),(F4v,Z4v),(F4w,Z4w),(F4x,Z4x),(F4y,Z4y),(F4z,Z4z),(F50,Z50),(F51,Z51),(F52,Z52),(F53,Z53),(F54,Z54),(F55,Z55),(F56,Z56)]
def nums:List (Nat×Nat):=[(F3w,92),(F43,114),(F44,103),(F3x,95),(F47,46),(F4b,94),(F3t,91),(F4h,125),(F49,89),(F4d,93),(F4g,158),(F3v,136),(F42,124),(F4f,88),(F45,87),(F48,113),(F4e,132),(F46,109),(F4q,69),(F51,63),(F4t,79),(F4k,32),(F4r,90),(F56,64),(F3s,22),(F20,108),(F1u,57),(F1l,126),(F1v,97),(F1b,96),(F1g,99),(F1y,100),(F2h,159),(F1c,137),(F1o,121),(F1r,122),(F11,85),(F1w,49),(F1k,120),(Fs,84),(F13,51),(F1z,73),(F1x,107),(F28,56),(Fo,29),(F1p,98),(F1a,123),(F1f,152),(F18,151),(F1j,50),(F1i,48),(F1s,153),(F1q,154),(F2w,172),(F3f,182),(F2u,173),(F2f,146),(F2g,147),(F2e,128),(F32,161),(F3h,162),(F2q,174),(F33,185),(F30,184),(F2y,183),(F2s,175),(F3d,176),(F35,177),(F39,178),(F37,179),(F3b,167),(F2o,155),(F2,180),(F0,168),(F3,181),(F1,169),(Fl,157),(F1e,156),(F1d,134),(F1h,112),(F2a,111),(F17,133),(F2l,171),(F2i,165),(Fg,166),(Ff,149),(F16,150),(F15,131),(F6,110),(F14,68),(Fu,106),(F2m,148),(F2j,129),(Fi,130),(Fh,105),(Fv,72),(F2n,135),(F2k,115),(Fk,116),(Fj,71),(F27,27),(F1t,55),(F26,78),(F23,31),(Fe,16),(F2c,4),(F19,52),(F21,61),(F2x,138),(F3g,160),(F2v,139),(F2r,140),(F34,170),(F31,164),(F2z,163),(F2t,141),(F3e,142),(F36,143),(F3a,144),(F38,145),(F3c,127),(F2p,101),(F1n,102),(F1m,53),(Fc,20),(F52,60),(F4l,33),(F55,44),(F4z,80),(F4v,45),(F3p,19),(F25,37),(F29,28),(Fq,76),(F22,74),(Ft,86),(Fw,59),(F8,18),(F50,104),(F4u,54),(F3o,14),(F7,13),(Fm,38),(F24,117),(F10,75),(Fr,39),(F4,11),(F4i,82),(F4s,118),(F54,119),(F53,81),(F4x,83),(F4m,36),(F3r,9),(Fy,77),(F12,35),(Fa,8),(F4y,34),(F3q,7),(Fx,30),(F9,6),(Fb,10),(F2d,15),(F41,40),(F4a,43),(F4c,70),(F3z,67),(F40,65),(F4o,41),(F3y,47),(F4p,62),(F4n,42),(F4j,26),(F3l,5),(F3j,12),(F4w,58),(F3k,17),(F3m,21),(F3u,66),(F3i,23),(F5,24),(F3n,25),(F2b,3)]
def tabF (f:Nat):Option Fn:=tab.lookup f
def numF (f:Nat):Nat:=(nums.lookup f).getD 0
theorem K0:de Go.Proofs.Tryz.prog numF (numF F0) Z0=true:=by kernel_rfl
theorem K1:de Go.Proofs.Tryz.prog numF (numF F1) Z1=true:=by kernel_rfl
theorem K2:de Go.Proofs.Tryz.prog numF (numF F2) Z2=true:=by kernel_rfl
theorem K3:de Go.Proofs.Tryz.prog numF (numF F3) Z3=true:=by kernel_rfl
theorem K4:de Go.Proofs.Tryz.prog numF (numF F4) Z4=true:=by kernel_rfl
theorem K5:de Go.Proofs.Tryz.prog numF (numF F5) Z5=true:=by kernel_rfl
theorem K6:de Go.Proofs.Tryz.prog numF (numF F6) Z6=true:=by kernel_rfl
theorem K7:de Go.Proofs.Tryz.prog numF (numF F7) Z7=true:=by kernel_rfl
theorem K8:de Go.Proofs.Tryz.prog numF (numF F8) Z8=true:=by kernel_rfl
theorem K9:de Go.Proofs.Tryz.prog numF (numF F9) Z9=true:=by kernel_rfl
theorem Ka:de Go.Proofs.Tryz.prog numF (numF Fa) Za=true:=by kernel_rfl
theorem Kb:de Go.Proofs.Tryz.prog numF (numF Fb) Zb=true:=by kernel_rfl
theorem Kc:de Go.Proofs.Tryz.prog numF (numF Fc) Zc=true:=by kernel_rfl
theorem Ke:de Go.Proofs.Tryz.prog numF (numF Fe) Ze=true:=by kernel_rfl
theorem Kf:de Go.Proofs.Tryz.prog numF (numF Ff) Zf=true:=by kernel_rfl
theorem Kg:de Go.Proofs.Tryz.prog numF (numF Fg) Zg=true:=by kernel_rfl
theorem Kh:de Go.Proofs.Tryz.prog numF (numF Fh) Zh=true:=by kernel_rfl
theorem Ki:de Go.Proofs.Tryz.prog numF (numF Fi) Zi=true:=by kernel_rfl
theorem Kj:de Go.Proofs.Tryz.prog numF (numF Fj) Zj=true:=by kernel_rfl
theorem Kk:de Go.Proofs.Tryz.prog numF (numF Fk) Zk=true:=by kernel_rfl
theorem Kl:de Go.Proofs.Tryz.prog numF (numF Fl) Zl=true:=by kernel_rfl
theorem Km:de Go.Proofs.Tryz.prog numF (numF Fm) Zm=true:=by kernel_rfl
theorem Ko:de Go.Proofs.Tryz.prog numF (numF Fo) Zo=true:=by kernel_rfl
theorem Kq:de Go.Proofs.Tryz.prog numF (numF Fq) Zq=true:=by kernel_rfl
theorem Kr:de Go.Proofs.Tryz.prog numF (numF Fr) Zr=true:=by kernel_rfl
theorem Ks:de Go.Proofs.Tryz.prog numF (numF Fs) Zs=true:=by kernel_rfl
theorem Kt:de Go.Proofs.Tryz.prog numF (numF Ft) Zt=true:=by kernel_rfl
theorem Ku:de Go.Proofs.Tryz.prog numF (numF Fu) Zu=true:=by kernel_rfl
theorem Kv:de Go.Proofs.Tryz.prog numF (numF Fv) Zv=true:=by kernel_rfl
theorem Kw:de Go.Proofs.Tryz.prog numF (numF Fw) Zw=true:=by kernel_rfl
theorem Kx:de Go.Proofs.Tryz.prog numF (numF Fx) Zx=true:=by kernel_rfl
theorem Ky:de Go.Proofs.Tryz.prog numF (numF Fy) Zy=true:=by kernel_rfl
theorem K10:de Go.Proofs.Tryz.prog numF (numF F10) Z10=true:=by kernel_rfl
theorem K11:de Go.Proofs.Tryz.prog numF (numF F11) Z11=true:=by kernel_rfl
theorem K12:de Go.Proofs.Tryz.prog numF (numF F12) Z12=true:=by kernel_rfl
theorem K13:de Go.Proofs.Tryz.prog numF (numF F13) Z13=true:=by kernel_rfl
theorem K14:de Go.Proofs.Tryz.prog numF (numF F14) Z14=true:=by kernel_rfl
theorem K15:de Go.Proofs.Tryz.prog numF (numF F15) Z15=true:=by kernel_rfl
theorem K16:de Go.Proofs.Tryz.prog numF (numF F16) Z16=true:=by kernel_rfl
theorem K17:de Go.Proofs.Tryz.prog numF (numF F17) Z17=true:=by kernel_rfl
theorem K18:de Go.Proofs.Tryz.prog numF (numF F18) Z18=true:=by kernel_rfl
theorem K19:de Go.Proofs.Tryz.prog numF (numF F19) Z19=true:=by kernel_rfl
theorem K1a:de Go.Proofs.Tryz.prog numF (numF F1a) Z1a=true:=by kernel_rfl
theorem K1b:de Go.Proofs.Tryz.prog numF (numF F1b) Z1b=true:=by kernel_rfl
theorem K1c:de Go.Proofs.Tryz.prog numF (numF F1c) Z1c=true:=by kernel_rfl
theorem K1d:de Go.Proofs.Tryz.prog numF (numF F1d) Z1d=true:=by kernel_rfl
theorem K1e:de Go.Proofs.Tryz.prog numF (numF F1e) Z1e=true:=by kernel_rfl
theorem K1f:de Go.Proofs.Tryz.prog numF (numF F1f) Z1f=true:=by kernel_rfl
theorem K1g:de Go.Proofs.Tryz.prog numF (numF F1g) Z1g=true:=by kernel_rfl
theorem K1h:de Go.Proofs.Tryz.prog numF (numF F1h) Z1h=true:=by kernel_rfl
theorem K1i:de Go.Proofs.Tryz.prog numF (numF F1i) Z1i=true:=by kernel_rfl
theorem K1j:de Go.Proofs.Tryz.prog numF (numF F1j) Z1j=true:=by kernel_rfl
theorem K1k:de Go.Proofs.Tryz.prog numF (numF F1k) Z1k=true:=by kernel_rfl
theorem K1l:de Go.Proofs.Tryz.prog numF (numF F1l) Z1l=true:=by kernel_rfl
theorem K1m:de Go.Proofs.Tryz.prog numF (numF F1m) Z1m=true:=by kernel_rfl
theorem K1n:de Go.Proofs.Tryz.prog numF (numF F1n) Z1n=true:=by kernel_rfl
theorem K1o:de Go.Proofs.Tryz.prog numF (numF F1o) Z1o=true:=by kernel_rfl
theorem K1p:de Go.Proofs.Tryz.prog numF (numF F1p) Z1p=true:=by kernel_rfl
theorem K1q:de Go.Proofs.Tryz.prog numF (numF F1q) Z1q=true:=by kernel_rfl
theorem K1r:de Go.Proofs.Tryz.prog numF (numF F1r) Z1r=true:=by kernel_rfl
theorem K1s:de Go.Proofs.Tryz.prog numF (numF F1s) Z1s=true:=by kernel_rfl
theorem K1t:de Go.Proofs.Tryz.prog numF (numF F1t) Z1t=true:=by kernel_rfl
theorem K1u:de Go.Proofs.Tryz.prog numF (numF F1u) Z1u=true:=by kernel_rfl
theorem K1v:de Go.Proofs.Tryz.prog numF (numF F1v) Z1v=true:=by kernel_rfl
theorem K1w:de Go.Proofs.Tryz.prog numF (numF F1w) Z1w=true:=by kernel_rfl
theorem K1x:de Go.Proofs.Tryz.prog numF (numF F1x) Z1x=true:=by kernel_rfl
theorem K1y:de Go.Proofs.Tryz.prog numF (numF F1y) Z1y=true:=by kernel_rfl
theorem K1z:de Go.Proofs.Tryz.prog numF (numF F1z) Z1z=true:=by kernel_rfl
theorem K20:de Go.Proofs.Tryz.prog numF (numF F20) Z20=true:=by kernel_rfl
theorem K21:de Go.Proofs.Tryz.prog numF (numF F21) Z21=true:=by kernel_rfl
theorem K22:de Go.Proofs.Tryz.prog numF (numF F22) Z22=true:=by kernel_rfl
theorem K23:de Go.Proofs.Tryz.prog numF (numF F23) Z23=true:=by kernel_rfl
theorem K24:de Go.Proofs.Tryz.prog numF (numF F24) Z24=true:=by kernel_rfl
theorem K25:de Go.Proofs.Tryz.prog numF (numF F25) Z25=true:=by kernel_rfl
theorem K26:de Go.Proofs.Tryz.prog numF (numF F26) Z26=true:=by kernel_rfl
theorem K27:de Go.Proofs.Tryz.prog numF (numF F27) Z27=true:=by kernel_rfl
theorem K28:de Go.Proofs.Tryz.prog numF (numF F28) Z28=true:=by kernel_rfl
theorem K29:de Go.Proofs.Tryz.prog numF (numF F29) Z29=true:=by kernel_rfl
theorem K2a:de Go.Proofs.Tryz.prog numF (numF F2a) Z2a=true:=by kernel_rfl
theorem K2b:de Go.Proofs.Tryz.prog numF (numF F2b) Z2b=true:=by kernel_rfl
theorem K2c:de Go.Proofs.Tryz.prog numF (numF F2c) Z2c=true:=by kernel_rfl
theorem K2d:de Go.Proofs.Tryz.prog numF (numF F2d) Z2d=true:=by kernel_rfl
theorem K2e:de Go.Proofs.Tryz.prog numF (numF F2e) Z2e=true:=by kernel_rfl
theorem K2g:de Go.Proofs.Tryz.prog numF (numF F2g) Z2g=true:=by kernel_rfl
theorem K2i:de Go.Proofs.Tryz.prog numF (numF F2i) Z2i=true:=by kernel_rfl
theorem K2j:de Go.Proofs.Tryz.prog numF (numF F2j) Z2j=true:=by kernel_rfl
theorem K2k:de Go.Proofs.Tryz.prog numF (numF F2k) Z2k=true:=by kernel_rfl
theorem K2l:de Go.Proofs.Tryz.prog numF (numF F2l) Z2l=true:=by kernel_rfl
theorem K2m:de Go.Proofs.Tryz.prog numF (numF F2m) Z2m=true:=by kernel_rfl
theorem K2n:de Go.Proofs.Tryz.prog numF (numF F2n) Z2n=true:=by kernel_rfl
theorem K2o:de Go.Proofs.Tryz.prog numF (numF F2o) Z2o=true:=by kernel_rfl
theorem K2p:de Go.Proofs.Tryz.prog numF (numF F2p) Z2p=true:=by kernel_rfl
theorem K2w:de Go.Proofs.Tryz.prog numF (numF F2w) Z2w=true:=by kernel_rfl
theorem K2x:de Go.Proofs.Tryz.prog numF (numF F2x) Z2x=true:=by kernel_rfl
theorem K3b:de Go.Proofs.Tryz.prog numF (numF F3b) Z3b=true:=by kernel_rfl
theorem K3c:de Go.Proofs.Tryz.prog numF (numF F3c) Z3c=true:=by kernel_rfl
theorem K3i:de Go.Proofs.Tryz.prog numF (numF F3i) Z3i=true:=by kernel_rfl
theorem K3j:de Go.Proofs.Tryz.prog numF (numF F3j) Z3j=true:=by kernel_rfl
theorem K3k:de Go.Proofs.Tryz.prog numF (numF F3k) Z3k=true:=by kernel_rfl
theorem K3l:de Go.Proofs.Tryz.prog numF (numF F3l) Z3l=true:=by kernel_rfl
theorem K3m:de Go.Proofs.Tryz.prog numF (numF F3m) Z3m=true:=by kernel_rfl
theorem K3n:de Go.Proofs.Tryz.prog numF (numF F3n) Z3n=true:=by kernel_rfl
theorem K3o:de Go.Proofs.Tryz.prog numF (numF F3o) Z3o=true:=by kernel_rfl
theorem K3p:de Go.Proofs.Tryz.prog numF (numF F3p) Z3p=true:=by kernel_rfl
theorem K3q:de Go.Proofs.Tryz.prog numF (numF F3q) Z3q=true:=by kernel_rfl
theorem K3r:de Go.Proofs.Tryz.prog numF (numF F3r) Z3r=true:=by kernel_rfl
theorem K3s:de Go.Proofs.Tryz.prog numF (numF F3s) Z3s=true:=by kernel_rfl
theorem K3t:de Go.Proofs.Tryz.prog numF (numF F3t) Z3t=true:=by kernel_rfl
theorem K3u:de Go.Proofs.Tryz.prog numF (numF F3u) Z3u=true:=by kernel_rfl
theorem K3v:de Go.Proofs.Tryz.prog numF (numF F3v) Z3v=true:=by kernel_rfl
theorem K3w:de Go.Proofs.Tryz.prog numF (numF F3w) Z3w=true:=by kernel_rfl
theorem K3x:de Go.Proofs.Tryz.prog numF (numF F3x) Z3x=true:=by kernel_rfl
theorem K3y:de Go.Proofs.Tryz.prog numF (numF F3y) Z3y=true:=by kernel_rfl
theorem K3z:de Go.Proofs.Tryz.prog numF (numF F3z) Z3z=true:=by kernel_rfl
theorem K40:de Go.Proofs.Tryz.prog numF (numF F40) Z40=true:=by kernel_rfl
theorem K41:de Go.Proofs.Tryz.prog numF (numF F41) Z41=true:=by kernel_rfl
theorem K42:de Go.Proofs.Tryz.prog numF (numF F42) Z42=true:=by kernel_rfl
theorem K43:de Go.Proofs.Tryz.prog numF (numF F43) Z43=true:=by kernel_rfl
theorem K44:de Go.Proofs.Tryz.prog numF (numF F44) Z44=true:=by kernel_rfl
theorem K45:de Go.Proofs.Tryz.prog numF (numF F45) Z45=true:=by kernel_rfl
theorem K46:de Go.Proofs.Tryz.prog numF (numF F46) Z46=true:=by kernel_rfl
theorem K47:de Go.Proofs.Tryz.prog numF (numF F47) Z47=true:=by kernel_rfl
theorem K48:de Go.Proofs.Tryz.prog numF (numF F48) Z48=true:=by kernel_rfl
theorem K49:de Go.Proofs.Tryz.prog numF (numF F49) Z49=true:=by kernel_rfl
theorem K4a:de Go.Proofs.Tryz.prog numF (numF F4a) Z4a=true:=by kernel_rfl
theorem K4b:de Go.Proofs.Tryz.prog numF (numF F4b) Z4b=true:=by kernel_rfl
theorem K4c:de Go.Proofs.Tryz.prog numF (numF F4c) Z4c=true:=by kernel_rfl
theorem K4d:de Go.Proofs.Tryz.prog numF (numF F4d) Z4d=true:=by kernel_rfl
theorem K4e:de Go.Proofs.Tryz.prog numF (numF F4e) Z4e=true:=by kernel_rfl
theorem K4f:de Go.Proofs.Tryz.prog numF (numF F4f) Z4f=true:=by kernel_rfl
theorem K4g:de Go.Proofs.Tryz.prog numF (numF F4g) Z4g=true:=by kernel_rfl
theorem K4h:de Go.Proofs.Tryz.prog numF (numF F4h) Z4h=true:=by kernel_rfl
theorem K4i:de Go.Proofs.Tryz.prog numF (numF F4i) Z4i=true:=by kernel_rfl
theorem K4j:de Go.Proofs.Tryz.prog numF (numF F4j) Z4j=true:=by kernel_rfl
theorem K4k:de Go.Proofs.Tryz.prog numF (numF F4k) Z4k=true:=by kernel_rfl
theorem K4l:de Go.Proofs.Tryz.prog numF (numF F4l) Z4l=true:=by kernel_rfl
theorem K4m:de Go.Proofs.Tryz.prog numF (numF F4m) Z4m=true:=by kernel_rfl
theorem K4n:de Go.Proofs.Tryz.prog numF (numF F4n) Z4n=true:=by kernel_rfl
theorem K4o:de Go.Proofs.Tryz.prog numF (numF F4o) Z4o=true:=by kernel_rfl
theorem K4p:de Go.Proofs.Tryz.prog numF (numF F4p) Z4p=true:=by kernel_rfl
theorem K4q:de Go.Proofs.Tryz.prog numF (numF F4q) Z4q=true:=by kernel_rfl
theorem K4r:de Go.Proofs.Tryz.prog numF (numF F4r) Z4r=true:=by kernel_rfl
theorem K4s:de Go.Proofs.Tryz.prog numF (numF F4s) Z4s=true:=by kernel_rfl
theorem K4t:de Go.Proofs.Tryz.prog numF (numF F4t) Z4t=true:=by kernel_rfl
theorem K4u:de Go.Proofs.Tryz.prog numF (numF F4u) Z4u=true:=by kernel_rfl
theorem K4v:de Go.Proofs.Tryz.prog numF (numF F4v) Z4v=true:=by kernel_rfl
theorem K4w:de Go.Proofs.Tryz.prog numF (numF F4w) Z4w=true:=by kernel_rfl
theorem K4x:de Go.Proofs.Tryz.prog numF (numF F4x) Z4x=true:=by kernel_rfl
theorem K4y:de Go.Proofs.Tryz.prog numF (numF F4y) Z4y=true:=by kernel_rfl
theorem K4z:de Go.Proofs.Tryz.prog numF (numF F4z) Z4z=true:=by kernel_rfl
theorem K50:de Go.Proofs.Tryz.prog numF (numF F50) Z50=true:=by kernel_rfl
theorem K51:de Go.Proofs.Tryz.prog numF (numF F51) Z51=true:=by kernel_rfl
theorem K52:de Go.Proofs.Tryz.prog numF (numF F52) Z52=true:=by kernel_rfl
theorem K53:de Go.Proofs.Tryz.prog numF (numF F53) Z53=true:=by kernel_rfl
theorem K54:de Go.Proofs.Tryz.prog numF (numF F54) Z54=true:=by kernel_rfl
theorem K55:de Go.Proofs.Tryz.prog numF (numF F55) Z55=true:=by kernel_rfl
theorem K56:de Go.Proofs.Tryz.prog numF (numF F56) Z56=true:=by kernel_rfl
theorem aeg:∀f fn,tabF f=some fn→∃g,Go.Proofs.Tryz.prog.funcs[numF f]? = some g∧Jf Go.Proofs.Tryz.prog numF fn g=true:=Ob (l:=tab) ⟨K0,K1,K2,K3,K4,K5,K6,K7,K8,K9,Ka,Kb,Kc,Ke,Kf,Kg,Kh,Ki,Kj,Kk,Kl,Km,Ko,Kq,Kr,Ks,Kt,Ku,Kv,Kw,Kx,Ky,K10,K11,K12,K13,K14,K15,K16,K17,K18,K19,K1a,K1b,K1c,K1d,K1e,K1f,K1g,K1h,K1i,K1j,K1k,K1l,K1m,K1n,K1o,K1p,K1q,K1r,K1s,K1t,K1u,K1v,K1w,K1x,K1y,K1z,K20,K21,K22,K23,K24,K25,K26,K27,K28,K29,K2a,K2b,K2c,K2d,K2e,K2g,K2i,K2j,K2k,K2l,K2m,K2n,K2o,K2p,K2w,K2x,K3b,K3c,K3i,K3j,K3k,K3l,K3m,K3n,K3o,K3p,K3q,K3r,K3s,K3t,K3u,K3v,K3w,K3x,K3y,K3z,K40,K41,K42,K43,K44,K45,K46,K47,K48,K49,K4a,K4b,K4c,K4d,K4e,K4f,K4g,K4h,K4i,K4j,K4k,K4l,K4m,K4n,K4o,K4p,K4q,K4r,K4s,K4t,K4u,K4v,K4w,K4x,K4y,K4z,K50,K51,K52,K53,K54,K55,K56,trivial⟩
def Ao (f:Nat):Option (Sh×D×Nat):=if f=F2h then some (.leaf,.int .i64 0,8) else none
theorem abq:Go.Proofs.Tryz.prog.follows .mixedOrders=true:=by kernel_rfl
theorem a35:∀f s z bytes,Ao f=some (s,z,bytes)→Sh.beq s s=true∧∃g,Go.Proofs.Tryz.prog.funcs[numF f]? = some g∧Jf Go.Proofs.Tryz.prog numF (xh s z bytes) g=true∧(match g.body with | some x=>th x | none=>false)=true:=by
 intro f s z bytes h;unfold Ao at h
 split at h
 ·rename_i hf
  subst hf;obtain ⟨rfl,rfl,rfl⟩:Sh.leaf=s∧D.int .i64 0=z∧8=bytes:=by simpa using h
  refine ⟨rfl,?_⟩;have h1:(match Go.Proofs.Tryz.prog.funcs[numF F2h]? with | some g=>Jf Go.Proofs.Tryz.prog numF (xh .leaf (.int .i64 0) 8) g&&(match g.body with | some x=>th x | none=>false) | none=>false)=true:=by kernel_rfl
  split at h1
  ·rename_i g hg
   simp only [av] at h1;exact ⟨g,hg,h1.1,h1.2⟩
  ·cases h1
 ·cases h
theorem sound:nu Go.Proofs.Tryz.prog numF (den tabF (I9 Ao)):=a1n aeg (Qu abq a35) abq
end Pe
