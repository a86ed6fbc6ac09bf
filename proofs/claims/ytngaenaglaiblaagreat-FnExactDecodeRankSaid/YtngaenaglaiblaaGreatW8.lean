/-
  A part of the proof: an evaluator for a small form of the code, its soundness, and contracts of functions over it.
-/
import Derived.Test.YtngaenaglaiblaaGreatProg
import Derived.KernelRfl
import Derived.Test.YtngaenaglaiblaaGreatW1
import Derived.Test.YtngaenaglaiblaaGreatW2
import Derived.Test.YtngaenaglaiblaaGreatW3
import Derived.Test.YtngaenaglaiblaaGreatW4
import Derived.Test.YtngaenaglaiblaaGreatW5
import Derived.Test.YtngaenaglaiblaaGreatW6
import Derived.Test.YtngaenaglaiblaaGreatW7

namespace Pe
open Go
def tab:List (Nat×Fn):=[(F0,Z0),(F1,Z1),(F2,Z2),(F3,Z3),(F4,ir_impl_DecodeRankt),(F5,ir_impl_DecodeRank_hwt),(F6,Z6),(F8,Z8),(F9,Z9),(Fa,Za),(Fb,Zb),(Fc,Zc),(Fe,Ze),(Ff,Zf),(Fg,ir_impl_field_decodet),(Fh,Zh),(Fi,Zi),(Fj,Zj),(Fk,Zk),(Fl,Zl),(Fm,Zm),(Fo,ir_impl_field_solutiont),(Fq,Zq),(Fr,Zr),(Fs,Zs),(Ft,Zt),(Fu,Zu),(Fv,Zv),(Fw,Zw),(Fx,Zx),(Fy,Zy),(Fz,Zz),(F10,Z10),(F11,Z11),(F12,Z12),(F13,Z13),(F14,Z14),(F15,Z15),(F16,Z16),(F17,Z17),(F18,Z18),(F19,Z19),(F1a,Z1a),(F1b,Z1b),(F1c,Z1c),(F1d,Z1d),(F1e,Z1e),(F1f,Z1f),(F1g,Z1g),(F1h,Z1h),(F1i,Z1i),(F1j,Z1j),(F1k,Z1k),(F1l,Z1l),(F1m,Z1m),(F1n,Z1n),(F1o,Z1o),(F1p,Z1p),(F1q,Z1q),(F1r,Z1r),(F1s,Z1s),(F1t,Z1t),(F1u,Z1u),(F1v,Z1v),(F1w,Z1w),(F1x,Z1x),(F1y,Z1y),(F1z,Z1z),(F20,Z20),(F21,Z21),(F22,Z22),(F23,Z23),(F24,Z24),(F25,Z25),(F26,Z26),(F27,Z27),(F29,Z29),(F2b,Z2b),(F2c,Z2c),(F2d,Z2d),(F2f,Z2f),(F2g,Z2g),(F2h,Z2h),(F2i,Z2i),(F2p,Z2p),(F2q,Z2q),(F34,Z34),(F35,Z35),(F3b,ir_spec_DecodeRankt),(F3c,Z3c),(F3d,Z3d),(F3e,Z3e),(F3f,Z3f),(F3g,Z3g),(F3h,Z3h),(F3i,Z3i),(F3j,Z3j),(F3k,Z3k),(F3l,Z3l),(F3m,Z3m),(F3n,Z3n),(F3o,Z3o),(F3p,Z3p),(F3q,Z3q),(F3r,Z3r),(F3s,Z3s),(F3t,Z3t),(F3u,Z3u),(F3v,Z3v),(F3w,Z3w),(F3x,Z3x),(F3y,Z3y),(F3z,Z3z),(F40,Z40),(F41,Z41),(F42,Z42),(F43,Z43),(F44,Z44),(F45,Z45),(F46,Z46),(F47,ir_spec_l09Decodet),(F48,Z48),(F49,ir_spec_l09Nullt),(F4a,Z4a),(F4b,Z4b),(F4c,Z4c),(F4d,Z4d)]
def nums:List (Nat×Nat):=[(F24,6),(F23,4),(F25,7),(F26,7),(F1z,20),(F20,9),(F22,10),(F21,11),(F3h,22),(F3e,46),(F3c,24),(F3i,95),(F40,73),(F4c,45),(F3q,106),(F3k,92),(F41,72),(F3f,96),(F3l,74),(F3o,50),(F3t,76),(F3n,49),(F3p,47),(F3s,97),(F3d,75),(F3g,108),(F3r,107),(F3j,94),(F3m,93),(F3w,71),(F42,44),(F46,21),(F4a,12),(F48,29),(F3v,27),(F3x,23),(F44,51),(F3u,53),(F3y,48),(F43,52),(F3z,28),(F45,54),(F4d,30),(F4b,26),(F49,25),(F47,13),(F3b,5),(F1r,60),(F1m,35),(Fe,16),(F1q,43),(Fz,19),(F1s,18),(F1o,61),(F2f,134),(F2c,116),(F9,117),(F8,101),(Fv,102),(Fu,81),(Fk,57),(F1d,89),(F1n,82),(F11,63),(F1j,88),(F1h,37),(F17,83),(F1p,84),(F2a,128),(F13,105),(F10,90),(F16,110),(F1g,87),(F1b,62),(Fx,109),(F1a,130),(F19,129),(F1k,111),(F1i,112),(F2p,140),(F38,151),(F2n,141),(F28,126),(F29,127),(F27,104),(F2v,136),(F3a,137),(F2j,142),(F2w,154),(F2t,153),(F2r,152),(F2l,143),(F36,144),(F2y,145),(F32,146),(F30,147),(F34,131),(F2h,113),(F2,148),(F0,132),(F3,149),(F1,133),(Fc,115),(F15,114),(F14,99),(F18,78),(F1x,34),(Fw,98),(F6,77),(Ft,55),(F2g,100),(F2d,79),(Fb,80),(Fa,56),(F1l,31),(F2q,118),(F39,135),(F2o,119),(F2k,120),(F2x,150),(F2u,139),(F2s,138),(F2m,121),(F37,122),(F2z,123),(F33,124),(F31,125),(F35,103),(F2i,85),(F1f,86),(F1e,59),(F1c,33),(F2e,58),(F2b,32),(Fy,14),(Fs,15),(F12,41),(F1w,39),(Fm,65),(Fi,36),(Ff,69),(F1t,66),(F1v,67),(F1u,91),(Fl,68),(Fj,64),(Fh,40),(Fq,70),(Fr,42),(Fo,38),(Fg,17),(F4,8),(F5,8),(F1y,3)]
def tabF (f:Nat):Option Fn:=tab.lookup f
def numF (f:Nat):Nat:=(nums.lookup f).getD 0
theorem K0:dt Go.Proofs.Tryz.prog numF (numF F0) Z0=true:=by kernel_rfl
theorem K1:dt Go.Proofs.Tryz.prog numF (numF F1) Z1=true:=by kernel_rfl
theorem K2:dt Go.Proofs.Tryz.prog numF (numF F2) Z2=true:=by kernel_rfl
theorem K3:dt Go.Proofs.Tryz.prog numF (numF F3) Z3=true:=by kernel_rfl
theorem K4:dt Go.Proofs.Tryz.prog numF (numF F4) ir_impl_DecodeRankt=true:=by kernel_rfl
theorem K5:dt Go.Proofs.Tryz.prog numF (numF F5) ir_impl_DecodeRank_hwt=true:=by kernel_rfl
theorem K6:dt Go.Proofs.Tryz.prog numF (numF F6) Z6=true:=by kernel_rfl
theorem K8:dt Go.Proofs.Tryz.prog numF (numF F8) Z8=true:=by kernel_rfl
theorem K9:dt Go.Proofs.Tryz.prog numF (numF F9) Z9=true:=by kernel_rfl
theorem Ka:dt Go.Proofs.Tryz.prog numF (numF Fa) Za=true:=by kernel_rfl
theorem Kb:dt Go.Proofs.Tryz.prog numF (numF Fb) Zb=true:=by kernel_rfl
theorem Kc:dt Go.Proofs.Tryz.prog numF (numF Fc) Zc=true:=by kernel_rfl
theorem Ke:dt Go.Proofs.Tryz.prog numF (numF Fe) Ze=true:=by kernel_rfl
theorem Kf:dt Go.Proofs.Tryz.prog numF (numF Ff) Zf=true:=by kernel_rfl
theorem Kg:dt Go.Proofs.Tryz.prog numF (numF Fg) ir_impl_field_decodet=true:=by kernel_rfl
theorem Kh:dt Go.Proofs.Tryz.prog numF (numF Fh) Zh=true:=by kernel_rfl
theorem Ki:dt Go.Proofs.Tryz.prog numF (numF Fi) Zi=true:=by kernel_rfl
theorem Kj:dt Go.Proofs.Tryz.prog numF (numF Fj) Zj=true:=by kernel_rfl
theorem Kk:dt Go.Proofs.Tryz.prog numF (numF Fk) Zk=true:=by kernel_rfl
theorem Kl:dt Go.Proofs.Tryz.prog numF (numF Fl) Zl=true:=by kernel_rfl
theorem Km:dt Go.Proofs.Tryz.prog numF (numF Fm) Zm=true:=by kernel_rfl
theorem Ko:dt Go.Proofs.Tryz.prog numF (numF Fo) ir_impl_field_solutiont=true:=by kernel_rfl
theorem Kq:dt Go.Proofs.Tryz.prog numF (numF Fq) Zq=true:=by kernel_rfl
theorem Kr:dt Go.Proofs.Tryz.prog numF (numF Fr) Zr=true:=by kernel_rfl
theorem Ks:dt Go.Proofs.Tryz.prog numF (numF Fs) Zs=true:=by kernel_rfl
theorem Kt:dt Go.Proofs.Tryz.prog numF (numF Ft) Zt=true:=by kernel_rfl
theorem Ku:dt Go.Proofs.Tryz.prog numF (numF Fu) Zu=true:=by kernel_rfl
theorem Kv:dt Go.Proofs.Tryz.prog numF (numF Fv) Zv=true:=by kernel_rfl
theorem Kw:dt Go.Proofs.Tryz.prog numF (numF Fw) Zw=true:=by kernel_rfl
theorem Kx:dt Go.Proofs.Tryz.prog numF (numF Fx) Zx=true:=by kernel_rfl
theorem Ky:dt Go.Proofs.Tryz.prog numF (numF Fy) Zy=true:=by kernel_rfl
theorem Kz:dt Go.Proofs.Tryz.prog numF (numF Fz) Zz=true:=by kernel_rfl
theorem K10:dt Go.Proofs.Tryz.prog numF (numF F10) Z10=true:=by kernel_rfl
theorem K11:dt Go.Proofs.Tryz.prog numF (numF F11) Z11=true:=by kernel_rfl
theorem K12:dt Go.Proofs.Tryz.prog numF (numF F12) Z12=true:=by kernel_rfl
theorem K13:dt Go.Proofs.Tryz.prog numF (numF F13) Z13=true:=by kernel_rfl
theorem K14:dt Go.Proofs.Tryz.prog numF (numF F14) Z14=true:=by kernel_rfl
theorem K15:dt Go.Proofs.Tryz.prog numF (numF F15) Z15=true:=by kernel_rfl
theorem K16:dt Go.Proofs.Tryz.prog numF (numF F16) Z16=true:=by kernel_rfl
theorem K17:dt Go.Proofs.Tryz.prog numF (numF F17) Z17=true:=by kernel_rfl
theorem K18:dt Go.Proofs.Tryz.prog numF (numF F18) Z18=true:=by kernel_rfl
theorem K19:dt Go.Proofs.Tryz.prog numF (numF F19) Z19=true:=by kernel_rfl
theorem K1a:dt Go.Proofs.Tryz.prog numF (numF F1a) Z1a=true:=by kernel_rfl
theorem K1b:dt Go.Proofs.Tryz.prog numF (numF F1b) Z1b=true:=by kernel_rfl
theorem K1c:dt Go.Proofs.Tryz.prog numF (numF F1c) Z1c=true:=by kernel_rfl
theorem K1d:dt Go.Proofs.Tryz.prog numF (numF F1d) Z1d=true:=by kernel_rfl
theorem K1e:dt Go.Proofs.Tryz.prog numF (numF F1e) Z1e=true:=by kernel_rfl
theorem K1f:dt Go.Proofs.Tryz.prog numF (numF F1f) Z1f=true:=by kernel_rfl
theorem K1g:dt Go.Proofs.Tryz.prog numF (numF F1g) Z1g=true:=by kernel_rfl
theorem K1h:dt Go.Proofs.Tryz.prog numF (numF F1h) Z1h=true:=by kernel_rfl
theorem K1i:dt Go.Proofs.Tryz.prog numF (numF F1i) Z1i=true:=by kernel_rfl
theorem K1j:dt Go.Proofs.Tryz.prog numF (numF F1j) Z1j=true:=by kernel_rfl
theorem K1k:dt Go.Proofs.Tryz.prog numF (numF F1k) Z1k=true:=by kernel_rfl
theorem K1l:dt Go.Proofs.Tryz.prog numF (numF F1l) Z1l=true:=by kernel_rfl
theorem K1m:dt Go.Proofs.Tryz.prog numF (numF F1m) Z1m=true:=by kernel_rfl
theorem K1n:dt Go.Proofs.Tryz.prog numF (numF F1n) Z1n=true:=by kernel_rfl
theorem K1o:dt Go.Proofs.Tryz.prog numF (numF F1o) Z1o=true:=by kernel_rfl
theorem K1p:dt Go.Proofs.Tryz.prog numF (numF F1p) Z1p=true:=by kernel_rfl
theorem K1q:dt Go.Proofs.Tryz.prog numF (numF F1q) Z1q=true:=by kernel_rfl
theorem K1r:dt Go.Proofs.Tryz.prog numF (numF F1r) Z1r=true:=by kernel_rfl
theorem K1s:dt Go.Proofs.Tryz.prog numF (numF F1s) Z1s=true:=by kernel_rfl
theorem K1t:dt Go.Proofs.Tryz.prog numF (numF F1t) Z1t=true:=by kernel_rfl
theorem K1u:dt Go.Proofs.Tryz.prog numF (numF F1u) Z1u=true:=by kernel_rfl
theorem K1v:dt Go.Proofs.Tryz.prog numF (numF F1v) Z1v=true:=by kernel_rfl
theorem K1w:dt Go.Proofs.Tryz.prog numF (numF F1w) Z1w=true:=by kernel_rfl
theorem K1x:dt Go.Proofs.Tryz.prog numF (numF F1x) Z1x=true:=by kernel_rfl
theorem K1y:dt Go.Proofs.Tryz.prog numF (numF F1y) Z1y=true:=by kernel_rfl
theorem K1z:dt Go.Proofs.Tryz.prog numF (numF F1z) Z1z=true:=by kernel_rfl
theorem K20:dt Go.Proofs.Tryz.prog numF (numF F20) Z20=true:=by kernel_rfl
theorem K21:dt Go.Proofs.Tryz.prog numF (numF F21) Z21=true:=by kernel_rfl
theorem K22:dt Go.Proofs.Tryz.prog numF (numF F22) Z22=true:=by kernel_rfl
theorem K23:dt Go.Proofs.Tryz.prog numF (numF F23) Z23=true:=by kernel_rfl
theorem K24:dt Go.Proofs.Tryz.prog numF (numF F24) Z24=true:=by kernel_rfl
theorem K25:dt Go.Proofs.Tryz.prog numF (numF F25) Z25=true:=by kernel_rfl
theorem K26:dt Go.Proofs.Tryz.prog numF (numF F26) Z26=true:=by kernel_rfl
theorem K27:dt Go.Proofs.Tryz.prog numF (numF F27) Z27=true:=by kernel_rfl
theorem K29:dt Go.Proofs.Tryz.prog numF (numF F29) Z29=true:=by kernel_rfl
theorem K2b:dt Go.Proofs.Tryz.prog numF (numF F2b) Z2b=true:=by kernel_rfl
theorem K2c:dt Go.Proofs.Tryz.prog numF (numF F2c) Z2c=true:=by kernel_rfl
theorem K2d:dt Go.Proofs.Tryz.prog numF (numF F2d) Z2d=true:=by kernel_rfl
theorem K2f:dt Go.Proofs.Tryz.prog numF (numF F2f) Z2f=true:=by kernel_rfl
theorem K2g:dt Go.Proofs.Tryz.prog numF (numF F2g) Z2g=true:=by kernel_rfl
theorem K2h:dt Go.Proofs.Tryz.prog numF (numF F2h) Z2h=true:=by kernel_rfl
theorem K2i:dt Go.Proofs.Tryz.prog numF (numF F2i) Z2i=true:=by kernel_rfl
theorem K2p:dt Go.Proofs.Tryz.prog numF (numF F2p) Z2p=true:=by kernel_rfl
theorem K2q:dt Go.Proofs.Tryz.prog numF (numF F2q) Z2q=true:=by kernel_rfl
theorem K34:dt Go.Proofs.Tryz.prog numF (numF F34) Z34=true:=by kernel_rfl
theorem K35:dt Go.Proofs.Tryz.prog numF (numF F35) Z35=true:=by kernel_rfl
theorem K3b:dt Go.Proofs.Tryz.prog numF (numF F3b) ir_spec_DecodeRankt=true:=by kernel_rfl
theorem K3c:dt Go.Proofs.Tryz.prog numF (numF F3c) Z3c=true:=by kernel_rfl
theorem K3d:dt Go.Proofs.Tryz.prog numF (numF F3d) Z3d=true:=by kernel_rfl
theorem K3e:dt Go.Proofs.Tryz.prog numF (numF F3e) Z3e=true:=by kernel_rfl
theorem K3f:dt Go.Proofs.Tryz.prog numF (numF F3f) Z3f=true:=by kernel_rfl
theorem K3g:dt Go.Proofs.Tryz.prog numF (numF F3g) Z3g=true:=by kernel_rfl
theorem K3h:dt Go.Proofs.Tryz.prog numF (numF F3h) Z3h=true:=by kernel_rfl
theorem K3i:dt Go.Proofs.Tryz.prog numF (numF F3i) Z3i=true:=by kernel_rfl
theorem K3j:dt Go.Proofs.Tryz.prog numF (numF F3j) Z3j=true:=by kernel_rfl
theorem K3k:dt Go.Proofs.Tryz.prog numF (numF F3k) Z3k=true:=by kernel_rfl
theorem K3l:dt Go.Proofs.Tryz.prog numF (numF F3l) Z3l=true:=by kernel_rfl
theorem K3m:dt Go.Proofs.Tryz.prog numF (numF F3m) Z3m=true:=by kernel_rfl
theorem K3n:dt Go.Proofs.Tryz.prog numF (numF F3n) Z3n=true:=by kernel_rfl
theorem K3o:dt Go.Proofs.Tryz.prog numF (numF F3o) Z3o=true:=by kernel_rfl
theorem K3p:dt Go.Proofs.Tryz.prog numF (numF F3p) Z3p=true:=by kernel_rfl
theorem K3q:dt Go.Proofs.Tryz.prog numF (numF F3q) Z3q=true:=by kernel_rfl
theorem K3r:dt Go.Proofs.Tryz.prog numF (numF F3r) Z3r=true:=by kernel_rfl
theorem K3s:dt Go.Proofs.Tryz.prog numF (numF F3s) Z3s=true:=by kernel_rfl
theorem K3t:dt Go.Proofs.Tryz.prog numF (numF F3t) Z3t=true:=by kernel_rfl
theorem K3u:dt Go.Proofs.Tryz.prog numF (numF F3u) Z3u=true:=by kernel_rfl
theorem K3v:dt Go.Proofs.Tryz.prog numF (numF F3v) Z3v=true:=by kernel_rfl
theorem K3w:dt Go.Proofs.Tryz.prog numF (numF F3w) Z3w=true:=by kernel_rfl
theorem K3x:dt Go.Proofs.Tryz.prog numF (numF F3x) Z3x=true:=by kernel_rfl
theorem K3y:dt Go.Proofs.Tryz.prog numF (numF F3y) Z3y=true:=by kernel_rfl
theorem K3z:dt Go.Proofs.Tryz.prog numF (numF F3z) Z3z=true:=by kernel_rfl
theorem K40:dt Go.Proofs.Tryz.prog numF (numF F40) Z40=true:=by kernel_rfl
theorem K41:dt Go.Proofs.Tryz.prog numF (numF F41) Z41=true:=by kernel_rfl
theorem K42:dt Go.Proofs.Tryz.prog numF (numF F42) Z42=true:=by kernel_rfl
theorem K43:dt Go.Proofs.Tryz.prog numF (numF F43) Z43=true:=by kernel_rfl
theorem K44:dt Go.Proofs.Tryz.prog numF (numF F44) Z44=true:=by kernel_rfl
theorem K45:dt Go.Proofs.Tryz.prog numF (numF F45) Z45=true:=by kernel_rfl
theorem K46:dt Go.Proofs.Tryz.prog numF (numF F46) Z46=true:=by kernel_rfl
theorem K47:dt Go.Proofs.Tryz.prog numF (numF F47) ir_spec_l09Decodet=true:=by kernel_rfl
theorem K48:dt Go.Proofs.Tryz.prog numF (numF F48) Z48=true:=by kernel_rfl
theorem K49:dt Go.Proofs.Tryz.prog numF (numF F49) ir_spec_l09Nullt=true:=by kernel_rfl
theorem K4a:dt Go.Proofs.Tryz.prog numF (numF F4a) Z4a=true:=by kernel_rfl
theorem K4b:dt Go.Proofs.Tryz.prog numF (numF F4b) Z4b=true:=by kernel_rfl
theorem K4c:dt Go.Proofs.Tryz.prog numF (numF F4c) Z4c=true:=by kernel_rfl
theorem K4d:dt Go.Proofs.Tryz.prog numF (numF F4d) Z4d=true:=by kernel_rfl
theorem adk:∀f fn,tabF f=some fn→∃g,Go.Proofs.Tryz.prog.funcs[numF f]? = some g∧B6 Go.Proofs.Tryz.prog numF fn g=true:=Oe (l:=tab) ⟨K0,K1,K2,K3,K4,K5,K6,K8,K9,Ka,Kb,Kc,Ke,Kf,Kg,Kh,Ki,Kj,Kk,Kl,Km,Ko,Kq,Kr,Ks,Kt,Ku,Kv,Kw,Kx,Ky,Kz,K10,K11,K12,K13,K14,K15,K16,K17,K18,K19,K1a,K1b,K1c,K1d,K1e,K1f,K1g,K1h,K1i,K1j,K1k,K1l,K1m,K1n,K1o,K1p,K1q,K1r,K1s,K1t,K1u,K1v,K1w,K1x,K1y,K1z,K20,K21,K22,K23,K24,K25,K26,K27,K29,K2b,K2c,K2d,K2f,K2g,K2h,K2i,K2p,K2q,K34,K35,K3b,K3c,K3d,K3e,K3f,K3g,K3h,K3i,K3j,K3k,K3l,K3m,K3n,K3o,K3p,K3q,K3r,K3s,K3t,K3u,K3v,K3w,K3x,K3y,K3z,K40,K41,K42,K43,K44,K45,K46,K47,K48,K49,K4a,K4b,K4c,K4d,trivial⟩
def Ae (f:Nat):Option (Sh×D×Nat):=if f=F2a then some (.leaf,.int .i64 0,8) else none
theorem a77:Go.Proofs.Tryz.prog.follows .mixedOrders=true:=by kernel_rfl
theorem a3c:∀f s z bytes,Ae f=some (s,z,bytes)→Sh.beq s s=true∧∃g,Go.Proofs.Tryz.prog.funcs[numF f]? = some g∧B6 Go.Proofs.Tryz.prog numF (xh s z bytes) g=true∧(match g.body with | some x=>tq x | none=>false)=true:=by
 intro f s z bytes h;unfold Ae at h
 split at h
 ·rename_i hf
  subst hf;obtain ⟨rfl,rfl,rfl⟩:Sh.leaf=s∧D.int .i64 0=z∧8=bytes:=by simpa using h
  refine ⟨rfl,?_⟩;have h1:(match Go.Proofs.Tryz.prog.funcs[numF F2a]? with | some g=>B6 Go.Proofs.Tryz.prog numF (xh .leaf (.int .i64 0) 8) g&&(match g.body with | some x=>tq x | none=>false) | none=>false)=true:=by kernel_rfl
  split at h1
  ·rename_i g hg
   simp only [av] at h1;exact ⟨g,hg,h1.1,h1.2⟩
  ·cases h1
 ·cases h
def Ef (f:Nat):Option (Sh×D×Nat):=if f=F2e then some (.arr 64 .leaf,.arr 64 .leaf z64,64) else none
theorem a4x:∀f s z bytes,Ef f=some (s,z,bytes)→Sh.beq s s=true∧∃g,Go.Proofs.Tryz.prog.funcs[numF f]? = some g∧B6 Go.Proofs.Tryz.prog numF (H9 s) g=true∧(match g.body with | some x=>sc Go.Proofs.Tryz.prog numF s z bytes x | none=>false)=true:=by
 intro f s z bytes h;unfold Ef at h
 split at h
 ·rename_i hf
  subst hf;obtain ⟨rfl,rfl,rfl⟩:Sh.arr 64 .leaf=s∧D.arr 64 .leaf z64=z∧64=bytes:=by simpa using h
  refine ⟨rfl,?_⟩;have h1:(match Go.Proofs.Tryz.prog.funcs[numF F2e]? with | some g=>B6 Go.Proofs.Tryz.prog numF (H9 (.arr 64 .leaf)) g&&(match g.body with | some x=>sc Go.Proofs.Tryz.prog numF (.arr 64 .leaf) (.arr 64 .leaf z64) 64 x | none=>false) | none=>false)=true:=by kernel_rfl
  split at h1
  ·rename_i g hg
   simp only [av] at h1;exact ⟨g,hg,h1.1,h1.2⟩
  ·cases h1
 ·cases h
theorem sound:km Go.Proofs.Tryz.prog numF (den tabF (orA (Gl Ae) (Nz Ef))):=a38 adk (a36 (Qg a77 a3c) (V2 a77 a4x)) a77
end Pe
