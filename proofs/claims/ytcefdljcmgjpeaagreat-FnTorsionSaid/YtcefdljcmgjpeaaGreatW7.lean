/-
  A part of the proof: an evaluator for a small form of the code, its soundness, and contracts of functions over it.
-/
import Derived.Test.YtcefdljcmgjpeaaGreatProg
import Derived.KernelRfl
import Derived.Test.YtcefdljcmgjpeaaGreatW1
import Derived.Test.YtcefdljcmgjpeaaGreatW2
import Derived.Test.YtcefdljcmgjpeaaGreatW3
import Derived.Test.YtcefdljcmgjpeaaGreatW4
import Derived.Test.YtcefdljcmgjpeaaGreatW5
import Derived.Test.YtcefdljcmgjpeaaGreatW6

namespace Pe
open Go
def tab:List (Nat×Fn):=[(F0,Z0),(F3,Z3),(F4,Z4),(F5,Z5),(F6,Z6),(F7,Z7),(F8,Z8),(F9,Z9),(Fa,Za),(Fb,Zb),(Fc,Zc),(Fe,Ze),(Fg,Zg),(Fh,Zh),(Fi,Zi),(Fj,Zj),(Fk,Zk),(Fl,Zl),(Fm,Zm),(Fo,Zo),(Fq,Zq),(Fr,Zr),(Fs,Zs),(Ft,Zt),(Fu,Zu),(Fv,Zv),(Fw,Zw),(Fx,Zx),(Fy,Zy),(Fz,Zz),(F10,Z10),(F11,Z11),(F12,Z12),(F13,Z13),(F14,Z14),(F15,Z15),(F16,Z16),(F17,Z17),(F18,Z18),(F19,Z19),(F1a,Z1a),(F1b,Z1b),(F1c,Z1c),(F1d,Z1d),(F1e,Z1e),(F1f,Z1f),(F1g,Z1g),(F1h,Z1h),(F1i,Z1i),(F1j,Z1j),(F1k,Z1k),(F1l,Z1l),(F1m,Z1m),(F1n,Z1n),(F1o,Z1o),(F1p,Z1p),(F1q,Z1q),(F1r,Z1r),(F1s,Z1s),(F1t,Z1t),(F1u,Z1u),(F1v,Z1v),(F1w,Z1w),(F1x,Z1x),(F1y,Z1y),(F1z,Z1z),(F21,Z21),(F23,Z23),(F24,Z24),(F25,Z25),(F26,Z26),(F27,Z27),(F2a,Z2a),(F2b,Z2b),(F2i,Z2i),(F2j,Z2j),(F2x,Z2x),(F2y,Z2y),(F36,Z36),(F37,Z37),(F38,Z38),(F39,Z39),(F3a,Z3a),(F3b,Z3b),(F3c,Z3c),(F3d,Z3d),(F3e,Z3e),(F3f,Z3f),(F3g,Z3g),(F3h,Z3h),(F3i,Z3i),(F3j,Z3j),(F3k,Z3k),(F3l,Z3l),(F3m,Z3m),(F3n,Z3n),(F3o,Z3o),(F3p,Z3p),(F3q,Z3q),(F3r,Z3r),(F3s,Z3s),(F3t,Z3t),(F3u,Z3u),(F3v,Z3v),(F3w,Z3w),(F3x,Z3x),(F3y,Z3y),(F3z,Z3z),(F40,Z40),(F41,Z41),(F42,Z42),(F43,Z43),(F44,Z44),(F45,Z45),(F46,Z46),(F47,Z47),(F48,Z48),(F49,Z49),(F4a,Z4a),(F4b,Z4b)]
def nums:List (Nat×Nat):=[(F1y,4),(F1u,69),(F1o,27),(F1t,62),(F1q,28),(F1r,78),(F1v,37),(F1b,30),(F1a,31),(Ft,83),(F26,125),(F24,102),(Fl,103),(Fk,84),(F25,137),(F23,126),(Fj,127),(Fi,104),(Fs,105),(Fr,86),(Fx,85),(Fw,46),(F1w,48),(F1s,47),(Fq,68),(Fv,26),(F1d,88),(F1p,71),(F12,50),(F1m,52),(F1j,72),(F17,73),(F22,89),(F13,53),(F11,101),(F16,81),(F19,41),(F1i,51),(F27,98),(F1h,99),(F29,149),(F31,136),(F32,124),(F28,100),(F1g,79),(F1c,94),(Fu,93),(F1k,70),(F10,80),(Fz,38),(Fc,11),(F3i,34),(F3p,56),(F41,44),(F3s,90),(F3h,54),(F3u,55),(F46,33),(F3e,59),(F3q,76),(F3j,61),(F3t,40),(F3y,60),(F44,122),(F3v,97),(F40,91),(F42,82),(F4b,77),(F48,39),(F49,42),(F3c,12),(Fg,22),(Fy,29),(F6,18),(Fb,19),(Fa,20),(F1n,106),(F1l,107),(F2i,138),(F33,150),(F2g,139),(F20,120),(F21,121),(F1z,96),(F2o,132),(F35,133),(F2c,140),(F2p,153),(F2m,152),(F2k,151),(F2e,141),(F2z,142),(F2r,143),(F2v,144),(F2t,145),(F2x,128),(F2a,108),(F4,146),(F0,129),(F5,147),(F3,130),(Fm,110),(F15,109),(F14,87),(F18,49),(Fo,63),(Fe,21),(F3n,23),(F3w,25),(F43,58),(F3g,111),(F3o,92),(F3r,57),(F3l,45),(F3k,65),(F3z,66),(F3m,64),(F3f,67),(F45,24),(F3b,5),(F2j,112),(F34,131),(F2h,113),(F2d,114),(F2q,148),(F2n,135),(F2l,134),(F2f,115),(F30,116),(F2s,117),(F2w,118),(F2u,119),(F2y,95),(F2b,74),(F1f,75),(F1e,32),(Fh,6),(F4a,35),(F47,36),(F3d,7),(F39,8),(F7,9),(F36,10),(F8,13),(F3x,43),(F37,14),(F3a,15),(F9,16),(F38,17),(F1x,3)]
def tabF (f:Nat):Option Fn:=tab.lookup f
def numF (f:Nat):Nat:=(nums.lookup f).getD 0
theorem K0:em Go.Proofs.Tryz.prog numF (numF F0) Z0=true:=by kernel_rfl
theorem K3:em Go.Proofs.Tryz.prog numF (numF F3) Z3=true:=by kernel_rfl
theorem K4:em Go.Proofs.Tryz.prog numF (numF F4) Z4=true:=by kernel_rfl
theorem K5:em Go.Proofs.Tryz.prog numF (numF F5) Z5=true:=by kernel_rfl
theorem K6:em Go.Proofs.Tryz.prog numF (numF F6) Z6=true:=by kernel_rfl
theorem K7:em Go.Proofs.Tryz.prog numF (numF F7) Z7=true:=by kernel_rfl
theorem K8:em Go.Proofs.Tryz.prog numF (numF F8) Z8=true:=by kernel_rfl
theorem K9:em Go.Proofs.Tryz.prog numF (numF F9) Z9=true:=by kernel_rfl
theorem Ka:em Go.Proofs.Tryz.prog numF (numF Fa) Za=true:=by kernel_rfl
theorem Kb:em Go.Proofs.Tryz.prog numF (numF Fb) Zb=true:=by kernel_rfl
theorem Kc:em Go.Proofs.Tryz.prog numF (numF Fc) Zc=true:=by kernel_rfl
theorem Ke:em Go.Proofs.Tryz.prog numF (numF Fe) Ze=true:=by kernel_rfl
theorem Kg:em Go.Proofs.Tryz.prog numF (numF Fg) Zg=true:=by kernel_rfl
theorem Kh:em Go.Proofs.Tryz.prog numF (numF Fh) Zh=true:=by kernel_rfl
theorem Ki:em Go.Proofs.Tryz.prog numF (numF Fi) Zi=true:=by kernel_rfl
theorem Kj:em Go.Proofs.Tryz.prog numF (numF Fj) Zj=true:=by kernel_rfl
theorem Kk:em Go.Proofs.Tryz.prog numF (numF Fk) Zk=true:=by kernel_rfl
theorem Kl:em Go.Proofs.Tryz.prog numF (numF Fl) Zl=true:=by kernel_rfl
theorem Km:em Go.Proofs.Tryz.prog numF (numF Fm) Zm=true:=by kernel_rfl
theorem Ko:em Go.Proofs.Tryz.prog numF (numF Fo) Zo=true:=by kernel_rfl
theorem Kq:em Go.Proofs.Tryz.prog numF (numF Fq) Zq=true:=by kernel_rfl
theorem Kr:em Go.Proofs.Tryz.prog numF (numF Fr) Zr=true:=by kernel_rfl
theorem Ks:em Go.Proofs.Tryz.prog numF (numF Fs) Zs=true:=by kernel_rfl
theorem Kt:em Go.Proofs.Tryz.prog numF (numF Ft) Zt=true:=by kernel_rfl
theorem Ku:em Go.Proofs.Tryz.prog numF (numF Fu) Zu=true:=by kernel_rfl
theorem Kv:em Go.Proofs.Tryz.prog numF (numF Fv) Zv=true:=by kernel_rfl
theorem Kw:em Go.Proofs.Tryz.prog numF (numF Fw) Zw=true:=by kernel_rfl
theorem Kx:em Go.Proofs.Tryz.prog numF (numF Fx) Zx=true:=by kernel_rfl
theorem Ky:em Go.Proofs.Tryz.prog numF (numF Fy) Zy=true:=by kernel_rfl
theorem Kz:em Go.Proofs.Tryz.prog numF (numF Fz) Zz=true:=by kernel_rfl
theorem K10:em Go.Proofs.Tryz.prog numF (numF F10) Z10=true:=by kernel_rfl
theorem K11:em Go.Proofs.Tryz.prog numF (numF F11) Z11=true:=by kernel_rfl
theorem K12:em Go.Proofs.Tryz.prog numF (numF F12) Z12=true:=by kernel_rfl
theorem K13:em Go.Proofs.Tryz.prog numF (numF F13) Z13=true:=by kernel_rfl
theorem K14:em Go.Proofs.Tryz.prog numF (numF F14) Z14=true:=by kernel_rfl
theorem K15:em Go.Proofs.Tryz.prog numF (numF F15) Z15=true:=by kernel_rfl
theorem K16:em Go.Proofs.Tryz.prog numF (numF F16) Z16=true:=by kernel_rfl
theorem K17:em Go.Proofs.Tryz.prog numF (numF F17) Z17=true:=by kernel_rfl
theorem K18:em Go.Proofs.Tryz.prog numF (numF F18) Z18=true:=by kernel_rfl
theorem K19:em Go.Proofs.Tryz.prog numF (numF F19) Z19=true:=by kernel_rfl
theorem K1a:em Go.Proofs.Tryz.prog numF (numF F1a) Z1a=true:=by kernel_rfl
theorem K1b:em Go.Proofs.Tryz.prog numF (numF F1b) Z1b=true:=by kernel_rfl
theorem K1c:em Go.Proofs.Tryz.prog numF (numF F1c) Z1c=true:=by kernel_rfl
theorem K1d:em Go.Proofs.Tryz.prog numF (numF F1d) Z1d=true:=by kernel_rfl
theorem K1e:em Go.Proofs.Tryz.prog numF (numF F1e) Z1e=true:=by kernel_rfl
theorem K1f:em Go.Proofs.Tryz.prog numF (numF F1f) Z1f=true:=by kernel_rfl
theorem K1g:em Go.Proofs.Tryz.prog numF (numF F1g) Z1g=true:=by kernel_rfl
theorem K1h:em Go.Proofs.Tryz.prog numF (numF F1h) Z1h=true:=by kernel_rfl
theorem K1i:em Go.Proofs.Tryz.prog numF (numF F1i) Z1i=true:=by kernel_rfl
theorem K1j:em Go.Proofs.Tryz.prog numF (numF F1j) Z1j=true:=by kernel_rfl
theorem K1k:em Go.Proofs.Tryz.prog numF (numF F1k) Z1k=true:=by kernel_rfl
theorem K1l:em Go.Proofs.Tryz.prog numF (numF F1l) Z1l=true:=by kernel_rfl
theorem K1m:em Go.Proofs.Tryz.prog numF (numF F1m) Z1m=true:=by kernel_rfl
theorem K1n:em Go.Proofs.Tryz.prog numF (numF F1n) Z1n=true:=by kernel_rfl
theorem K1o:em Go.Proofs.Tryz.prog numF (numF F1o) Z1o=true:=by kernel_rfl
theorem K1p:em Go.Proofs.Tryz.prog numF (numF F1p) Z1p=true:=by kernel_rfl
theorem K1q:em Go.Proofs.Tryz.prog numF (numF F1q) Z1q=true:=by kernel_rfl
theorem K1r:em Go.Proofs.Tryz.prog numF (numF F1r) Z1r=true:=by kernel_rfl
theorem K1s:em Go.Proofs.Tryz.prog numF (numF F1s) Z1s=true:=by kernel_rfl
theorem K1t:em Go.Proofs.Tryz.prog numF (numF F1t) Z1t=true:=by kernel_rfl
theorem K1u:em Go.Proofs.Tryz.prog numF (numF F1u) Z1u=true:=by kernel_rfl
theorem K1v:em Go.Proofs.Tryz.prog numF (numF F1v) Z1v=true:=by kernel_rfl
theorem K1w:em Go.Proofs.Tryz.prog numF (numF F1w) Z1w=true:=by kernel_rfl
theorem K1x:em Go.Proofs.Tryz.prog numF (numF F1x) Z1x=true:=by kernel_rfl
theorem K1y:em Go.Proofs.Tryz.prog numF (numF F1y) Z1y=true:=by kernel_rfl
theorem K1z:em Go.Proofs.Tryz.prog numF (numF F1z) Z1z=true:=by kernel_rfl
theorem K21:em Go.Proofs.Tryz.prog numF (numF F21) Z21=true:=by kernel_rfl
theorem K23:em Go.Proofs.Tryz.prog numF (numF F23) Z23=true:=by kernel_rfl
theorem K24:em Go.Proofs.Tryz.prog numF (numF F24) Z24=true:=by kernel_rfl
theorem K25:em Go.Proofs.Tryz.prog numF (numF F25) Z25=true:=by kernel_rfl
theorem K26:em Go.Proofs.Tryz.prog numF (numF F26) Z26=true:=by kernel_rfl
theorem K27:em Go.Proofs.Tryz.prog numF (numF F27) Z27=true:=by kernel_rfl
theorem K2a:em Go.Proofs.Tryz.prog numF (numF F2a) Z2a=true:=by kernel_rfl
theorem K2b:em Go.Proofs.Tryz.prog numF (numF F2b) Z2b=true:=by kernel_rfl
theorem K2i:em Go.Proofs.Tryz.prog numF (numF F2i) Z2i=true:=by kernel_rfl
theorem K2j:em Go.Proofs.Tryz.prog numF (numF F2j) Z2j=true:=by kernel_rfl
theorem K2x:em Go.Proofs.Tryz.prog numF (numF F2x) Z2x=true:=by kernel_rfl
theorem K2y:em Go.Proofs.Tryz.prog numF (numF F2y) Z2y=true:=by kernel_rfl
theorem K36:em Go.Proofs.Tryz.prog numF (numF F36) Z36=true:=by kernel_rfl
theorem K37:em Go.Proofs.Tryz.prog numF (numF F37) Z37=true:=by kernel_rfl
theorem K38:em Go.Proofs.Tryz.prog numF (numF F38) Z38=true:=by kernel_rfl
theorem K39:em Go.Proofs.Tryz.prog numF (numF F39) Z39=true:=by kernel_rfl
theorem K3a:em Go.Proofs.Tryz.prog numF (numF F3a) Z3a=true:=by kernel_rfl
theorem K3b:em Go.Proofs.Tryz.prog numF (numF F3b) Z3b=true:=by kernel_rfl
theorem K3c:em Go.Proofs.Tryz.prog numF (numF F3c) Z3c=true:=by kernel_rfl
theorem K3d:em Go.Proofs.Tryz.prog numF (numF F3d) Z3d=true:=by kernel_rfl
theorem K3e:em Go.Proofs.Tryz.prog numF (numF F3e) Z3e=true:=by kernel_rfl
theorem K3f:em Go.Proofs.Tryz.prog numF (numF F3f) Z3f=true:=by kernel_rfl
theorem K3g:em Go.Proofs.Tryz.prog numF (numF F3g) Z3g=true:=by kernel_rfl
theorem K3h:em Go.Proofs.Tryz.prog numF (numF F3h) Z3h=true:=by kernel_rfl
theorem K3i:em Go.Proofs.Tryz.prog numF (numF F3i) Z3i=true:=by kernel_rfl
theorem K3j:em Go.Proofs.Tryz.prog numF (numF F3j) Z3j=true:=by kernel_rfl
theorem K3k:em Go.Proofs.Tryz.prog numF (numF F3k) Z3k=true:=by kernel_rfl
theorem K3l:em Go.Proofs.Tryz.prog numF (numF F3l) Z3l=true:=by kernel_rfl
theorem K3m:em Go.Proofs.Tryz.prog numF (numF F3m) Z3m=true:=by kernel_rfl
theorem K3n:em Go.Proofs.Tryz.prog numF (numF F3n) Z3n=true:=by kernel_rfl
theorem K3o:em Go.Proofs.Tryz.prog numF (numF F3o) Z3o=true:=by kernel_rfl
theorem K3p:em Go.Proofs.Tryz.prog numF (numF F3p) Z3p=true:=by kernel_rfl
theorem K3q:em Go.Proofs.Tryz.prog numF (numF F3q) Z3q=true:=by kernel_rfl
theorem K3r:em Go.Proofs.Tryz.prog numF (numF F3r) Z3r=true:=by kernel_rfl
theorem K3s:em Go.Proofs.Tryz.prog numF (numF F3s) Z3s=true:=by kernel_rfl
theorem K3t:em Go.Proofs.Tryz.prog numF (numF F3t) Z3t=true:=by kernel_rfl
theorem K3u:em Go.Proofs.Tryz.prog numF (numF F3u) Z3u=true:=by kernel_rfl
theorem K3v:em Go.Proofs.Tryz.prog numF (numF F3v) Z3v=true:=by kernel_rfl
theorem K3w:em Go.Proofs.Tryz.prog numF (numF F3w) Z3w=true:=by kernel_rfl
theorem K3x:em Go.Proofs.Tryz.prog numF (numF F3x) Z3x=true:=by kernel_rfl
theorem K3y:em Go.Proofs.Tryz.prog numF (numF F3y) Z3y=true:=by kernel_rfl
theorem K3z:em Go.Proofs.Tryz.prog numF (numF F3z) Z3z=true:=by kernel_rfl
theorem K40:em Go.Proofs.Tryz.prog numF (numF F40) Z40=true:=by kernel_rfl
theorem K41:em Go.Proofs.Tryz.prog numF (numF F41) Z41=true:=by kernel_rfl
theorem K42:em Go.Proofs.Tryz.prog numF (numF F42) Z42=true:=by kernel_rfl
theorem K43:em Go.Proofs.Tryz.prog numF (numF F43) Z43=true:=by kernel_rfl
theorem K44:em Go.Proofs.Tryz.prog numF (numF F44) Z44=true:=by kernel_rfl
theorem K45:em Go.Proofs.Tryz.prog numF (numF F45) Z45=true:=by kernel_rfl
theorem K46:em Go.Proofs.Tryz.prog numF (numF F46) Z46=true:=by kernel_rfl
theorem K47:em Go.Proofs.Tryz.prog numF (numF F47) Z47=true:=by kernel_rfl
theorem K48:em Go.Proofs.Tryz.prog numF (numF F48) Z48=true:=by kernel_rfl
theorem K49:em Go.Proofs.Tryz.prog numF (numF F49) Z49=true:=by kernel_rfl
theorem K4a:em Go.Proofs.Tryz.prog numF (numF F4a) Z4a=true:=by kernel_rfl
theorem K4b:em Go.Proofs.Tryz.prog numF (numF F4b) Z4b=true:=by kernel_rfl
theorem ac4:∀f fn,tabF f=some fn→∃g,Go.Proofs.Tryz.prog.funcs[numF f]? = some g∧He Go.Proofs.Tryz.prog numF fn g=true:=Ma (l:=tab) ⟨K0,K3,K4,K5,K6,K7,K8,K9,Ka,Kb,Kc,Ke,Kg,Kh,Ki,Kj,Kk,Kl,Km,Ko,Kq,Kr,Ks,Kt,Ku,Kv,Kw,Kx,Ky,Kz,K10,K11,K12,K13,K14,K15,K16,K17,K18,K19,K1a,K1b,K1c,K1d,K1e,K1f,K1g,K1h,K1i,K1j,K1k,K1l,K1m,K1n,K1o,K1p,K1q,K1r,K1s,K1t,K1u,K1v,K1w,K1x,K1y,K1z,K21,K23,K24,K25,K26,K27,K2a,K2b,K2i,K2j,K2x,K2y,K36,K37,K38,K39,K3a,K3b,K3c,K3d,K3e,K3f,K3g,K3h,K3i,K3j,K3k,K3l,K3m,K3n,K3o,K3p,K3q,K3r,K3s,K3t,K3u,K3v,K3w,K3x,K3y,K3z,K40,K41,K42,K43,K44,K45,K46,K47,K48,K49,K4a,K4b,trivial⟩
def Aj (f:Nat):Option (Sh×D×Nat):=if f=F22 then some (.leaf,.int .i64 0,8) else none
theorem mixed:Go.Proofs.Tryz.prog.follows .mixedOrders=true:=by kernel_rfl
theorem a1i:∀f s z bytes,Aj f=some (s,z,bytes)→Sh.beq s s=true∧∃g,Go.Proofs.Tryz.prog.funcs[numF f]? = some g∧He Go.Proofs.Tryz.prog numF (wg s z bytes) g=true∧(match g.body with | some x=>t6 x | none=>false)=true:=by
 intro f s z bytes h;unfold Aj at h
 split at h
 ·rename_i hf
  subst hf;obtain ⟨rfl,rfl,rfl⟩:Sh.leaf=s∧D.int .i64 0=z∧8=bytes:=by simpa using h
  refine ⟨rfl,?_⟩;have h1:(match Go.Proofs.Tryz.prog.funcs[numF F22]? with | some g=>He Go.Proofs.Tryz.prog numF (wg .leaf (.int .i64 0) 8) g&&(match g.body with | some x=>t6 x | none=>false) | none=>false)=true:=by kernel_rfl
  split at h1
  ·rename_i g hg
   simp only [az] at h1;exact ⟨g,hg,h1.1,h1.2⟩
  ·cases h1
 ·cases h
open Go.Shelf in
def agk:Ren:=⟨fun n=>if n=22 then 100 else if n=29 then 123 else 124,fun n=>if n=24 then 48 else if n=9 then 46 else if n=3 then 3 else if n=4 then 4 else 0,fun n=>n⟩
theorem akp:InsL Go.Proofs.Tryz.prog agk where
 mixed:=mixed
 f22:=Go.Proofs.Tryz.func100.trans (congrArg some (by kernel_rfl))
 f29:=Go.Proofs.Tryz.func123.trans (congrArg some (by kernel_rfl))
 t0:=Go.Proofs.Tryz.underlying0
 t3:=Go.Proofs.Tryz.underlying3
 t4:=Go.Proofs.Tryz.underlying4
 t24:=Go.Proofs.Tryz.underlying48
 t9:=⟨_,Go.Proofs.Tryz.underlying46⟩
 a3:=Go.Proofs.Tryz.isAgg3
 z3:=Go.Proofs.Tryz.sizeOf3
 v3:=Go.Proofs.Tryz.zeroValue3
 a4:=Go.Proofs.Tryz.isAgg4
 z4:=Go.Proofs.Tryz.sizeOf4
 v4:=Go.Proofs.Tryz.zeroValue4
 a9:=Go.Proofs.Tryz.isAgg46
 z9:=Go.Proofs.Tryz.sizeOf46
 v9:=Go.Proofs.Tryz.zeroValue46
 a24:=Go.Proofs.Tryz.isAgg48
 z24:=Go.Proofs.Tryz.sizeOf48
 v24:=Go.Proofs.Tryz.zeroValue48
 i9:=by kernel_rfl
def Lp (f:Nat):Bool:=f == F28
theorem acb:∀f,Lp f=true→∃ρ,InsL Go.Proofs.Tryz.prog ρ∧ρ.f 22=numF f:=fun f h=>by
 obtain rfl:f=F28:=by simpa [Lp] using h
 exact ⟨agk,akp,by kernel_rfl⟩
theorem sound:ma Go.Proofs.Tryz.prog numF (den tabF (orA (Ep Aj) (a0q Lp))):=a0p ac4 (Yz (Nm mixed a1i) (Uf acb)) mixed
end Pe
