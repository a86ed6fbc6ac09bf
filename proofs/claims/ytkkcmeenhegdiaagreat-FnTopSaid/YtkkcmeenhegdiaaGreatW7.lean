/-
  A part of the proof: an evaluator for a small form of the code, its soundness, and contracts of functions over it.
-/
import Derived.Test.YtkkcmeenhegdiaaGreatProg
import Derived.KernelRfl
import Derived.Test.YtkkcmeenhegdiaaGreatW1
import Derived.Test.YtkkcmeenhegdiaaGreatW2
import Derived.Test.YtkkcmeenhegdiaaGreatW3
import Derived.Test.YtkkcmeenhegdiaaGreatW4
import Derived.Test.YtkkcmeenhegdiaaGreatW5
import Derived.Test.YtkkcmeenhegdiaaGreatW6

namespace Pe
open Go
def tab:List (Nat×Fn):=[(F0,Z0),(F2,Z2),(F3,Z3),(F4,Z4),(F5,Z5),(F6,Z6),(F7,Z7),(F8,Z8),(F9,Z9),(Fa,Za),(Fc,Zc),(Fe,Ze),(Ff,Zf),(Fg,Zg),(Fh,Zh),(Fi,Zi),(Fj,Zj),(Fk,Zk),(Fl,Zl),(Fm,Zm),(Fo,Zo),(Fq,Zq),(Fr,Zr),(Fs,Zs),(Ft,Zt),(Fu,Zu),(Fv,Zv),(Fw,Zw),(Fx,Zx),(Fy,Zy),(Fz,Zz),(F10,Z10),(F11,Z11),(F12,Z12),(F13,Z13),(F14,Z14),(F15,Z15),(F16,Z16),(F17,Z17),(F18,Z18),(F19,Z19),(F1a,Z1a),(F1b,Z1b),(F1c,Z1c),(F1d,Z1d),(F1e,Z1e),(F1f,Z1f),(F1g,Z1g),(F1h,Z1h),(F1i,Z1i),(F1j,Z1j),(F1k,Z1k),(F1l,Z1l),(F1m,Z1m),(F1n,Z1n),(F1o,Z1o),(F1p,Z1p),(F1q,Z1q),(F1r,Z1r),(F1s,Z1s),(F1t,Z1t),(F1u,Z1u),(F1v,Z1v),(F1w,Z1w),(F1x,Z1x),(F1y,Z1y),(F1z,Z1z),(F20,Z20),(F21,Z21),(F22,Z22),(F23,Z23),(F24,Z24),(F25,Z25),(F27,Z27),(F29,Z29),(F2a,Z2a),(F2b,Z2b),(F2c,Z2c),(F2d,Z2d),(F2e,Z2e),(F2h,Z2h),(F2l,Z2l),(F2t,Z2t),(F2z,Z2z),(F30,Z30),(F31,Z31),(F32,Z32),(F33,Z33),(F34,Z34),(F35,Z35),(F36,Z36),(F37,Z37),(F38,Z38),(F39,Z39),(F3a,Z3a),(F3b,Z3b),(F3c,Z3c),(F3d,Z3d),(F3e,Z3e),(F3f,Z3f),(F3g,Z3g),(F3h,Z3h),(F3i,Z3i),(F3j,Z3j),(F3k,Z3k),(F3l,Z3l),(F3m,Z3m),(F3n,Z3n),(F3o,Z3o),(F3p,Z3p)]
def nums:List (Nat×Nat):=[(F20,4),(F24,5),(F21,6),(F1d,37),(F1c,21),(F1b,23),(Ft,20),(F2e,51),(F2b,22),(F1s,34),(F1w,61),(F1h,74),(F1r,75),(F13,42),(F1o,49),(F1l,78),(F18,79),(F1u,52),(F28,91),(F14,62),(F12,76),(F17,45),(F1k,63),(F1f,81),(Fu,80),(F1p,82),(F1n,83),(F2l,112),(F2x,126),(F2k,113),(F26,120),(F27,121),(F25,102),(F2o,127),(F2y,128),(F2i,114),(F2p,132),(F2n,130),(F2m,129),(F2j,115),(F2u,116),(F2q,117),(F2s,118),(F2r,119),(F2t,101),(F2h,84),(F3,122),(F0,103),(F4,123),(F2,104),(Fl,86),(F16,85),(F15,48),(F19,25),(Fa,24),(F1v,53),(Fw,26),(F9,7),(F34,29),(F3f,30),(F3i,27),(F38,28),(F35,54),(F39,96),(F36,87),(F3c,55),(F3g,88),(F31,59),(F3l,105),(F3e,89),(F3h,57),(F3k,106),(F32,90),(F37,58),(F3j,56),(F3a,31),(F30,8),(F23,9),(F1q,33),(F1t,67),(F1x,38),(F2d,109),(F2a,97),(Fk,98),(Fj,71),(F2c,125),(F29,110),(Fi,111),(Fh,99),(Fs,100),(Fr,73),(Fy,72),(Fx,41),(F1y,77),(Fo,60),(Fv,32),(F1a,35),(F1j,92),(F2g,131),(F2v,124),(F2w,108),(F2f,93),(F1i,64),(F1m,66),(F11,65),(F10,36),(F8,10),(F3b,94),(F33,68),(F3d,69),(F3m,39),(F3p,95),(F3n,70),(F3o,40),(F2z,11),(Fg,12),(Fq,44),(F1e,46),(F1g,43),(Ff,13),(Fe,14),(Fm,47),(F7,15),(F22,16),(F6,17),(Fc,18),(Fz,50),(F5,19),(F1z,3)]
def tabF (f:Nat):Option Fn:=tab.lookup f
def numF (f:Nat):Nat:=(nums.lookup f).getD 0
theorem K0:dy Go.Proofs.Tryz.prog numF (numF F0) Z0=true:=by kernel_rfl
theorem K2:dy Go.Proofs.Tryz.prog numF (numF F2) Z2=true:=by kernel_rfl
theorem K3:dy Go.Proofs.Tryz.prog numF (numF F3) Z3=true:=by kernel_rfl
theorem K4:dy Go.Proofs.Tryz.prog numF (numF F4) Z4=true:=by kernel_rfl
theorem K5:dy Go.Proofs.Tryz.prog numF (numF F5) Z5=true:=by kernel_rfl
theorem K6:dy Go.Proofs.Tryz.prog numF (numF F6) Z6=true:=by kernel_rfl
theorem K7:dy Go.Proofs.Tryz.prog numF (numF F7) Z7=true:=by kernel_rfl
theorem K8:dy Go.Proofs.Tryz.prog numF (numF F8) Z8=true:=by kernel_rfl
theorem K9:dy Go.Proofs.Tryz.prog numF (numF F9) Z9=true:=by kernel_rfl
theorem Ka:dy Go.Proofs.Tryz.prog numF (numF Fa) Za=true:=by kernel_rfl
theorem Kc:dy Go.Proofs.Tryz.prog numF (numF Fc) Zc=true:=by kernel_rfl
theorem Ke:dy Go.Proofs.Tryz.prog numF (numF Fe) Ze=true:=by kernel_rfl
theorem Kf:dy Go.Proofs.Tryz.prog numF (numF Ff) Zf=true:=by kernel_rfl
theorem Kg:dy Go.Proofs.Tryz.prog numF (numF Fg) Zg=true:=by kernel_rfl
theorem Kh:dy Go.Proofs.Tryz.prog numF (numF Fh) Zh=true:=by kernel_rfl
theorem Ki:dy Go.Proofs.Tryz.prog numF (numF Fi) Zi=true:=by kernel_rfl
theorem Kj:dy Go.Proofs.Tryz.prog numF (numF Fj) Zj=true:=by kernel_rfl
theorem Kk:dy Go.Proofs.Tryz.prog numF (numF Fk) Zk=true:=by kernel_rfl
theorem Kl:dy Go.Proofs.Tryz.prog numF (numF Fl) Zl=true:=by kernel_rfl
theorem Km:dy Go.Proofs.Tryz.prog numF (numF Fm) Zm=true:=by kernel_rfl
theorem Ko:dy Go.Proofs.Tryz.prog numF (numF Fo) Zo=true:=by kernel_rfl
theorem Kq:dy Go.Proofs.Tryz.prog numF (numF Fq) Zq=true:=by kernel_rfl
theorem Kr:dy Go.Proofs.Tryz.prog numF (numF Fr) Zr=true:=by kernel_rfl
theorem Ks:dy Go.Proofs.Tryz.prog numF (numF Fs) Zs=true:=by kernel_rfl
theorem Kt:dy Go.Proofs.Tryz.prog numF (numF Ft) Zt=true:=by kernel_rfl
theorem Ku:dy Go.Proofs.Tryz.prog numF (numF Fu) Zu=true:=by kernel_rfl
theorem Kv:dy Go.Proofs.Tryz.prog numF (numF Fv) Zv=true:=by kernel_rfl
theorem Kw:dy Go.Proofs.Tryz.prog numF (numF Fw) Zw=true:=by kernel_rfl
theorem Kx:dy Go.Proofs.Tryz.prog numF (numF Fx) Zx=true:=by kernel_rfl
theorem Ky:dy Go.Proofs.Tryz.prog numF (numF Fy) Zy=true:=by kernel_rfl
theorem Kz:dy Go.Proofs.Tryz.prog numF (numF Fz) Zz=true:=by kernel_rfl
theorem K10:dy Go.Proofs.Tryz.prog numF (numF F10) Z10=true:=by kernel_rfl
theorem K11:dy Go.Proofs.Tryz.prog numF (numF F11) Z11=true:=by kernel_rfl
theorem K12:dy Go.Proofs.Tryz.prog numF (numF F12) Z12=true:=by kernel_rfl
theorem K13:dy Go.Proofs.Tryz.prog numF (numF F13) Z13=true:=by kernel_rfl
theorem K14:dy Go.Proofs.Tryz.prog numF (numF F14) Z14=true:=by kernel_rfl
theorem K15:dy Go.Proofs.Tryz.prog numF (numF F15) Z15=true:=by kernel_rfl
theorem K16:dy Go.Proofs.Tryz.prog numF (numF F16) Z16=true:=by kernel_rfl
theorem K17:dy Go.Proofs.Tryz.prog numF (numF F17) Z17=true:=by kernel_rfl
theorem K18:dy Go.Proofs.Tryz.prog numF (numF F18) Z18=true:=by kernel_rfl
theorem K19:dy Go.Proofs.Tryz.prog numF (numF F19) Z19=true:=by kernel_rfl
theorem K1a:dy Go.Proofs.Tryz.prog numF (numF F1a) Z1a=true:=by kernel_rfl
theorem K1b:dy Go.Proofs.Tryz.prog numF (numF F1b) Z1b=true:=by kernel_rfl
theorem K1c:dy Go.Proofs.Tryz.prog numF (numF F1c) Z1c=true:=by kernel_rfl
theorem K1d:dy Go.Proofs.Tryz.prog numF (numF F1d) Z1d=true:=by kernel_rfl
theorem K1e:dy Go.Proofs.Tryz.prog numF (numF F1e) Z1e=true:=by kernel_rfl
theorem K1f:dy Go.Proofs.Tryz.prog numF (numF F1f) Z1f=true:=by kernel_rfl
theorem K1g:dy Go.Proofs.Tryz.prog numF (numF F1g) Z1g=true:=by kernel_rfl
theorem K1h:dy Go.Proofs.Tryz.prog numF (numF F1h) Z1h=true:=by kernel_rfl
theorem K1i:dy Go.Proofs.Tryz.prog numF (numF F1i) Z1i=true:=by kernel_rfl
theorem K1j:dy Go.Proofs.Tryz.prog numF (numF F1j) Z1j=true:=by kernel_rfl
theorem K1k:dy Go.Proofs.Tryz.prog numF (numF F1k) Z1k=true:=by kernel_rfl
theorem K1l:dy Go.Proofs.Tryz.prog numF (numF F1l) Z1l=true:=by kernel_rfl
theorem K1m:dy Go.Proofs.Tryz.prog numF (numF F1m) Z1m=true:=by kernel_rfl
theorem K1n:dy Go.Proofs.Tryz.prog numF (numF F1n) Z1n=true:=by kernel_rfl
theorem K1o:dy Go.Proofs.Tryz.prog numF (numF F1o) Z1o=true:=by kernel_rfl
theorem K1p:dy Go.Proofs.Tryz.prog numF (numF F1p) Z1p=true:=by kernel_rfl
theorem K1q:dy Go.Proofs.Tryz.prog numF (numF F1q) Z1q=true:=by kernel_rfl
theorem K1r:dy Go.Proofs.Tryz.prog numF (numF F1r) Z1r=true:=by kernel_rfl
theorem K1s:dy Go.Proofs.Tryz.prog numF (numF F1s) Z1s=true:=by kernel_rfl
theorem K1t:dy Go.Proofs.Tryz.prog numF (numF F1t) Z1t=true:=by kernel_rfl
theorem K1u:dy Go.Proofs.Tryz.prog numF (numF F1u) Z1u=true:=by kernel_rfl
theorem K1v:dy Go.Proofs.Tryz.prog numF (numF F1v) Z1v=true:=by kernel_rfl
theorem K1w:dy Go.Proofs.Tryz.prog numF (numF F1w) Z1w=true:=by kernel_rfl
theorem K1x:dy Go.Proofs.Tryz.prog numF (numF F1x) Z1x=true:=by kernel_rfl
theorem K1y:dy Go.Proofs.Tryz.prog numF (numF F1y) Z1y=true:=by kernel_rfl
theorem K1z:dy Go.Proofs.Tryz.prog numF (numF F1z) Z1z=true:=by kernel_rfl
theorem K20:dy Go.Proofs.Tryz.prog numF (numF F20) Z20=true:=by kernel_rfl
theorem K21:dy Go.Proofs.Tryz.prog numF (numF F21) Z21=true:=by kernel_rfl
theorem K22:dy Go.Proofs.Tryz.prog numF (numF F22) Z22=true:=by kernel_rfl
theorem K23:dy Go.Proofs.Tryz.prog numF (numF F23) Z23=true:=by kernel_rfl
theorem K24:dy Go.Proofs.Tryz.prog numF (numF F24) Z24=true:=by kernel_rfl
theorem K25:dy Go.Proofs.Tryz.prog numF (numF F25) Z25=true:=by kernel_rfl
theorem K27:dy Go.Proofs.Tryz.prog numF (numF F27) Z27=true:=by kernel_rfl
theorem K29:dy Go.Proofs.Tryz.prog numF (numF F29) Z29=true:=by kernel_rfl
theorem K2a:dy Go.Proofs.Tryz.prog numF (numF F2a) Z2a=true:=by kernel_rfl
theorem K2b:dy Go.Proofs.Tryz.prog numF (numF F2b) Z2b=true:=by kernel_rfl
theorem K2c:dy Go.Proofs.Tryz.prog numF (numF F2c) Z2c=true:=by kernel_rfl
theorem K2d:dy Go.Proofs.Tryz.prog numF (numF F2d) Z2d=true:=by kernel_rfl
theorem K2e:dy Go.Proofs.Tryz.prog numF (numF F2e) Z2e=true:=by kernel_rfl
theorem K2h:dy Go.Proofs.Tryz.prog numF (numF F2h) Z2h=true:=by kernel_rfl
theorem K2l:dy Go.Proofs.Tryz.prog numF (numF F2l) Z2l=true:=by kernel_rfl
theorem K2t:dy Go.Proofs.Tryz.prog numF (numF F2t) Z2t=true:=by kernel_rfl
theorem K2z:dy Go.Proofs.Tryz.prog numF (numF F2z) Z2z=true:=by kernel_rfl
theorem K30:dy Go.Proofs.Tryz.prog numF (numF F30) Z30=true:=by kernel_rfl
theorem K31:dy Go.Proofs.Tryz.prog numF (numF F31) Z31=true:=by kernel_rfl
theorem K32:dy Go.Proofs.Tryz.prog numF (numF F32) Z32=true:=by kernel_rfl
theorem K33:dy Go.Proofs.Tryz.prog numF (numF F33) Z33=true:=by kernel_rfl
theorem K34:dy Go.Proofs.Tryz.prog numF (numF F34) Z34=true:=by kernel_rfl
theorem K35:dy Go.Proofs.Tryz.prog numF (numF F35) Z35=true:=by kernel_rfl
theorem K36:dy Go.Proofs.Tryz.prog numF (numF F36) Z36=true:=by kernel_rfl
theorem K37:dy Go.Proofs.Tryz.prog numF (numF F37) Z37=true:=by kernel_rfl
theorem K38:dy Go.Proofs.Tryz.prog numF (numF F38) Z38=true:=by kernel_rfl
theorem K39:dy Go.Proofs.Tryz.prog numF (numF F39) Z39=true:=by kernel_rfl
theorem K3a:dy Go.Proofs.Tryz.prog numF (numF F3a) Z3a=true:=by kernel_rfl
theorem K3b:dy Go.Proofs.Tryz.prog numF (numF F3b) Z3b=true:=by kernel_rfl
theorem K3c:dy Go.Proofs.Tryz.prog numF (numF F3c) Z3c=true:=by kernel_rfl
theorem K3d:dy Go.Proofs.Tryz.prog numF (numF F3d) Z3d=true:=by kernel_rfl
theorem K3e:dy Go.Proofs.Tryz.prog numF (numF F3e) Z3e=true:=by kernel_rfl
theorem K3f:dy Go.Proofs.Tryz.prog numF (numF F3f) Z3f=true:=by kernel_rfl
theorem K3g:dy Go.Proofs.Tryz.prog numF (numF F3g) Z3g=true:=by kernel_rfl
theorem K3h:dy Go.Proofs.Tryz.prog numF (numF F3h) Z3h=true:=by kernel_rfl
theorem K3i:dy Go.Proofs.Tryz.prog numF (numF F3i) Z3i=true:=by kernel_rfl
theorem K3j:dy Go.Proofs.Tryz.prog numF (numF F3j) Z3j=true:=by kernel_rfl
theorem K3k:dy Go.Proofs.Tryz.prog numF (numF F3k) Z3k=true:=by kernel_rfl
theorem K3l:dy Go.Proofs.Tryz.prog numF (numF F3l) Z3l=true:=by kernel_rfl
theorem K3m:dy Go.Proofs.Tryz.prog numF (numF F3m) Z3m=true:=by kernel_rfl
theorem K3n:dy Go.Proofs.Tryz.prog numF (numF F3n) Z3n=true:=by kernel_rfl
theorem K3o:dy Go.Proofs.Tryz.prog numF (numF F3o) Z3o=true:=by kernel_rfl
theorem K3p:dy Go.Proofs.Tryz.prog numF (numF F3p) Z3p=true:=by kernel_rfl
theorem aa0:∀f fn,tabF f=some fn→∃g,Go.Proofs.Tryz.prog.funcs[numF f]? = some g∧Gi Go.Proofs.Tryz.prog numF fn g=true:=La (l:=tab) ⟨K0,K2,K3,K4,K5,K6,K7,K8,K9,Ka,Kc,Ke,Kf,Kg,Kh,Ki,Kj,Kk,Kl,Km,Ko,Kq,Kr,Ks,Kt,Ku,Kv,Kw,Kx,Ky,Kz,K10,K11,K12,K13,K14,K15,K16,K17,K18,K19,K1a,K1b,K1c,K1d,K1e,K1f,K1g,K1h,K1i,K1j,K1k,K1l,K1m,K1n,K1o,K1p,K1q,K1r,K1s,K1t,K1u,K1v,K1w,K1x,K1y,K1z,K20,K21,K22,K23,K24,K25,K27,K29,K2a,K2b,K2c,K2d,K2e,K2h,K2l,K2t,K2z,K30,K31,K32,K33,K34,K35,K36,K37,K38,K39,K3a,K3b,K3c,K3d,K3e,K3f,K3g,K3h,K3i,K3j,K3k,K3l,K3m,K3n,K3o,K3p,trivial⟩
def zm (f:Nat):Option (Sh×D×Nat):=if f=F28 then some (.leaf,.int .i64 0,8) else none
theorem mixed:Go.Proofs.Tryz.prog.follows .mixedOrders=true:=by kernel_rfl
theorem Y8:∀f s z bytes,zm f=some (s,z,bytes)→Sh.beq s s=true∧∃g,Go.Proofs.Tryz.prog.funcs[numF f]? = some g∧Gi Go.Proofs.Tryz.prog numF (v8 s z bytes) g=true∧(match g.body with | some x=>sj x | none=>false)=true:=by
 intro f s z bytes h;unfold zm at h
 split at h
 ·rename_i hf
  subst hf;obtain ⟨rfl,rfl,rfl⟩:Sh.leaf=s∧D.int .i64 0=z∧8=bytes:=by simpa using h
  refine ⟨rfl,?_⟩;have h1:(match Go.Proofs.Tryz.prog.funcs[numF F28]? with | some g=>Gi Go.Proofs.Tryz.prog numF (v8 .leaf (.int .i64 0) 8) g&&(match g.body with | some x=>sj x | none=>false) | none=>false)=true:=by kernel_rfl
  split at h1
  ·rename_i g hg
   simp only [au] at h1;exact ⟨g,hg,h1.1,h1.2⟩
  ·cases h1
 ·cases h
open Go.Shelf in
def ag0:Ren:=⟨fun n=>if n=22 then 93 else if n=29 then 107 else 108,fun n=>if n=24 then 49 else if n=9 then 51 else if n=3 then 3 else if n=4 then 4 else 0,fun n=>n⟩
theorem aic:InsL Go.Proofs.Tryz.prog ag0 where
 mixed:=mixed
 f22:=Go.Proofs.Tryz.func93.trans (congrArg some (by kernel_rfl))
 f29:=Go.Proofs.Tryz.func107.trans (congrArg some (by kernel_rfl))
 t0:=Go.Proofs.Tryz.underlying0
 t3:=Go.Proofs.Tryz.underlying3
 t4:=Go.Proofs.Tryz.underlying4
 t24:=Go.Proofs.Tryz.underlying49
 t9:=⟨_,Go.Proofs.Tryz.underlying51⟩
 a3:=Go.Proofs.Tryz.isAgg3
 z3:=Go.Proofs.Tryz.sizeOf3
 v3:=Go.Proofs.Tryz.zeroValue3
 a4:=Go.Proofs.Tryz.isAgg4
 z4:=Go.Proofs.Tryz.sizeOf4
 v4:=Go.Proofs.Tryz.zeroValue4
 a9:=Go.Proofs.Tryz.isAgg51
 z9:=Go.Proofs.Tryz.sizeOf51
 v9:=Go.Proofs.Tryz.zeroValue51
 a24:=Go.Proofs.Tryz.isAgg49
 z24:=Go.Proofs.Tryz.sizeOf49
 v24:=Go.Proofs.Tryz.zeroValue49
 i9:=by kernel_rfl
def Hx (f:Nat):Bool:=f == F2f
theorem aac:∀f,Hx f=true→∃ρ,InsL Go.Proofs.Tryz.prog ρ∧ρ.f 22=numF f:=fun f h=>by
 obtain rfl:f=F2f:=by simpa [Hx] using h
 exact ⟨ag0,aic,by kernel_rfl⟩
theorem sound:lq Go.Proofs.Tryz.prog numF (den tabF (orA (Et zm) (Y9 Hx))):=a0z aa0 (Yv (Nm mixed Y8) (Vn aac)) mixed
end Pe
