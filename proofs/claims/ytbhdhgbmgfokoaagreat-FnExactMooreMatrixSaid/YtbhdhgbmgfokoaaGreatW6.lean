/-
  A part of the proof: an evaluator for a small form of the code, its soundness, and contracts of functions over it.
-/
import Derived.Test.YtbhdhgbmgfokoaaGreatProg
import Derived.KernelRfl
import Derived.Test.YtbhdhgbmgfokoaaGreatW1
import Derived.Test.YtbhdhgbmgfokoaaGreatW2
import Derived.Test.YtbhdhgbmgfokoaaGreatW3
import Derived.Test.YtbhdhgbmgfokoaaGreatW4
import Derived.Test.YtbhdhgbmgfokoaaGreatW5

namespace Pe
open Go
def tab:List (Nat×Fn):=[(F0,Z0),(F1,Z1),(F2,Z2),(F3,Z3),(F4,Z4),(F5,Z5),(F6,Z6_w),(F7,Z7),(F8,Z8),(F9,Z9),(Fa,Za),(Fb,Zb),(Fc,Zc),(Fe,Ze),(Ff,Zf),(Fg,Zg),(Fh,Zh),(Fi,Zi),(Fj,Zj),(Fk,Zk),(Fl,Zl),(Fm,Zm),(Fo,Zo),(Fq,Zq),(Fr,Zr),(Fs,Zs),(Ft,Zt),(Fu,Zu),(Fv,Zv),(Fw,Zw),(Fx,Zx),(Fy,Zy),(Fz,Zz),(F10,Z10),(F11,Z11),(F12,Z12),(F13,Z13),(F14,Z14),(F15,Z15),(F16,Z16),(F17,Z17),(F18,Z18),(F19,Z19),(F1a,Z1a),(F1b,Z1b),(F1c,Z1c),(F1d,Z1d),(F1e,Z1e),(F1f,Z1f),(F1g,Z1g),(F1h,Z1h),(F1i,Z1i),(F1j,Z1j),(F1k,Z1k),(F1l,Z1l),(F1m,Z1m),(F1n,Z1n),(F1o,Z1o),(F1p,Z1p),(F1q,Z1q),(F1r,Z1r),(F1s,Z1s),(F1t,Z1t),(F1v,Z1v),(F1x,Z1x),(F1y,Z1y),(F1z,Z1z),(F20,Z20),(F21,Z21),(F25,Z25),(F2d,Z2d),(F2h,Z2h),(F2i,Z2i),(F2j,Z2j),(F2k,Z2k),(F2l,Z2l),(F2m,Z2m),(F2n,Z2n),(F2o,Z2o),(F2p,Z2p),(F2q,Z2q),(F2r,Z2r),(F2s,Z2s),(F2t,Z2t),(F2u,Z2u),(F2v,Z2v),(F2w,Z2w),(F2x,Z2x),(F2y,Z2y),(F2z,Z2z),(F30,Z30),(F31,Z31),(F32,Z32),(F33,Z33),(F34,Z34),(F35,Z35)]
def nums:List (Nat×Nat):=[(F1q,6),(F1p,4),(F1r,7),(F1s,7),(F1i,21),(F1j,10),(F1n,11),(F2k,31),(F2w,54),(F2q,39),(F32,30),(F2n,41),(F2o,68),(F2l,58),(F2r,43),(F2u,44),(F2i,57),(F2z,59),(F2t,45),(F2v,32),(F2y,83),(F2j,67),(F2m,56),(F2x,55),(F2p,42),(F2s,40),(F30,29),(F33,23),(F34,14),(F31,24),(F35,15),(F2h,5),(F1e,36),(F19,26),(Fc,17),(F1d,28),(Fo,20),(F1b,37),(F1z,92),(F1x,79),(F8,80),(F7,64),(Fj,65),(Fi,51),(Ff,35),(F12,82),(F1a,85),(Fs,73),(F16,53),(F14,69),(Fx,70),(F1c,61),(F1w,81),(Ft,66),(Fr,84),(Fw,72),(F13,52),(F11,38),(Fl,71),(F10,87),(Fz,86),(F17,74),(F15,75),(F25,93),(F2f,105),(F24,94),(F1u,101),(F1v,102),(F1t,89),(F28,106),(F2g,107),(F22,95),(F29,110),(F27,109),(F26,108),(F23,96),(F2e,97),(F2a,98),(F2c,99),(F2b,100),(F2d,88),(F21,76),(F2,103),(F0,90),(F3,104),(F1,91),(Fb,78),(Fv,77),(Fu,62),(Fy,48),(F1g,47),(Fk,60),(F4,46),(Fh,33),(F20,63),(F1y,49),(Fa,50),(F9,34),(F18,25),(Fm,16),(F1f,19),(Fe,27),(Fg,18),(F5,8),(F1k,9),(F1o,12),(F1l,22),(F1m,13),(F1h,3),(F6,8),(Fq,20)]
def tabF (f:Nat):Option Fn:=tab.lookup f
def numF (f:Nat):Nat:=(nums.lookup f).getD 0
theorem K0:db Go.Proofs.Tryz.prog numF (numF F0) Z0=true:=by kernel_rfl
theorem K1:db Go.Proofs.Tryz.prog numF (numF F1) Z1=true:=by kernel_rfl
theorem K2:db Go.Proofs.Tryz.prog numF (numF F2) Z2=true:=by kernel_rfl
theorem K3:db Go.Proofs.Tryz.prog numF (numF F3) Z3=true:=by kernel_rfl
theorem K4:db Go.Proofs.Tryz.prog numF (numF F4) Z4=true:=by kernel_rfl
theorem K5:db Go.Proofs.Tryz.prog numF (numF F5) Z5=true:=by kernel_rfl
theorem K6:db Go.Proofs.Tryz.prog numF (numF F6) Z6_w=true:=by kernel_rfl
theorem K7:db Go.Proofs.Tryz.prog numF (numF F7) Z7=true:=by kernel_rfl
theorem K8:db Go.Proofs.Tryz.prog numF (numF F8) Z8=true:=by kernel_rfl
theorem K9:db Go.Proofs.Tryz.prog numF (numF F9) Z9=true:=by kernel_rfl
theorem Ka:db Go.Proofs.Tryz.prog numF (numF Fa) Za=true:=by kernel_rfl
theorem Kb:db Go.Proofs.Tryz.prog numF (numF Fb) Zb=true:=by kernel_rfl
theorem Kc:db Go.Proofs.Tryz.prog numF (numF Fc) Zc=true:=by kernel_rfl
theorem Ke:db Go.Proofs.Tryz.prog numF (numF Fe) Ze=true:=by kernel_rfl
theorem Kf:db Go.Proofs.Tryz.prog numF (numF Ff) Zf=true:=by kernel_rfl
theorem Kg:db Go.Proofs.Tryz.prog numF (numF Fg) Zg=true:=by kernel_rfl
theorem Kh:db Go.Proofs.Tryz.prog numF (numF Fh) Zh=true:=by kernel_rfl
theorem Ki:db Go.Proofs.Tryz.prog numF (numF Fi) Zi=true:=by kernel_rfl
theorem Kj:db Go.Proofs.Tryz.prog numF (numF Fj) Zj=true:=by kernel_rfl
theorem Kk:db Go.Proofs.Tryz.prog numF (numF Fk) Zk=true:=by kernel_rfl
theorem Kl:db Go.Proofs.Tryz.prog numF (numF Fl) Zl=true:=by kernel_rfl
theorem Km:db Go.Proofs.Tryz.prog numF (numF Fm) Zm=true:=by kernel_rfl
theorem Ko:db Go.Proofs.Tryz.prog numF (numF Fo) Zo=true:=by kernel_rfl
theorem Kq:db Go.Proofs.Tryz.prog numF (numF Fq) Zq=true:=by kernel_rfl
theorem Kr:db Go.Proofs.Tryz.prog numF (numF Fr) Zr=true:=by kernel_rfl
theorem Ks:db Go.Proofs.Tryz.prog numF (numF Fs) Zs=true:=by kernel_rfl
theorem Kt:db Go.Proofs.Tryz.prog numF (numF Ft) Zt=true:=by kernel_rfl
theorem Ku:db Go.Proofs.Tryz.prog numF (numF Fu) Zu=true:=by kernel_rfl
theorem Kv:db Go.Proofs.Tryz.prog numF (numF Fv) Zv=true:=by kernel_rfl
theorem Kw:db Go.Proofs.Tryz.prog numF (numF Fw) Zw=true:=by kernel_rfl
theorem Kx:db Go.Proofs.Tryz.prog numF (numF Fx) Zx=true:=by kernel_rfl
theorem Ky:db Go.Proofs.Tryz.prog numF (numF Fy) Zy=true:=by kernel_rfl
theorem Kz:db Go.Proofs.Tryz.prog numF (numF Fz) Zz=true:=by kernel_rfl
theorem K10:db Go.Proofs.Tryz.prog numF (numF F10) Z10=true:=by kernel_rfl
theorem K11:db Go.Proofs.Tryz.prog numF (numF F11) Z11=true:=by kernel_rfl
theorem K12:db Go.Proofs.Tryz.prog numF (numF F12) Z12=true:=by kernel_rfl
theorem K13:db Go.Proofs.Tryz.prog numF (numF F13) Z13=true:=by kernel_rfl
theorem K14:db Go.Proofs.Tryz.prog numF (numF F14) Z14=true:=by kernel_rfl
theorem K15:db Go.Proofs.Tryz.prog numF (numF F15) Z15=true:=by kernel_rfl
theorem K16:db Go.Proofs.Tryz.prog numF (numF F16) Z16=true:=by kernel_rfl
theorem K17:db Go.Proofs.Tryz.prog numF (numF F17) Z17=true:=by kernel_rfl
theorem K18:db Go.Proofs.Tryz.prog numF (numF F18) Z18=true:=by kernel_rfl
theorem K19:db Go.Proofs.Tryz.prog numF (numF F19) Z19=true:=by kernel_rfl
theorem K1a:db Go.Proofs.Tryz.prog numF (numF F1a) Z1a=true:=by kernel_rfl
theorem K1b:db Go.Proofs.Tryz.prog numF (numF F1b) Z1b=true:=by kernel_rfl
theorem K1c:db Go.Proofs.Tryz.prog numF (numF F1c) Z1c=true:=by kernel_rfl
theorem K1d:db Go.Proofs.Tryz.prog numF (numF F1d) Z1d=true:=by kernel_rfl
theorem K1e:db Go.Proofs.Tryz.prog numF (numF F1e) Z1e=true:=by kernel_rfl
theorem K1f:db Go.Proofs.Tryz.prog numF (numF F1f) Z1f=true:=by kernel_rfl
theorem K1g:db Go.Proofs.Tryz.prog numF (numF F1g) Z1g=true:=by kernel_rfl
theorem K1h:db Go.Proofs.Tryz.prog numF (numF F1h) Z1h=true:=by kernel_rfl
theorem K1i:db Go.Proofs.Tryz.prog numF (numF F1i) Z1i=true:=by kernel_rfl
theorem K1j:db Go.Proofs.Tryz.prog numF (numF F1j) Z1j=true:=by kernel_rfl
theorem K1k:db Go.Proofs.Tryz.prog numF (numF F1k) Z1k=true:=by kernel_rfl
theorem K1l:db Go.Proofs.Tryz.prog numF (numF F1l) Z1l=true:=by kernel_rfl
theorem K1m:db Go.Proofs.Tryz.prog numF (numF F1m) Z1m=true:=by kernel_rfl
theorem K1n:db Go.Proofs.Tryz.prog numF (numF F1n) Z1n=true:=by kernel_rfl
theorem K1o:db Go.Proofs.Tryz.prog numF (numF F1o) Z1o=true:=by kernel_rfl
theorem K1p:db Go.Proofs.Tryz.prog numF (numF F1p) Z1p=true:=by kernel_rfl
theorem K1q:db Go.Proofs.Tryz.prog numF (numF F1q) Z1q=true:=by kernel_rfl
theorem K1r:db Go.Proofs.Tryz.prog numF (numF F1r) Z1r=true:=by kernel_rfl
theorem K1s:db Go.Proofs.Tryz.prog numF (numF F1s) Z1s=true:=by kernel_rfl
theorem K1t:db Go.Proofs.Tryz.prog numF (numF F1t) Z1t=true:=by kernel_rfl
theorem K1v:db Go.Proofs.Tryz.prog numF (numF F1v) Z1v=true:=by kernel_rfl
theorem K1x:db Go.Proofs.Tryz.prog numF (numF F1x) Z1x=true:=by kernel_rfl
theorem K1y:db Go.Proofs.Tryz.prog numF (numF F1y) Z1y=true:=by kernel_rfl
theorem K1z:db Go.Proofs.Tryz.prog numF (numF F1z) Z1z=true:=by kernel_rfl
theorem K20:db Go.Proofs.Tryz.prog numF (numF F20) Z20=true:=by kernel_rfl
theorem K21:db Go.Proofs.Tryz.prog numF (numF F21) Z21=true:=by kernel_rfl
theorem K25:db Go.Proofs.Tryz.prog numF (numF F25) Z25=true:=by kernel_rfl
theorem K2d:db Go.Proofs.Tryz.prog numF (numF F2d) Z2d=true:=by kernel_rfl
theorem K2h:db Go.Proofs.Tryz.prog numF (numF F2h) Z2h=true:=by kernel_rfl
theorem K2i:db Go.Proofs.Tryz.prog numF (numF F2i) Z2i=true:=by kernel_rfl
theorem K2j:db Go.Proofs.Tryz.prog numF (numF F2j) Z2j=true:=by kernel_rfl
theorem K2k:db Go.Proofs.Tryz.prog numF (numF F2k) Z2k=true:=by kernel_rfl
theorem K2l:db Go.Proofs.Tryz.prog numF (numF F2l) Z2l=true:=by kernel_rfl
theorem K2m:db Go.Proofs.Tryz.prog numF (numF F2m) Z2m=true:=by kernel_rfl
theorem K2n:db Go.Proofs.Tryz.prog numF (numF F2n) Z2n=true:=by kernel_rfl
theorem K2o:db Go.Proofs.Tryz.prog numF (numF F2o) Z2o=true:=by kernel_rfl
theorem K2p:db Go.Proofs.Tryz.prog numF (numF F2p) Z2p=true:=by kernel_rfl
theorem K2q:db Go.Proofs.Tryz.prog numF (numF F2q) Z2q=true:=by kernel_rfl
theorem K2r:db Go.Proofs.Tryz.prog numF (numF F2r) Z2r=true:=by kernel_rfl
theorem K2s:db Go.Proofs.Tryz.prog numF (numF F2s) Z2s=true:=by kernel_rfl
theorem K2t:db Go.Proofs.Tryz.prog numF (numF F2t) Z2t=true:=by kernel_rfl
theorem K2u:db Go.Proofs.Tryz.prog numF (numF F2u) Z2u=true:=by kernel_rfl
theorem K2v:db Go.Proofs.Tryz.prog numF (numF F2v) Z2v=true:=by kernel_rfl
theorem K2w:db Go.Proofs.Tryz.prog numF (numF F2w) Z2w=true:=by kernel_rfl
theorem K2x:db Go.Proofs.Tryz.prog numF (numF F2x) Z2x=true:=by kernel_rfl
theorem K2y:db Go.Proofs.Tryz.prog numF (numF F2y) Z2y=true:=by kernel_rfl
theorem K2z:db Go.Proofs.Tryz.prog numF (numF F2z) Z2z=true:=by kernel_rfl
theorem K30:db Go.Proofs.Tryz.prog numF (numF F30) Z30=true:=by kernel_rfl
theorem K31:db Go.Proofs.Tryz.prog numF (numF F31) Z31=true:=by kernel_rfl
theorem K32:db Go.Proofs.Tryz.prog numF (numF F32) Z32=true:=by kernel_rfl
theorem K33:db Go.Proofs.Tryz.prog numF (numF F33) Z33=true:=by kernel_rfl
theorem K34:db Go.Proofs.Tryz.prog numF (numF F34) Z34=true:=by kernel_rfl
theorem K35:db Go.Proofs.Tryz.prog numF (numF F35) Z35=true:=by kernel_rfl
theorem a1x:∀f fn,tabF f=some fn→∃g,Go.Proofs.Tryz.prog.funcs[numF f]? = some g∧Be Go.Proofs.Tryz.prog numF fn g=true:=G4 (l:=tab) ⟨K0,K1,K2,K3,K4,K5,K6,K7,K8,K9,Ka,Kb,Kc,Ke,Kf,Kg,Kh,Ki,Kj,Kk,Kl,Km,Ko,Kq,Kr,Ks,Kt,Ku,Kv,Kw,Kx,Ky,Kz,K10,K11,K12,K13,K14,K15,K16,K17,K18,K19,K1a,K1b,K1c,K1d,K1e,K1f,K1g,K1h,K1i,K1j,K1k,K1l,K1m,K1n,K1o,K1p,K1q,K1r,K1s,K1t,K1v,K1x,K1y,K1z,K20,K21,K25,K2d,K2h,K2i,K2j,K2k,K2l,K2m,K2n,K2o,K2p,K2q,K2r,K2s,K2t,K2u,K2v,K2w,K2x,K2y,K2z,K30,K31,K32,K33,K34,K35,trivial⟩
def uz (f:Nat):Option (Sh×D×Nat):=if f=F1w then some (.leaf,.int .i64 0,8) else none
theorem a16:Go.Proofs.Tryz.prog.follows .mixedOrders=true:=by kernel_rfl
theorem Sa:∀f s z bytes,uz f=some (s,z,bytes)→Sh.beq s s=true∧∃g,Go.Proofs.Tryz.prog.funcs[numF f]? = some g∧Be Go.Proofs.Tryz.prog numF (ro s z bytes) g=true∧(match g.body with | some x=>oc x | none=>false)=true:=by
 intro f s z bytes h;unfold uz at h
 split at h
 ·rename_i hf
  subst hf;obtain ⟨rfl,rfl,rfl⟩:Sh.leaf=s∧D.int .i64 0=z∧8=bytes:=by simpa using h
  refine ⟨rfl,?_⟩;have h1:(match Go.Proofs.Tryz.prog.funcs[numF F1w]? with | some g=>Be Go.Proofs.Tryz.prog numF (ro .leaf (.int .i64 0) 8) g&&(match g.body with | some x=>oc x | none=>false) | none=>false)=true:=by kernel_rfl
  split at h1
  ·rename_i g hg
   simp only [ac] at h1;exact ⟨g,hg,h1.1,h1.2⟩
  ·cases h1
 ·cases h
theorem sound:jg Go.Proofs.Tryz.prog numF (den tabF (Ac uz)):=Rw a1x (He a16 Sa) a16
end Pe
