/-
  A part of the proof: an evaluator for a small form of the code, its soundness, and contracts of functions over it.
-/
import Derived.Test.YtmiehgdodocfcaaGreatProg
import Derived.KernelRfl
import Derived.Test.YtmiehgdodocfcaaGreatW1
import Derived.Test.YtmiehgdodocfcaaGreatW2
import Derived.Test.YtmiehgdodocfcaaGreatW3
import Derived.Test.YtmiehgdodocfcaaGreatW4
import Derived.Test.YtmiehgdodocfcaaGreatW5

namespace Pe
open Go
def tab:List (Nat×Fn):=[(F0,Z0),(F3,Z3),(F4,Z4),(F5,Z5),(F6,Z6),(F7,Z7),(F8,Z8),(F9,Z9),(Fb,Zb),(Fc,Zc),(Fe,Ze),(Ff,Zf),(Fh,Zh),(Fi,Zi),(Fj,Zj),(Fk,Zk),(Fl,Zl),(Fr,Zr),(Fs,Zs),(Ft,Zt),(Fx,Zx),(Fy,Zy),(Fz,Zz),(F10,Z10),(F11,Z11),(F12,Z12),(F13,Z13),(F14,Z14),(F15,Z15),(F16,Z16),(F17,Z17),(F18,Z18),(F19,Z19),(F1a,Z1a),(F1b,Z1b),(F1c,Z1c),(F1d,Z1d),(F1e,Z1e),(F1f,Z1f),(F1g,Z1g),(F1h,Z1h),(F1i,Z1i),(F1j,Z1j),(F1k,Z1k),(F1l,Z1l),(F1m,Z1m),(F1n,Z1n),(F1o,Z1o),(F1p,Z1p),(F1q,Z1q),(F1r,Z1r),(F1s,Z1s),(F1t,Z1t),(F1u,Z1u),(F1v,Z1v),(F1w,Z1w),(F1x,Z1x),(F1z,Z1z),(F21,Z21),(F22,Z22),(F23,Z23),(F24,Z24),(F25,Z25),(F26,Z26),(F27,Z27),(F2b,Z2b),(F2j,Z2j),(F2n,Z2n),(F2o,Z2o),(F2p,Z2p),(F2q,Z2q),(F2r,Z2r),(F2s,Z2s),(F2t,Z2t),(F2u,Z2u),(F2v,Z2v),(F2w,Z2w),(F2x,Z2x),(F2y,Z2y),(F2z,Z2z),(F30,Z30),(F31,Z31),(F32,Z32),(F33,Z33),(F34,Z34),(F35,Z35),(F36,Z36),(F37,Z37),(F38,Z38),(F39,Z39),(F3a,Z3a)]
def nums:List (Nat×Nat):=[(F1w,5),(F1t,7),(F1v,8),(F1u,9),(F2s,16),(F2p,40),(F31,23),(F2v,63),(F35,62),(F2t,61),(F2q,38),(F2u,18),(F33,36),(F2x,15),(F2r,37),(F2o,17),(F39,10),(F30,21),(F2y,42),(F36,65),(F2z,41),(F32,22),(F34,64),(F2w,39),(F38,19),(F37,20),(F3a,11),(F2n,4),(F1r,53),(F1m,31),(F1o,44),(Fx,46),(F1g,82),(F1n,83),(F15,60),(F1k,73),(F1i,74),(F1a,75),(F1p,56),(F20,95),(F16,86),(F14,68),(F19,47),(F10,66),(F24,96),(F21,87),(Fe,88),(Fc,70),(Fz,71),(Fy,50),(Fb,43),(F26,109),(F23,93),(Fi,94),(Fh,84),(F13,85),(F12,67),(F8,45),(F9,24),(F25,69),(F22,48),(Fg,49),(Ff,25),(Fk,13),(Fw,30),(F1h,72),(Fo,51),(Fa,27),(Fu,26),(Fm,52),(Fq,29),(Fv,28),(Ft,12),(F1e,55),(F1d,54),(F1c,32),(F1f,76),(F11,35),(F1l,77),(F1j,78),(F2b,97),(F2l,110),(F2a,98),(F1y,105),(F1z,106),(F1x,90),(F2e,111),(F2m,112),(F28,99),(F2f,115),(F2d,114),(F2c,113),(F29,100),(F2k,101),(F2g,102),(F2i,103),(F2h,104),(F2j,89),(F27,79),(F4,107),(F0,91),(F5,108),(F3,92),(Fj,81),(F18,80),(F17,57),(F1b,33),(Fs,58),(F1q,59),(Fr,34),(Fl,14),(F6,6),(F7,6),(F1s,3)]
def tabF (f:Nat):Option Fn:=tab.lookup f
def numF (f:Nat):Nat:=(nums.lookup f).getD 0
theorem K0:co Go.Proofs.Tryz.prog numF (numF F0) Z0=true:=by kernel_rfl
theorem K3:co Go.Proofs.Tryz.prog numF (numF F3) Z3=true:=by kernel_rfl
theorem K4:co Go.Proofs.Tryz.prog numF (numF F4) Z4=true:=by kernel_rfl
theorem K5:co Go.Proofs.Tryz.prog numF (numF F5) Z5=true:=by kernel_rfl
theorem K6:co Go.Proofs.Tryz.prog numF (numF F6) Z6=true:=by kernel_rfl
theorem K7:co Go.Proofs.Tryz.prog numF (numF F7) Z7=true:=by kernel_rfl
theorem K8:co Go.Proofs.Tryz.prog numF (numF F8) Z8=true:=by kernel_rfl
theorem K9:co Go.Proofs.Tryz.prog numF (numF F9) Z9=true:=by kernel_rfl
theorem Kb:co Go.Proofs.Tryz.prog numF (numF Fb) Zb=true:=by kernel_rfl
theorem Kc:co Go.Proofs.Tryz.prog numF (numF Fc) Zc=true:=by kernel_rfl
theorem Ke:co Go.Proofs.Tryz.prog numF (numF Fe) Ze=true:=by kernel_rfl
theorem Kf:co Go.Proofs.Tryz.prog numF (numF Ff) Zf=true:=by kernel_rfl
theorem Kh:co Go.Proofs.Tryz.prog numF (numF Fh) Zh=true:=by kernel_rfl
theorem Ki:co Go.Proofs.Tryz.prog numF (numF Fi) Zi=true:=by kernel_rfl
theorem Kj:co Go.Proofs.Tryz.prog numF (numF Fj) Zj=true:=by kernel_rfl
theorem Kk:co Go.Proofs.Tryz.prog numF (numF Fk) Zk=true:=by kernel_rfl
theorem Kl:co Go.Proofs.Tryz.prog numF (numF Fl) Zl=true:=by kernel_rfl
theorem Kr:co Go.Proofs.Tryz.prog numF (numF Fr) Zr=true:=by kernel_rfl
theorem Ks:co Go.Proofs.Tryz.prog numF (numF Fs) Zs=true:=by kernel_rfl
theorem Kt:co Go.Proofs.Tryz.prog numF (numF Ft) Zt=true:=by kernel_rfl
theorem Kx:co Go.Proofs.Tryz.prog numF (numF Fx) Zx=true:=by kernel_rfl
theorem Ky:co Go.Proofs.Tryz.prog numF (numF Fy) Zy=true:=by kernel_rfl
theorem Kz:co Go.Proofs.Tryz.prog numF (numF Fz) Zz=true:=by kernel_rfl
theorem K10:co Go.Proofs.Tryz.prog numF (numF F10) Z10=true:=by kernel_rfl
theorem K11:co Go.Proofs.Tryz.prog numF (numF F11) Z11=true:=by kernel_rfl
theorem K12:co Go.Proofs.Tryz.prog numF (numF F12) Z12=true:=by kernel_rfl
theorem K13:co Go.Proofs.Tryz.prog numF (numF F13) Z13=true:=by kernel_rfl
theorem K14:co Go.Proofs.Tryz.prog numF (numF F14) Z14=true:=by kernel_rfl
theorem K15:co Go.Proofs.Tryz.prog numF (numF F15) Z15=true:=by kernel_rfl
theorem K16:co Go.Proofs.Tryz.prog numF (numF F16) Z16=true:=by kernel_rfl
theorem K17:co Go.Proofs.Tryz.prog numF (numF F17) Z17=true:=by kernel_rfl
theorem K18:co Go.Proofs.Tryz.prog numF (numF F18) Z18=true:=by kernel_rfl
theorem K19:co Go.Proofs.Tryz.prog numF (numF F19) Z19=true:=by kernel_rfl
theorem K1a:co Go.Proofs.Tryz.prog numF (numF F1a) Z1a=true:=by kernel_rfl
theorem K1b:co Go.Proofs.Tryz.prog numF (numF F1b) Z1b=true:=by kernel_rfl
theorem K1c:co Go.Proofs.Tryz.prog numF (numF F1c) Z1c=true:=by kernel_rfl
theorem K1d:co Go.Proofs.Tryz.prog numF (numF F1d) Z1d=true:=by kernel_rfl
theorem K1e:co Go.Proofs.Tryz.prog numF (numF F1e) Z1e=true:=by kernel_rfl
theorem K1f:co Go.Proofs.Tryz.prog numF (numF F1f) Z1f=true:=by kernel_rfl
theorem K1g:co Go.Proofs.Tryz.prog numF (numF F1g) Z1g=true:=by kernel_rfl
theorem K1h:co Go.Proofs.Tryz.prog numF (numF F1h) Z1h=true:=by kernel_rfl
theorem K1i:co Go.Proofs.Tryz.prog numF (numF F1i) Z1i=true:=by kernel_rfl
theorem K1j:co Go.Proofs.Tryz.prog numF (numF F1j) Z1j=true:=by kernel_rfl
theorem K1k:co Go.Proofs.Tryz.prog numF (numF F1k) Z1k=true:=by kernel_rfl
theorem K1l:co Go.Proofs.Tryz.prog numF (numF F1l) Z1l=true:=by kernel_rfl
theorem K1m:co Go.Proofs.Tryz.prog numF (numF F1m) Z1m=true:=by kernel_rfl
theorem K1n:co Go.Proofs.Tryz.prog numF (numF F1n) Z1n=true:=by kernel_rfl
theorem K1o:co Go.Proofs.Tryz.prog numF (numF F1o) Z1o=true:=by kernel_rfl
theorem K1p:co Go.Proofs.Tryz.prog numF (numF F1p) Z1p=true:=by kernel_rfl
theorem K1q:co Go.Proofs.Tryz.prog numF (numF F1q) Z1q=true:=by kernel_rfl
theorem K1r:co Go.Proofs.Tryz.prog numF (numF F1r) Z1r=true:=by kernel_rfl
theorem K1s:co Go.Proofs.Tryz.prog numF (numF F1s) Z1s=true:=by kernel_rfl
theorem K1t:co Go.Proofs.Tryz.prog numF (numF F1t) Z1t=true:=by kernel_rfl
theorem K1u:co Go.Proofs.Tryz.prog numF (numF F1u) Z1u=true:=by kernel_rfl
theorem K1v:co Go.Proofs.Tryz.prog numF (numF F1v) Z1v=true:=by kernel_rfl
theorem K1w:co Go.Proofs.Tryz.prog numF (numF F1w) Z1w=true:=by kernel_rfl
theorem K1x:co Go.Proofs.Tryz.prog numF (numF F1x) Z1x=true:=by kernel_rfl
theorem K1z:co Go.Proofs.Tryz.prog numF (numF F1z) Z1z=true:=by kernel_rfl
theorem K21:co Go.Proofs.Tryz.prog numF (numF F21) Z21=true:=by kernel_rfl
theorem K22:co Go.Proofs.Tryz.prog numF (numF F22) Z22=true:=by kernel_rfl
theorem K23:co Go.Proofs.Tryz.prog numF (numF F23) Z23=true:=by kernel_rfl
theorem K24:co Go.Proofs.Tryz.prog numF (numF F24) Z24=true:=by kernel_rfl
theorem K25:co Go.Proofs.Tryz.prog numF (numF F25) Z25=true:=by kernel_rfl
theorem K26:co Go.Proofs.Tryz.prog numF (numF F26) Z26=true:=by kernel_rfl
theorem K27:co Go.Proofs.Tryz.prog numF (numF F27) Z27=true:=by kernel_rfl
theorem K2b:co Go.Proofs.Tryz.prog numF (numF F2b) Z2b=true:=by kernel_rfl
theorem K2j:co Go.Proofs.Tryz.prog numF (numF F2j) Z2j=true:=by kernel_rfl
theorem K2n:co Go.Proofs.Tryz.prog numF (numF F2n) Z2n=true:=by kernel_rfl
theorem K2o:co Go.Proofs.Tryz.prog numF (numF F2o) Z2o=true:=by kernel_rfl
theorem K2p:co Go.Proofs.Tryz.prog numF (numF F2p) Z2p=true:=by kernel_rfl
theorem K2q:co Go.Proofs.Tryz.prog numF (numF F2q) Z2q=true:=by kernel_rfl
theorem K2r:co Go.Proofs.Tryz.prog numF (numF F2r) Z2r=true:=by kernel_rfl
theorem K2s:co Go.Proofs.Tryz.prog numF (numF F2s) Z2s=true:=by kernel_rfl
theorem K2t:co Go.Proofs.Tryz.prog numF (numF F2t) Z2t=true:=by kernel_rfl
theorem K2u:co Go.Proofs.Tryz.prog numF (numF F2u) Z2u=true:=by kernel_rfl
theorem K2v:co Go.Proofs.Tryz.prog numF (numF F2v) Z2v=true:=by kernel_rfl
theorem K2w:co Go.Proofs.Tryz.prog numF (numF F2w) Z2w=true:=by kernel_rfl
theorem K2x:co Go.Proofs.Tryz.prog numF (numF F2x) Z2x=true:=by kernel_rfl
theorem K2y:co Go.Proofs.Tryz.prog numF (numF F2y) Z2y=true:=by kernel_rfl
theorem K2z:co Go.Proofs.Tryz.prog numF (numF F2z) Z2z=true:=by kernel_rfl
theorem K30:co Go.Proofs.Tryz.prog numF (numF F30) Z30=true:=by kernel_rfl
theorem K31:co Go.Proofs.Tryz.prog numF (numF F31) Z31=true:=by kernel_rfl
theorem K32:co Go.Proofs.Tryz.prog numF (numF F32) Z32=true:=by kernel_rfl
theorem K33:co Go.Proofs.Tryz.prog numF (numF F33) Z33=true:=by kernel_rfl
theorem K34:co Go.Proofs.Tryz.prog numF (numF F34) Z34=true:=by kernel_rfl
theorem K35:co Go.Proofs.Tryz.prog numF (numF F35) Z35=true:=by kernel_rfl
theorem K36:co Go.Proofs.Tryz.prog numF (numF F36) Z36=true:=by kernel_rfl
theorem K37:co Go.Proofs.Tryz.prog numF (numF F37) Z37=true:=by kernel_rfl
theorem K38:co Go.Proofs.Tryz.prog numF (numF F38) Z38=true:=by kernel_rfl
theorem K39:co Go.Proofs.Tryz.prog numF (numF F39) Z39=true:=by kernel_rfl
theorem K3a:co Go.Proofs.Tryz.prog numF (numF F3a) Z3a=true:=by kernel_rfl
theorem a0v:∀f fn,tabF f=some fn→∃g,Go.Proofs.Tryz.prog.funcs[numF f]? = some g∧Ah Go.Proofs.Tryz.prog numF fn g=true:=Ea (l:=tab) ⟨K0,K3,K4,K5,K6,K7,K8,K9,Kb,Kc,Ke,Kf,Kh,Ki,Kj,Kk,Kl,Kr,Ks,Kt,Kx,Ky,Kz,K10,K11,K12,K13,K14,K15,K16,K17,K18,K19,K1a,K1b,K1c,K1d,K1e,K1f,K1g,K1h,K1i,K1j,K1k,K1l,K1m,K1n,K1o,K1p,K1q,K1r,K1s,K1t,K1u,K1v,K1w,K1x,K1z,K21,K22,K23,K24,K25,K26,K27,K2b,K2j,K2n,K2o,K2p,K2q,K2r,K2s,K2t,K2u,K2v,K2w,K2x,K2y,K2z,K30,K31,K32,K33,K34,K35,K36,K37,K38,K39,K3a,trivial⟩
def ut (f:Nat):Option (Sh×D×Nat):=if f=F20 then some (.leaf,.int .i64 0,8) else none
theorem Xs:Go.Proofs.Tryz.prog.follows .mixedOrders=true:=by kernel_rfl
theorem Qs:∀f s z bytes,ut f=some (s,z,bytes)→Sh.beq s s=true∧∃g,Go.Proofs.Tryz.prog.funcs[numF f]? = some g∧Ah Go.Proofs.Tryz.prog numF (qz s z bytes) g=true∧(match g.body with | some x=>n8 x | none=>false)=true:=by
 intro f s z bytes h;unfold ut at h
 split at h
 ·rename_i hf
  subst hf;obtain ⟨rfl,rfl,rfl⟩:Sh.leaf=s∧D.int .i64 0=z∧8=bytes:=by simpa using h
  refine ⟨rfl,?_⟩;have h1:(match Go.Proofs.Tryz.prog.funcs[numF F20]? with | some g=>Ah Go.Proofs.Tryz.prog numF (qz .leaf (.int .i64 0) 8) g&&(match g.body with | some x=>n8 x | none=>false) | none=>false)=true:=by kernel_rfl
  split at h1
  ·rename_i g hg
   simp only [ab] at h1;exact ⟨g,hg,h1.1,h1.2⟩
  ·cases h1
 ·cases h
theorem sound:jc Go.Proofs.Tryz.prog numF (den tabF (zh ut)):=Qu a0v (Gf Xs Qs) Xs
end Pe
