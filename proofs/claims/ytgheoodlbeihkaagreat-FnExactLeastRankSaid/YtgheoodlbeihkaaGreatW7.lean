/-
  A part of the proof: an evaluator for a small form of the code, its soundness, and contracts of functions over it.
-/
import Derived.Test.YtgheoodlbeihkaaGreatProg
import Derived.KernelRfl
import Derived.Test.YtgheoodlbeihkaaGreatW1
import Derived.Test.YtgheoodlbeihkaaGreatW2
import Derived.Test.YtgheoodlbeihkaaGreatW3
import Derived.Test.YtgheoodlbeihkaaGreatW4
import Derived.Test.YtgheoodlbeihkaaGreatW5
import Derived.Test.YtgheoodlbeihkaaGreatW6

namespace Pe
open Go
def tab : List (Nat × Fn) := [(F0, Z0), (F1, Z1), (F2, Z2), (F3, Z3), (F4, Z4), (F5, Z5), (F6, Z6), (F7, Z7), (F8, Z8), (F9, Z9), (Fa, Za), (Fb, Zb), (Fc, Zc), (Fe, Ze), (Ff, Zf), (Fg, Zg), (Fh, Zh), (Fi, Zi), (Fj, Zj), (Fk, Zk), (Fl, Zl), (Fm, Zm), (Fo, Zo), (Fq, Zq), (Fr, Zr), (Fs, Zs), (Ft, Zt), (Fu, Zu), (Fv, Zv), (Fw, Zw), (Fx, Zx), (Fy, Zy), (Fz, Zz), (F10, Z10), (F11, Z11), (F12, Z12), (F13, Z13), (F14, Z14), (F15, Z15), (F16, Z16), (F17, Z17), (F18, Z18), (F19, Z19), (F1a, Z1a), (F1b, Z1b), (F1c, Z1c), (F1d, Z1d), (F1e, Z1e), (F1f, Z1f), (F1g, Z1g), (F1h, Z1h), (F1i, Z1i), (F1j, Z1j), (F1k, Z1k), (F1m, Z1m), (F1o, Z1o), (F1p, Z1p), (F1q, Z1q), (F1s, Z1s), (F1t, Z1t), (F1u, Z1u), (F1v, Z1v), (F22, Z22), (F23, Z23), (F2h, Z2h), (F2i, Z2i), (F2o, Z2o), (F2p, Z2p), (F2q, Z2q), (F2r, Z2r), (F2s, Z2s), (F2t, Z2t), (F2u, Z2u), (F2v, Z2v), (F2w, Z2w), (F2x, Z2x), (F2y, Z2y), (F2z, Z2z), (F30, Z30), (F31, Z31), (F32, Z32), (F33, Z33), (F34, Z34), (F35, Z35), (F36, Z36), (F37, Z37), (F38, Z38), (F39, Z39), (F3a, Z3a), (F3b, Z3b), (F3c, Z3c), (F3d, Z3d)]
def nums : List (Nat × Nat) := [(F1i, 17), (F1h, 15), (F1j, 18), (F1f, 32), (F1g, 20), (F2u, 60), (F2r, 132), (F2p, 111), (F2v, 134), (F38, 167), (F3d, 112), (F33, 189), (F2x, 149), (F39, 110), (F2s, 146), (F2y, 79), (F31, 121), (F36, 183), (F30, 122), (F32, 62), (F35, 218), (F2q, 198), (F2t, 151), (F34, 190), (F2w, 133), (F2z, 131), (F37, 109), (F3a, 52), (F3b, 129), (F3c, 72), (F2o, 25), (F1d, 65), (F1b, 182), (F17, 119), (F19, 94), (F1s, 237), (F1p, 216), (F7, 217), (F6, 195), (Fg, 196), (Ff, 139), (Fc, 115), (Fb, 68), (Fy, 181), (F18, 168), (Fl, 117), (F14, 187), (F12, 143), (Fs, 141), (F1a, 169), (F1n, 236), (Fm, 214), (Fk, 210), (Fr, 201), (F11, 186), (Fw, 188), (Fi, 165), (Fv, 95), (Fu, 93), (F15, 221), (F13, 222), (F22, 247), (F2l, 258), (F20, 248), (F1l, 234), (F1m, 235), (F1k, 209), (F28, 243), (F2n, 244), (F1w, 249), (F29, 261), (F26, 260), (F24, 259), (F1y, 250), (F2j, 251), (F2b, 252), (F2f, 253), (F2d, 254), (F2h, 239), (F1u, 223), (F2, 255), (F0, 240), (F3, 256), (F1, 241), (Fa, 225), (Fq, 224), (Fo, 206), (Ft, 163), (Fh, 211), (F4, 178), (Fe, 113), (F1t, 212), (F1q, 179), (F9, 180), (F8, 114), (F16, 54), (F23, 226), (F2m, 242), (F21, 227), (F1x, 228), (F2a, 257), (F27, 246), (F25, 245), (F1z, 229), (F2k, 230), (F2c, 231), (F2g, 232), (F2e, 233), (F2i, 208), (F1v, 170), (F10, 171), (Fz, 98), (Fx, 118), (F1c, 57), (F1r, 116), (F1o, 55), (Fj, 73), (F5, 26), (F1e, 5)]
def tabF (f : Nat) : Option Fn := tab.lookup f
def numF (f : Nat) : Nat := (nums.lookup f).getD 0
theorem K0 : okAt Go.Proofs.Tryz.prog numF (numF F0) Z0 = true := by kernel_rfl
theorem K1 : okAt Go.Proofs.Tryz.prog numF (numF F1) Z1 = true := by kernel_rfl
theorem K2 : okAt Go.Proofs.Tryz.prog numF (numF F2) Z2 = true := by kernel_rfl
theorem K3 : okAt Go.Proofs.Tryz.prog numF (numF F3) Z3 = true := by kernel_rfl
theorem K4 : okAt Go.Proofs.Tryz.prog numF (numF F4) Z4 = true := by kernel_rfl
theorem K5 : okAt Go.Proofs.Tryz.prog numF (numF F5) Z5 = true := by kernel_rfl
theorem K6 : okAt Go.Proofs.Tryz.prog numF (numF F6) Z6 = true := by kernel_rfl
theorem K7 : okAt Go.Proofs.Tryz.prog numF (numF F7) Z7 = true := by kernel_rfl
theorem K8 : okAt Go.Proofs.Tryz.prog numF (numF F8) Z8 = true := by kernel_rfl
theorem K9 : okAt Go.Proofs.Tryz.prog numF (numF F9) Z9 = true := by kernel_rfl
theorem Ka : okAt Go.Proofs.Tryz.prog numF (numF Fa) Za = true := by kernel_rfl
theorem Kb : okAt Go.Proofs.Tryz.prog numF (numF Fb) Zb = true := by kernel_rfl
theorem Kc : okAt Go.Proofs.Tryz.prog numF (numF Fc) Zc = true := by kernel_rfl
theorem Ke : okAt Go.Proofs.Tryz.prog numF (numF Fe) Ze = true := by kernel_rfl
theorem Kf : okAt Go.Proofs.Tryz.prog numF (numF Ff) Zf = true := by kernel_rfl
theorem Kg : okAt Go.Proofs.Tryz.prog numF (numF Fg) Zg = true := by kernel_rfl
theorem Kh : okAt Go.Proofs.Tryz.prog numF (numF Fh) Zh = true := by kernel_rfl
theorem Ki : okAt Go.Proofs.Tryz.prog numF (numF Fi) Zi = true := by kernel_rfl
theorem Kj : okAt Go.Proofs.Tryz.prog numF (numF Fj) Zj = true := by kernel_rfl
theorem Kk : okAt Go.Proofs.Tryz.prog numF (numF Fk) Zk = true := by kernel_rfl
theorem Kl : okAt Go.Proofs.Tryz.prog numF (numF Fl) Zl = true := by kernel_rfl
theorem Km : okAt Go.Proofs.Tryz.prog numF (numF Fm) Zm = true := by kernel_rfl
theorem Ko : okAt Go.Proofs.Tryz.prog numF (numF Fo) Zo = true := by kernel_rfl
theorem Kq : okAt Go.Proofs.Tryz.prog numF (numF Fq) Zq = true := by kernel_rfl
theorem Kr : okAt Go.Proofs.Tryz.prog numF (numF Fr) Zr = true := by kernel_rfl
theorem Ks : okAt Go.Proofs.Tryz.prog numF (numF Fs) Zs = true := by kernel_rfl
theorem Kt : okAt Go.Proofs.Tryz.prog numF (numF Ft) Zt = true := by kernel_rfl
theorem Ku : okAt Go.Proofs.Tryz.prog numF (numF Fu) Zu = true := by kernel_rfl
theorem Kv : okAt Go.Proofs.Tryz.prog numF (numF Fv) Zv = true := by kernel_rfl
theorem Kw : okAt Go.Proofs.Tryz.prog numF (numF Fw) Zw = true := by kernel_rfl
theorem Kx : okAt Go.Proofs.Tryz.prog numF (numF Fx) Zx = true := by kernel_rfl
theorem Ky : okAt Go.Proofs.Tryz.prog numF (numF Fy) Zy = true := by kernel_rfl
theorem Kz : okAt Go.Proofs.Tryz.prog numF (numF Fz) Zz = true := by kernel_rfl
theorem K10 : okAt Go.Proofs.Tryz.prog numF (numF F10) Z10 = true := by kernel_rfl
theorem K11 : okAt Go.Proofs.Tryz.prog numF (numF F11) Z11 = true := by kernel_rfl
theorem K12 : okAt Go.Proofs.Tryz.prog numF (numF F12) Z12 = true := by kernel_rfl
theorem K13 : okAt Go.Proofs.Tryz.prog numF (numF F13) Z13 = true := by kernel_rfl
theorem K14 : okAt Go.Proofs.Tryz.prog numF (numF F14) Z14 = true := by kernel_rfl
theorem K15 : okAt Go.Proofs.Tryz.prog numF (numF F15) Z15 = true := by kernel_rfl
theorem K16 : okAt Go.Proofs.Tryz.prog numF (numF F16) Z16 = true := by kernel_rfl
theorem K17 : okAt Go.Proofs.Tryz.prog numF (numF F17) Z17 = true := by kernel_rfl
theorem K18 : okAt Go.Proofs.Tryz.prog numF (numF F18) Z18 = true := by kernel_rfl
theorem K19 : okAt Go.Proofs.Tryz.prog numF (numF F19) Z19 = true := by kernel_rfl
theorem K1a : okAt Go.Proofs.Tryz.prog numF (numF F1a) Z1a = true := by kernel_rfl
theorem K1b : okAt Go.Proofs.Tryz.prog numF (numF F1b) Z1b = true := by kernel_rfl
theorem K1c : okAt Go.Proofs.Tryz.prog numF (numF F1c) Z1c = true := by kernel_rfl
theorem K1d : okAt Go.Proofs.Tryz.prog numF (numF F1d) Z1d = true := by kernel_rfl
theorem K1e : okAt Go.Proofs.Tryz.prog numF (numF F1e) Z1e = true := by kernel_rfl
theorem K1f : okAt Go.Proofs.Tryz.prog numF (numF F1f) Z1f = true := by kernel_rfl
theorem K1g : okAt Go.Proofs.Tryz.prog numF (numF F1g) Z1g = true := by kernel_rfl
theorem K1h : okAt Go.Proofs.Tryz.prog numF (numF F1h) Z1h = true := by kernel_rfl
theorem K1i : okAt Go.Proofs.Tryz.prog numF (numF F1i) Z1i = true := by kernel_rfl
theorem K1j : okAt Go.Proofs.Tryz.prog numF (numF F1j) Z1j = true := by kernel_rfl
theorem K1k : okAt Go.Proofs.Tryz.prog numF (numF F1k) Z1k = true := by kernel_rfl
theorem K1m : okAt Go.Proofs.Tryz.prog numF (numF F1m) Z1m = true := by kernel_rfl
theorem K1o : okAt Go.Proofs.Tryz.prog numF (numF F1o) Z1o = true := by kernel_rfl
theorem K1p : okAt Go.Proofs.Tryz.prog numF (numF F1p) Z1p = true := by kernel_rfl
theorem K1q : okAt Go.Proofs.Tryz.prog numF (numF F1q) Z1q = true := by kernel_rfl
theorem K1s : okAt Go.Proofs.Tryz.prog numF (numF F1s) Z1s = true := by kernel_rfl
theorem K1t : okAt Go.Proofs.Tryz.prog numF (numF F1t) Z1t = true := by kernel_rfl
theorem K1u : okAt Go.Proofs.Tryz.prog numF (numF F1u) Z1u = true := by kernel_rfl
theorem K1v : okAt Go.Proofs.Tryz.prog numF (numF F1v) Z1v = true := by kernel_rfl
theorem K22 : okAt Go.Proofs.Tryz.prog numF (numF F22) Z22 = true := by kernel_rfl
theorem K23 : okAt Go.Proofs.Tryz.prog numF (numF F23) Z23 = true := by kernel_rfl
theorem K2h : okAt Go.Proofs.Tryz.prog numF (numF F2h) Z2h = true := by kernel_rfl
theorem K2i : okAt Go.Proofs.Tryz.prog numF (numF F2i) Z2i = true := by kernel_rfl
theorem K2o : okAt Go.Proofs.Tryz.prog numF (numF F2o) Z2o = true := by kernel_rfl
theorem K2p : okAt Go.Proofs.Tryz.prog numF (numF F2p) Z2p = true := by kernel_rfl
theorem K2q : okAt Go.Proofs.Tryz.prog numF (numF F2q) Z2q = true := by kernel_rfl
theorem K2r : okAt Go.Proofs.Tryz.prog numF (numF F2r) Z2r = true := by kernel_rfl
theorem K2s : okAt Go.Proofs.Tryz.prog numF (numF F2s) Z2s = true := by kernel_rfl
theorem K2t : okAt Go.Proofs.Tryz.prog numF (numF F2t) Z2t = true := by kernel_rfl
theorem K2u : okAt Go.Proofs.Tryz.prog numF (numF F2u) Z2u = true := by kernel_rfl
theorem K2v : okAt Go.Proofs.Tryz.prog numF (numF F2v) Z2v = true := by kernel_rfl
theorem K2w : okAt Go.Proofs.Tryz.prog numF (numF F2w) Z2w = true := by kernel_rfl
theorem K2x : okAt Go.Proofs.Tryz.prog numF (numF F2x) Z2x = true := by kernel_rfl
theorem K2y : okAt Go.Proofs.Tryz.prog numF (numF F2y) Z2y = true := by kernel_rfl
theorem K2z : okAt Go.Proofs.Tryz.prog numF (numF F2z) Z2z = true := by kernel_rfl
theorem K30 : okAt Go.Proofs.Tryz.prog numF (numF F30) Z30 = true := by kernel_rfl
theorem K31 : okAt Go.Proofs.Tryz.prog numF (numF F31) Z31 = true := by kernel_rfl
theorem K32 : okAt Go.Proofs.Tryz.prog numF (numF F32) Z32 = true := by kernel_rfl
theorem K33 : okAt Go.Proofs.Tryz.prog numF (numF F33) Z33 = true := by kernel_rfl
theorem K34 : okAt Go.Proofs.Tryz.prog numF (numF F34) Z34 = true := by kernel_rfl
theorem K35 : okAt Go.Proofs.Tryz.prog numF (numF F35) Z35 = true := by kernel_rfl
theorem K36 : okAt Go.Proofs.Tryz.prog numF (numF F36) Z36 = true := by kernel_rfl
theorem K37 : okAt Go.Proofs.Tryz.prog numF (numF F37) Z37 = true := by kernel_rfl
theorem K38 : okAt Go.Proofs.Tryz.prog numF (numF F38) Z38 = true := by kernel_rfl
theorem K39 : okAt Go.Proofs.Tryz.prog numF (numF F39) Z39 = true := by kernel_rfl
theorem K3a : okAt Go.Proofs.Tryz.prog numF (numF F3a) Z3a = true := by kernel_rfl
theorem K3b : okAt Go.Proofs.Tryz.prog numF (numF F3b) Z3b = true := by kernel_rfl
theorem K3c : okAt Go.Proofs.Tryz.prog numF (numF F3c) Z3c = true := by kernel_rfl
theorem K3d : okAt Go.Proofs.Tryz.prog numF (numF F3d) Z3d = true := by kernel_rfl
theorem tab_ok : ∀ f fn, tabF f = some fn → ∃ g, Go.Proofs.Tryz.prog.funcs[numF f]? = some g ∧ fnOk Go.Proofs.Tryz.prog numF fn g = true := tab_sound (l := tab) ⟨K0, K1, K2, K3, K4, K5, K6, K7, K8, K9, Ka, Kb, Kc, Ke, Kf, Kg, Kh, Ki, Kj, Kk, Kl, Km, Ko, Kq, Kr, Ks, Kt, Ku, Kv, Kw, Kx, Ky, Kz, K10, K11, K12, K13, K14, K15, K16, K17, K18, K19, K1a, K1b, K1c, K1d, K1e, K1f, K1g, K1h, K1i, K1j, K1k, K1m, K1o, K1p, K1q, K1s, K1t, K1u, K1v, K22, K23, K2h, K2i, K2o, K2p, K2q, K2r, K2s, K2t, K2u, K2v, K2w, K2x, K2y, K2z, K30, K31, K32, K33, K34, K35, K36, K37, K38, K39, K3a, K3b, K3c, K3d, trivial⟩
def cloneIds (f : Nat) : Option (Sh × D × Nat) := if f = F1n then some (.leaf, .int .i64 0, 8) else none
theorem mixed : Go.Proofs.Tryz.prog.follows .mixedOrders = true := by kernel_rfl
theorem clones_ok : ∀ f s z bytes, cloneIds f = some (s, z, bytes) → Sh.beq s s = true ∧ ∃ g, Go.Proofs.Tryz.prog.funcs[numF f]? = some g ∧ fnOk Go.Proofs.Tryz.prog numF (cloneFn s z bytes) g = true ∧ (match g.body with | some x => cloneShape x | none => false) = true := by
 intro f s z bytes h
 unfold cloneIds at h
 split at h
 ·rename_i hf
  subst hf
  obtain ⟨rfl, rfl, rfl⟩ : Sh.leaf = s ∧ D.int .i64 0 = z ∧ 8 = bytes := by simpa using h
  refine ⟨rfl, ?_⟩
  have h1 : (match Go.Proofs.Tryz.prog.funcs[numF F1n]? with | some g => fnOk Go.Proofs.Tryz.prog numF (cloneFn .leaf (.int .i64 0) 8) g && (match g.body with | some x => cloneShape x | none => false) | none => false) = true := by kernel_rfl
  split at h1
  ·rename_i g hg
   simp only [Bool.and_eq_true] at h1
   exact ⟨g, hg, h1.1, h1.2⟩
  ·cases h1
 ·cases h
def growIds (f : Nat) : Option (Sh × D × Nat) := if f = F1r then some (.arr 64 .leaf, .arr 64 .leaf z64, 64) else none
theorem grows_ok : ∀ f s z bytes, growIds f = some (s, z, bytes) → Sh.beq s s = true ∧ ∃ g, Go.Proofs.Tryz.prog.funcs[numF f]? = some g ∧ fnOk Go.Proofs.Tryz.prog numF (growFn s) g = true ∧ (match g.body with | some x => growShape Go.Proofs.Tryz.prog numF s z bytes x | none => false) = true := by
 intro f s z bytes h
 unfold growIds at h
 split at h
 ·rename_i hf
  subst hf
  obtain ⟨rfl, rfl, rfl⟩ : Sh.arr 64 .leaf = s ∧ D.arr 64 .leaf z64 = z ∧ 64 = bytes := by simpa using h
  refine ⟨rfl, ?_⟩
  have h1 : (match Go.Proofs.Tryz.prog.funcs[numF F1r]? with | some g => fnOk Go.Proofs.Tryz.prog numF (growFn (.arr 64 .leaf)) g && (match g.body with | some x => growShape Go.Proofs.Tryz.prog numF (.arr 64 .leaf) (.arr 64 .leaf z64) 64 x | none => false) | none => false) = true := by kernel_rfl
  split at h1
  ·rename_i g hg
   simp only [Bool.and_eq_true] at h1
   exact ⟨g, hg, h1.1, h1.2⟩
  ·cases h1
 ·cases h
theorem sound : CallOk Go.Proofs.Tryz.prog numF (den tabF (orA (cloneA cloneIds) (growA growIds))) := den_sound tab_ok (orA_sound (cloneA_sound mixed clones_ok) (growA_sound mixed grows_ok)) mixed
end Pe
