/-
  A part of the proof: an evaluator for a small form of the code, its soundness, and contracts of functions over it.
-/
import Derived.Test.YtfmkdfhhbejpnaaGreatProg
import Derived.KernelRfl
import Derived.Test.YtfmkdfhhbejpnaaGreatW1
import Derived.Test.YtfmkdfhhbejpnaaGreatW2
import Derived.Test.YtfmkdfhhbejpnaaGreatW3
import Derived.Test.YtfmkdfhhbejpnaaGreatW4
import Derived.Test.YtfmkdfhhbejpnaaGreatW5
import Derived.Test.YtfmkdfhhbejpnaaGreatW6
import Derived.Test.YtfmkdfhhbejpnaaGreatW7

namespace Pe
open Go
def tab : List (Nat × Fn) := [(F0, Z0), (F1, Z1), (F2, Z2), (F3, Z3), (F4, Z4), (F5, Z5), (F6, Z6), (F7, Z7), (F8, Z8), (F9, Z9), (Fa, Za), (Fb, Zb), (Fc, Zc), (Fe, Ze), (Ff, Zf), (Fg, Zg), (Fh, Zh), (Fi, Zi), (Fj, Zj), (Fk, Zk), (Fl, Zl), (Fm, Zm), (Fo, Zo), (Fq, Zq), (Fr, Zr), (Fs, Zs), (Ft, Zt), (Fu, Zu), (Fv, Zv), (Fw, Zw), (Fx, Zx), (Fy, Zy), (Fz, Zz), (F10, Z10), (F11, Z11), (F12, Z12), (F13, Z13), (F14, Z14), (F15, Z15), (F16, Z16), (F17, Z17), (F18, Z18), (F19, Z19), (F1a, Z1a), (F1b, Z1b), (F1c, Z1c), (F1d, Z1d), (F1e, Z1e), (F1f, Z1f), (F1g, Z1g), (F1h, Z1h), (F1i, Z1i), (F1j, Z1j), (F1k, Z1k), (F1l, Z1l), (F1m, Z1m), (F1n, Z1n), (F1o, Z1o), (F1p, Z1p), (F1q, Z1q), (F1r, Z1r), (F1s, Z1s), (F1t, Z1t), (F1u, Z1u), (F1v, Z1v), (F1w, Z1w), (F1x, Z1x), (F1y, Z1y), (F20, Z20), (F22, Z22), (F23, Z23), (F24, Z24), (F26, Z26), (F27, Z27), (F28, Z28), (F29, Z29), (F2g, Z2g), (F2h, Z2h), (F2v, Z2v), (F2w, Z2w), (F32, Z32), (F33, Z33), (F34, Z34), (F35, Z35), (F36, Z36), (F37, Z37), (F38, Z38), (F39, Z39), (F3a, Z3a), (F3b, Z3b), (F3c, Z3c), (F3d, Z3d), (F3e, Z3e), (F3f, Z3f), (F3g, Z3g), (F3h, Z3h), (F3i, Z3i), (F3j, Z3j), (F3k, Z3k), (F3l, Z3l), (F3m, Z3m), (F3n, Z3n), (F3o, Z3o), (F3p, Z3p), (F3q, Z3q), (F3r, Z3r), (F3s, Z3s), (F3t, Z3t), (F3u, Z3u), (F3v, Z3v), (F3w, Z3w), (F3x, Z3x)]
def nums : List (Nat × Nat) := [(F1w, 7), (F1v, 5), (F1x, 8), (F1s, 23), (F1t, 10), (F1u, 13), (F35, 53), (F33, 29), (F39, 75), (F3q, 74), (F3x, 50), (F3h, 99), (F3b, 88), (F3r, 73), (F38, 26), (F36, 76), (F3c, 55), (F3f, 33), (F3k, 54), (F3e, 30), (F3g, 32), (F3j, 77), (F34, 56), (F37, 101), (F3i, 100), (F3a, 90), (F3d, 89), (F3m, 72), (F3s, 49), (F3v, 24), (F3n, 52), (F3u, 28), (F3l, 15), (F3t, 34), (F3p, 27), (F3o, 31), (F3w, 16), (F32, 11), (F1j, 62), (F1e, 39), (Fb, 19), (F1k, 21), (F1n, 22), (F1i, 51), (F1p, 25), (F1g, 70), (F26, 126), (F23, 109), (F7, 110), (F6, 94), (Fo, 95), (Fm, 82), (Fh, 59), (F15, 65), (F1f, 66), (Fu, 43), (F1b, 64), (F19, 48), (Fz, 83), (F1h, 84), (F21, 98), (Fv, 87), (Ft, 67), (Fy, 103), (F18, 63), (F13, 71), (Fr, 102), (F12, 122), (F11, 121), (F1c, 104), (F1a, 105), (F2g, 132), (F2z, 143), (F2e, 133), (F1z, 119), (F20, 120), (F1y, 97), (F2m, 128), (F31, 129), (F2a, 134), (F2n, 146), (F2k, 145), (F2i, 144), (F2c, 135), (F2x, 136), (F2p, 137), (F2t, 138), (F2r, 139), (F2v, 123), (F28, 106), (F2, 140), (F0, 124), (F3, 141), (F1, 125), (Fa, 108), (Fx, 107), (Fw, 92), (F10, 79), (F1q, 38), (Fq, 91), (F5, 78), (Fl, 57), (F27, 93), (F24, 80), (F9, 81), (F8, 58), (F1d, 35), (F2h, 111), (F30, 127), (F2f, 112), (F2b, 113), (F2o, 142), (F2l, 131), (F2j, 130), (F2d, 114), (F2y, 115), (F2q, 116), (F2u, 117), (F2s, 118), (F2w, 96), (F29, 85), (F17, 86), (F16, 61), (F14, 37), (F25, 60), (F22, 36), (Fs, 17), (Fj, 42), (Fe, 47), (Fk, 41), (F1o, 69), (Fc, 46), (F1l, 40), (F1m, 68), (Fi, 45), (Fg, 44), (Ff, 20), (F4, 12), (F1r, 4)]
def tabF (f : Nat) : Option Fn := tab.lookup f
def numF (f : Nat) : Nat := (nums.lookup f).getD 0
theorem K0 : okAt Go.Proofs.Tryz.prog numF (numF F0) Z0 = true := by kernel_rfl
theorem K1 : okAt Go.Proofs.Tryz.prog numF (numF F1) Z1 = true := by kernel_rfl
theorem K2 : okAt Go.Proofs.Tryz.prog numF (numF F2) Z2 = true := by kernel_rfl
theorem K3 : okAt Go.Proofs.Tryz.prog numF (numF F3) Z3 = true := by kernel_rfl
theorem K4 : okAt Go.Proofs.Tryz.prog numF (numF F4) Z4 = true := by kernel_rfl
theorem K5 : okAt Go.Proofs.Tryz.prog numF (numF F5) Z5 = true := by kernel_rfl
theorem K6 : okAt Go.Proofs.Tryz.prog numF (numF F6) Z6 = true := by kernel_rfl
theorem K7 : okAt Go.Proofs.Tryz.prog numF (numF F7) Z7 = true := by kernel_rfl
theorem K8 : okAt Go.Proofs.Tryz.prog numF (numF F8) Z8 = true := by kernel_rfl
theorem K9 : okAt Go.Proofs.Tryz.prog numF (numF F9) Z9 = true := by kernel_rfl
theorem Ka : okAt Go.Proofs.Tryz.prog numF (numF Fa) Za = true := by kernel_rfl
theorem Kb : okAt Go.Proofs.Tryz.prog numF (numF Fb) Zb = true := by kernel_rfl
theorem Kc : okAt Go.Proofs.Tryz.prog numF (numF Fc) Zc = true := by kernel_rfl
theorem Ke : okAt Go.Proofs.Tryz.prog numF (numF Fe) Ze = true := by kernel_rfl
theorem Kf : okAt Go.Proofs.Tryz.prog numF (numF Ff) Zf = true := by kernel_rfl
theorem Kg : okAt Go.Proofs.Tryz.prog numF (numF Fg) Zg = true := by kernel_rfl
theorem Kh : okAt Go.Proofs.Tryz.prog numF (numF Fh) Zh = true := by kernel_rfl
theorem Ki : okAt Go.Proofs.Tryz.prog numF (numF Fi) Zi = true := by kernel_rfl
theorem Kj : okAt Go.Proofs.Tryz.prog numF (numF Fj) Zj = true := by kernel_rfl
theorem Kk : okAt Go.Proofs.Tryz.prog numF (numF Fk) Zk = true := by kernel_rfl
theorem Kl : okAt Go.Proofs.Tryz.prog numF (numF Fl) Zl = true := by kernel_rfl
theorem Km : okAt Go.Proofs.Tryz.prog numF (numF Fm) Zm = true := by kernel_rfl
theorem Ko : okAt Go.Proofs.Tryz.prog numF (numF Fo) Zo = true := by kernel_rfl
theorem Kq : okAt Go.Proofs.Tryz.prog numF (numF Fq) Zq = true := by kernel_rfl
theorem Kr : okAt Go.Proofs.Tryz.prog numF (numF Fr) Zr = true := by kernel_rfl
theorem Ks : okAt Go.Proofs.Tryz.prog numF (numF Fs) Zs = true := by kernel_rfl
theorem Kt : okAt Go.Proofs.Tryz.prog numF (numF Ft) Zt = true := by kernel_rfl
theorem Ku : okAt Go.Proofs.Tryz.prog numF (numF Fu) Zu = true := by kernel_rfl
theorem Kv : okAt Go.Proofs.Tryz.prog numF (numF Fv) Zv = true := by kernel_rfl
theorem Kw : okAt Go.Proofs.Tryz.prog numF (numF Fw) Zw = true := by kernel_rfl
theorem Kx : okAt Go.Proofs.Tryz.prog numF (numF Fx) Zx = true := by kernel_rfl
theorem Ky : okAt Go.Proofs.Tryz.prog numF (numF Fy) Zy = true := by kernel_rfl
theorem Kz : okAt Go.Proofs.Tryz.prog numF (numF Fz) Zz = true := by kernel_rfl
theorem K10 : okAt Go.Proofs.Tryz.prog numF (numF F10) Z10 = true := by kernel_rfl
theorem K11 : okAt Go.Proofs.Tryz.prog numF (numF F11) Z11 = true := by kernel_rfl
theorem K12 : okAt Go.Proofs.Tryz.prog numF (numF F12) Z12 = true := by kernel_rfl
theorem K13 : okAt Go.Proofs.Tryz.prog numF (numF F13) Z13 = true := by kernel_rfl
theorem K14 : okAt Go.Proofs.Tryz.prog numF (numF F14) Z14 = true := by kernel_rfl
theorem K15 : okAt Go.Proofs.Tryz.prog numF (numF F15) Z15 = true := by kernel_rfl
theorem K16 : okAt Go.Proofs.Tryz.prog numF (numF F16) Z16 = true := by kernel_rfl
theorem K17 : okAt Go.Proofs.Tryz.prog numF (numF F17) Z17 = true := by kernel_rfl
theorem K18 : okAt Go.Proofs.Tryz.prog numF (numF F18) Z18 = true := by kernel_rfl
theorem K19 : okAt Go.Proofs.Tryz.prog numF (numF F19) Z19 = true := by kernel_rfl
theorem K1a : okAt Go.Proofs.Tryz.prog numF (numF F1a) Z1a = true := by kernel_rfl
theorem K1b : okAt Go.Proofs.Tryz.prog numF (numF F1b) Z1b = true := by kernel_rfl
theorem K1c : okAt Go.Proofs.Tryz.prog numF (numF F1c) Z1c = true := by kernel_rfl
theorem K1d : okAt Go.Proofs.Tryz.prog numF (numF F1d) Z1d = true := by kernel_rfl
theorem K1e : okAt Go.Proofs.Tryz.prog numF (numF F1e) Z1e = true := by kernel_rfl
theorem K1f : okAt Go.Proofs.Tryz.prog numF (numF F1f) Z1f = true := by kernel_rfl
theorem K1g : okAt Go.Proofs.Tryz.prog numF (numF F1g) Z1g = true := by kernel_rfl
theorem K1h : okAt Go.Proofs.Tryz.prog numF (numF F1h) Z1h = true := by kernel_rfl
theorem K1i : okAt Go.Proofs.Tryz.prog numF (numF F1i) Z1i = true := by kernel_rfl
theorem K1j : okAt Go.Proofs.Tryz.prog numF (numF F1j) Z1j = true := by kernel_rfl
theorem K1k : okAt Go.Proofs.Tryz.prog numF (numF F1k) Z1k = true := by kernel_rfl
theorem K1l : okAt Go.Proofs.Tryz.prog numF (numF F1l) Z1l = true := by kernel_rfl
theorem K1m : okAt Go.Proofs.Tryz.prog numF (numF F1m) Z1m = true := by kernel_rfl
theorem K1n : okAt Go.Proofs.Tryz.prog numF (numF F1n) Z1n = true := by kernel_rfl
theorem K1o : okAt Go.Proofs.Tryz.prog numF (numF F1o) Z1o = true := by kernel_rfl
theorem K1p : okAt Go.Proofs.Tryz.prog numF (numF F1p) Z1p = true := by kernel_rfl
theorem K1q : okAt Go.Proofs.Tryz.prog numF (numF F1q) Z1q = true := by kernel_rfl
theorem K1r : okAt Go.Proofs.Tryz.prog numF (numF F1r) Z1r = true := by kernel_rfl
theorem K1s : okAt Go.Proofs.Tryz.prog numF (numF F1s) Z1s = true := by kernel_rfl
theorem K1t : okAt Go.Proofs.Tryz.prog numF (numF F1t) Z1t = true := by kernel_rfl
theorem K1u : okAt Go.Proofs.Tryz.prog numF (numF F1u) Z1u = true := by kernel_rfl
theorem K1v : okAt Go.Proofs.Tryz.prog numF (numF F1v) Z1v = true := by kernel_rfl
theorem K1w : okAt Go.Proofs.Tryz.prog numF (numF F1w) Z1w = true := by kernel_rfl
theorem K1x : okAt Go.Proofs.Tryz.prog numF (numF F1x) Z1x = true := by kernel_rfl
theorem K1y : okAt Go.Proofs.Tryz.prog numF (numF F1y) Z1y = true := by kernel_rfl
theorem K20 : okAt Go.Proofs.Tryz.prog numF (numF F20) Z20 = true := by kernel_rfl
theorem K22 : okAt Go.Proofs.Tryz.prog numF (numF F22) Z22 = true := by kernel_rfl
theorem K23 : okAt Go.Proofs.Tryz.prog numF (numF F23) Z23 = true := by kernel_rfl
theorem K24 : okAt Go.Proofs.Tryz.prog numF (numF F24) Z24 = true := by kernel_rfl
theorem K26 : okAt Go.Proofs.Tryz.prog numF (numF F26) Z26 = true := by kernel_rfl
theorem K27 : okAt Go.Proofs.Tryz.prog numF (numF F27) Z27 = true := by kernel_rfl
theorem K28 : okAt Go.Proofs.Tryz.prog numF (numF F28) Z28 = true := by kernel_rfl
theorem K29 : okAt Go.Proofs.Tryz.prog numF (numF F29) Z29 = true := by kernel_rfl
theorem K2g : okAt Go.Proofs.Tryz.prog numF (numF F2g) Z2g = true := by kernel_rfl
theorem K2h : okAt Go.Proofs.Tryz.prog numF (numF F2h) Z2h = true := by kernel_rfl
theorem K2v : okAt Go.Proofs.Tryz.prog numF (numF F2v) Z2v = true := by kernel_rfl
theorem K2w : okAt Go.Proofs.Tryz.prog numF (numF F2w) Z2w = true := by kernel_rfl
theorem K32 : okAt Go.Proofs.Tryz.prog numF (numF F32) Z32 = true := by kernel_rfl
theorem K33 : okAt Go.Proofs.Tryz.prog numF (numF F33) Z33 = true := by kernel_rfl
theorem K34 : okAt Go.Proofs.Tryz.prog numF (numF F34) Z34 = true := by kernel_rfl
theorem K35 : okAt Go.Proofs.Tryz.prog numF (numF F35) Z35 = true := by kernel_rfl
theorem K36 : okAt Go.Proofs.Tryz.prog numF (numF F36) Z36 = true := by kernel_rfl
theorem K37 : okAt Go.Proofs.Tryz.prog numF (numF F37) Z37 = true := by kernel_rfl
theorem K38 : okAt Go.Proofs.Tryz.prog numF (numF F38) Z38 = true := by kernel_rfl
theorem K39 : okAt Go.Proofs.Tryz.prog numF (numF F39) Z39 = true := by kernel_rfl
theorem K3a : okAt Go.Proofs.Tryz.prog numF (numF F3a) Z3a = true := by kernel_rfl
theorem K3b : okAt Go.Proofs.Tryz.prog numF (numF F3b) Z3b = true := by kernel_rfl
theorem K3c : okAt Go.Proofs.Tryz.prog numF (numF F3c) Z3c = true := by kernel_rfl
theorem K3d : okAt Go.Proofs.Tryz.prog numF (numF F3d) Z3d = true := by kernel_rfl
theorem K3e : okAt Go.Proofs.Tryz.prog numF (numF F3e) Z3e = true := by kernel_rfl
theorem K3f : okAt Go.Proofs.Tryz.prog numF (numF F3f) Z3f = true := by kernel_rfl
theorem K3g : okAt Go.Proofs.Tryz.prog numF (numF F3g) Z3g = true := by kernel_rfl
theorem K3h : okAt Go.Proofs.Tryz.prog numF (numF F3h) Z3h = true := by kernel_rfl
theorem K3i : okAt Go.Proofs.Tryz.prog numF (numF F3i) Z3i = true := by kernel_rfl
theorem K3j : okAt Go.Proofs.Tryz.prog numF (numF F3j) Z3j = true := by kernel_rfl
theorem K3k : okAt Go.Proofs.Tryz.prog numF (numF F3k) Z3k = true := by kernel_rfl
theorem K3l : okAt Go.Proofs.Tryz.prog numF (numF F3l) Z3l = true := by kernel_rfl
theorem K3m : okAt Go.Proofs.Tryz.prog numF (numF F3m) Z3m = true := by kernel_rfl
theorem K3n : okAt Go.Proofs.Tryz.prog numF (numF F3n) Z3n = true := by kernel_rfl
theorem K3o : okAt Go.Proofs.Tryz.prog numF (numF F3o) Z3o = true := by kernel_rfl
theorem K3p : okAt Go.Proofs.Tryz.prog numF (numF F3p) Z3p = true := by kernel_rfl
theorem K3q : okAt Go.Proofs.Tryz.prog numF (numF F3q) Z3q = true := by kernel_rfl
theorem K3r : okAt Go.Proofs.Tryz.prog numF (numF F3r) Z3r = true := by kernel_rfl
theorem K3s : okAt Go.Proofs.Tryz.prog numF (numF F3s) Z3s = true := by kernel_rfl
theorem K3t : okAt Go.Proofs.Tryz.prog numF (numF F3t) Z3t = true := by kernel_rfl
theorem K3u : okAt Go.Proofs.Tryz.prog numF (numF F3u) Z3u = true := by kernel_rfl
theorem K3v : okAt Go.Proofs.Tryz.prog numF (numF F3v) Z3v = true := by kernel_rfl
theorem K3w : okAt Go.Proofs.Tryz.prog numF (numF F3w) Z3w = true := by kernel_rfl
theorem K3x : okAt Go.Proofs.Tryz.prog numF (numF F3x) Z3x = true := by kernel_rfl
theorem tab_ok : ∀ f fn, tabF f = some fn → ∃ g, Go.Proofs.Tryz.prog.funcs[numF f]? = some g ∧ fnOk Go.Proofs.Tryz.prog numF fn g = true := tab_sound (l := tab) ⟨K0, K1, K2, K3, K4, K5, K6, K7, K8, K9, Ka, Kb, Kc, Ke, Kf, Kg, Kh, Ki, Kj, Kk, Kl, Km, Ko, Kq, Kr, Ks, Kt, Ku, Kv, Kw, Kx, Ky, Kz, K10, K11, K12, K13, K14, K15, K16, K17, K18, K19, K1a, K1b, K1c, K1d, K1e, K1f, K1g, K1h, K1i, K1j, K1k, K1l, K1m, K1n, K1o, K1p, K1q, K1r, K1s, K1t, K1u, K1v, K1w, K1x, K1y, K20, K22, K23, K24, K26, K27, K28, K29, K2g, K2h, K2v, K2w, K32, K33, K34, K35, K36, K37, K38, K39, K3a, K3b, K3c, K3d, K3e, K3f, K3g, K3h, K3i, K3j, K3k, K3l, K3m, K3n, K3o, K3p, K3q, K3r, K3s, K3t, K3u, K3v, K3w, K3x, trivial⟩
def cloneIds (f : Nat) : Option (Sh × D × Nat) := if f = F21 then some (.leaf, .int .i64 0, 8) else none
theorem mixed : Go.Proofs.Tryz.prog.follows .mixedOrders = true := by kernel_rfl
theorem clones_ok : ∀ f s z bytes, cloneIds f = some (s, z, bytes) → Sh.beq s s = true ∧ ∃ g, Go.Proofs.Tryz.prog.funcs[numF f]? = some g ∧ fnOk Go.Proofs.Tryz.prog numF (cloneFn s z bytes) g = true ∧ (match g.body with | some x => cloneShape x | none => false) = true := by
 intro f s z bytes h
 unfold cloneIds at h
 split at h
 ·rename_i hf
  subst hf
  obtain ⟨rfl, rfl, rfl⟩ : Sh.leaf = s ∧ D.int .i64 0 = z ∧ 8 = bytes := by simpa using h
  refine ⟨rfl, ?_⟩
  have h1 : (match Go.Proofs.Tryz.prog.funcs[numF F21]? with | some g => fnOk Go.Proofs.Tryz.prog numF (cloneFn .leaf (.int .i64 0) 8) g && (match g.body with | some x => cloneShape x | none => false) | none => false) = true := by kernel_rfl
  split at h1
  ·rename_i g hg
   simp only [Bool.and_eq_true] at h1
   exact ⟨g, hg, h1.1, h1.2⟩
  ·cases h1
 ·cases h
def growIds (f : Nat) : Option (Sh × D × Nat) := if f = F25 then some (.arr 64 .leaf, .arr 64 .leaf z64, 64) else none
theorem grows_ok : ∀ f s z bytes, growIds f = some (s, z, bytes) → Sh.beq s s = true ∧ ∃ g, Go.Proofs.Tryz.prog.funcs[numF f]? = some g ∧ fnOk Go.Proofs.Tryz.prog numF (growFn s) g = true ∧ (match g.body with | some x => growShape Go.Proofs.Tryz.prog numF s z bytes x | none => false) = true := by
 intro f s z bytes h
 unfold growIds at h
 split at h
 ·rename_i hf
  subst hf
  obtain ⟨rfl, rfl, rfl⟩ : Sh.arr 64 .leaf = s ∧ D.arr 64 .leaf z64 = z ∧ 64 = bytes := by simpa using h
  refine ⟨rfl, ?_⟩
  have h1 : (match Go.Proofs.Tryz.prog.funcs[numF F25]? with | some g => fnOk Go.Proofs.Tryz.prog numF (growFn (.arr 64 .leaf)) g && (match g.body with | some x => growShape Go.Proofs.Tryz.prog numF (.arr 64 .leaf) (.arr 64 .leaf z64) 64 x | none => false) | none => false) = true := by kernel_rfl
  split at h1
  ·rename_i g hg
   simp only [Bool.and_eq_true] at h1
   exact ⟨g, hg, h1.1, h1.2⟩
  ·cases h1
 ·cases h
theorem sound : CallOk Go.Proofs.Tryz.prog numF (den tabF (orA (cloneA cloneIds) (growA growIds))) := den_sound tab_ok (orA_sound (cloneA_sound mixed clones_ok) (growA_sound mixed grows_ok)) mixed
end Pe
