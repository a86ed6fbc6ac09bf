/-
  A part of the proof: an evaluator for a small form of the code, its soundness, and contracts of functions over it.
-/
import Derived.Test.YtbangpnofnhhnaaProg
import Derived.KernelRfl
import Derived.Test.YtbangpnofnhhnaaW1
import Derived.Test.YtbangpnofnhhnaaW2
import Derived.Test.YtbangpnofnhhnaaW3
import Derived.Test.YtbangpnofnhhnaaW4
import Derived.Test.YtbangpnofnhhnaaW5

namespace Pe
open Go
def tab : List (Nat × Fn) := [(F0, Z0), (F1, Z1), (F2, Z2), (F3, Z3), (F4, Z4), (F5, Z5), (F6, Z6), (F7, Z7), (F8, Z8), (F9, Z9), (Fa, Za), (Fb, Zb), (Fc, Zc), (Fe, Ze), (Ff, Zf), (Fg, Zg), (Fh, Zh), (Fi, Zi), (Fj, Zj), (Fk, Zk), (Fl, Zl), (Fm, Zm), (Fo, Zo), (Fq, Zq), (Fr, Zr), (Fs, Zs), (Ft, Zt), (Fu, Zu), (Fv, Zv), (Fw, Zw), (Fx, Zx), (Fy, Zy), (Fz, Zz), (F10, Z10), (F11, Z11), (F12, Z12), (F13, Z13), (F14, Z14), (F15, Z15), (F16, Z16), (F17, Z17), (F18, Z18), (F19, Z19), (F1a, Z1a), (F1b, Z1b), (F1c, Z1c), (F1d, Z1d), (F1e, Z1e), (F1f, Z1f), (F1g, Z1g), (F1h, Z1h), (F1j, Z1j), (F1l, Z1l), (F1m, Z1m), (F1n, Z1n), (F1o, Z1o), (F1p, Z1p), (F1t, Z1t), (F21, Z21), (F25, Z25), (F26, Z26), (F27, Z27), (F28, Z28), (F29, Z29), (F2a, Z2a), (F2b, Z2b), (F2c, Z2c), (F2d, Z2d), (F2e, Z2e), (F2f, Z2f), (F2g, Z2g), (F2h, Z2h), (F2i, Z2i), (F2j, Z2j), (F2k, Z2k), (F2l, Z2l), (F2m, Z2m), (F2n, Z2n), (F2o, Z2o), (F2p, Z2p), (F2q, Z2q), (F2r, Z2r), (F2s, Z2s), (F2t, Z2t), (F2u, Z2u), (F2v, Z2v)]
def nums : List (Nat × Nat) := [(F1g, 7), (F1f, 19), (F1b, 51), (F15, 26), (F1a, 60), (F17, 28), (F18, 70), (F1c, 43), (Fz, 105), (F16, 77), (Fl, 89), (F13, 97), (F11, 85), (Fs, 86), (F19, 49), (F1k, 112), (Fm, 106), (Fk, 104), (Fr, 88), (F10, 95), (Fx, 76), (Fg, 87), (Fv, 52), (Fu, 35), (F14, 90), (F12, 91), (F1t, 113), (F23, 125), (F1s, 114), (F1i, 121), (F1j, 122), (F1h, 108), (F1w, 126), (F24, 127), (F1q, 115), (F1x, 130), (F1v, 129), (F1u, 128), (F1r, 116), (F22, 117), (F1y, 118), (F20, 119), (F1z, 120), (F21, 107), (F1p, 92), (F2, 123), (F0, 109), (F3, 124), (F1, 110), (F9, 94), (Fq, 93), (Fo, 69), (Ft, 42), (Ff, 54), (F1o, 99), (F1m, 78), (F8, 79), (F7, 55), (F1n, 111), (F1l, 100), (F6, 101), (F5, 80), (Fe, 81), (Fc, 57), (Fj, 56), (Fi, 33), (F1d, 50), (Fa, 68), (Fh, 41), (Fb, 96), (Fw, 71), (Fy, 44), (F4, 18), (F29, 21), (F2a, 22), (F2k, 24), (F2e, 98), (F2b, 82), (F2h, 61), (F2l, 67), (F26, 65), (F2q, 102), (F2j, 83), (F2m, 63), (F2p, 103), (F27, 84), (F2c, 64), (F2o, 62), (F2f, 39), (F2d, 47), (F2n, 72), (F2g, 73), (F28, 45), (F2i, 46), (F2s, 38), (F2v, 74), (F2u, 75), (F2r, 66), (F2t, 40), (F25, 17), (F1e, 5)]
def tabF (f : Nat) : Option Fn := tab.lookup f
def numF (f : Nat) : Nat := (nums.lookup f).getD 0
theorem K0 : okAt Go.Proofs.Try.prog numF (numF F0) Z0 = true := by kernel_rfl
theorem K1 : okAt Go.Proofs.Try.prog numF (numF F1) Z1 = true := by kernel_rfl
theorem K2 : okAt Go.Proofs.Try.prog numF (numF F2) Z2 = true := by kernel_rfl
theorem K3 : okAt Go.Proofs.Try.prog numF (numF F3) Z3 = true := by kernel_rfl
theorem K4 : okAt Go.Proofs.Try.prog numF (numF F4) Z4 = true := by kernel_rfl
theorem K5 : okAt Go.Proofs.Try.prog numF (numF F5) Z5 = true := by kernel_rfl
theorem K6 : okAt Go.Proofs.Try.prog numF (numF F6) Z6 = true := by kernel_rfl
theorem K7 : okAt Go.Proofs.Try.prog numF (numF F7) Z7 = true := by kernel_rfl
theorem K8 : okAt Go.Proofs.Try.prog numF (numF F8) Z8 = true := by kernel_rfl
theorem K9 : okAt Go.Proofs.Try.prog numF (numF F9) Z9 = true := by kernel_rfl
theorem Ka : okAt Go.Proofs.Try.prog numF (numF Fa) Za = true := by kernel_rfl
theorem Kb : okAt Go.Proofs.Try.prog numF (numF Fb) Zb = true := by kernel_rfl
theorem Kc : okAt Go.Proofs.Try.prog numF (numF Fc) Zc = true := by kernel_rfl
theorem Ke : okAt Go.Proofs.Try.prog numF (numF Fe) Ze = true := by kernel_rfl
theorem Kf : okAt Go.Proofs.Try.prog numF (numF Ff) Zf = true := by kernel_rfl
theorem Kg : okAt Go.Proofs.Try.prog numF (numF Fg) Zg = true := by kernel_rfl
theorem Kh : okAt Go.Proofs.Try.prog numF (numF Fh) Zh = true := by kernel_rfl
theorem Ki : okAt Go.Proofs.Try.prog numF (numF Fi) Zi = true := by kernel_rfl
theorem Kj : okAt Go.Proofs.Try.prog numF (numF Fj) Zj = true := by kernel_rfl
theorem Kk : okAt Go.Proofs.Try.prog numF (numF Fk) Zk = true := by kernel_rfl
theorem Kl : okAt Go.Proofs.Try.prog numF (numF Fl) Zl = true := by kernel_rfl
theorem Km : okAt Go.Proofs.Try.prog numF (numF Fm) Zm = true := by kernel_rfl
theorem Ko : okAt Go.Proofs.Try.prog numF (numF Fo) Zo = true := by kernel_rfl
theorem Kq : okAt Go.Proofs.Try.prog numF (numF Fq) Zq = true := by kernel_rfl
theorem Kr : okAt Go.Proofs.Try.prog numF (numF Fr) Zr = true := by kernel_rfl
theorem Ks : okAt Go.Proofs.Try.prog numF (numF Fs) Zs = true := by kernel_rfl
theorem Kt : okAt Go.Proofs.Try.prog numF (numF Ft) Zt = true := by kernel_rfl
theorem Ku : okAt Go.Proofs.Try.prog numF (numF Fu) Zu = true := by kernel_rfl
theorem Kv : okAt Go.Proofs.Try.prog numF (numF Fv) Zv = true := by kernel_rfl
theorem Kw : okAt Go.Proofs.Try.prog numF (numF Fw) Zw = true := by kernel_rfl
theorem Kx : okAt Go.Proofs.Try.prog numF (numF Fx) Zx = true := by kernel_rfl
theorem Ky : okAt Go.Proofs.Try.prog numF (numF Fy) Zy = true := by kernel_rfl
theorem Kz : okAt Go.Proofs.Try.prog numF (numF Fz) Zz = true := by kernel_rfl
theorem K10 : okAt Go.Proofs.Try.prog numF (numF F10) Z10 = true := by kernel_rfl
theorem K11 : okAt Go.Proofs.Try.prog numF (numF F11) Z11 = true := by kernel_rfl
theorem K12 : okAt Go.Proofs.Try.prog numF (numF F12) Z12 = true := by kernel_rfl
theorem K13 : okAt Go.Proofs.Try.prog numF (numF F13) Z13 = true := by kernel_rfl
theorem K14 : okAt Go.Proofs.Try.prog numF (numF F14) Z14 = true := by kernel_rfl
theorem K15 : okAt Go.Proofs.Try.prog numF (numF F15) Z15 = true := by kernel_rfl
theorem K16 : okAt Go.Proofs.Try.prog numF (numF F16) Z16 = true := by kernel_rfl
theorem K17 : okAt Go.Proofs.Try.prog numF (numF F17) Z17 = true := by kernel_rfl
theorem K18 : okAt Go.Proofs.Try.prog numF (numF F18) Z18 = true := by kernel_rfl
theorem K19 : okAt Go.Proofs.Try.prog numF (numF F19) Z19 = true := by kernel_rfl
theorem K1a : okAt Go.Proofs.Try.prog numF (numF F1a) Z1a = true := by kernel_rfl
theorem K1b : okAt Go.Proofs.Try.prog numF (numF F1b) Z1b = true := by kernel_rfl
theorem K1c : okAt Go.Proofs.Try.prog numF (numF F1c) Z1c = true := by kernel_rfl
theorem K1d : okAt Go.Proofs.Try.prog numF (numF F1d) Z1d = true := by kernel_rfl
theorem K1e : okAt Go.Proofs.Try.prog numF (numF F1e) Z1e = true := by kernel_rfl
theorem K1f : okAt Go.Proofs.Try.prog numF (numF F1f) Z1f = true := by kernel_rfl
theorem K1g : okAt Go.Proofs.Try.prog numF (numF F1g) Z1g = true := by kernel_rfl
theorem K1h : okAt Go.Proofs.Try.prog numF (numF F1h) Z1h = true := by kernel_rfl
theorem K1j : okAt Go.Proofs.Try.prog numF (numF F1j) Z1j = true := by kernel_rfl
theorem K1l : okAt Go.Proofs.Try.prog numF (numF F1l) Z1l = true := by kernel_rfl
theorem K1m : okAt Go.Proofs.Try.prog numF (numF F1m) Z1m = true := by kernel_rfl
theorem K1n : okAt Go.Proofs.Try.prog numF (numF F1n) Z1n = true := by kernel_rfl
theorem K1o : okAt Go.Proofs.Try.prog numF (numF F1o) Z1o = true := by kernel_rfl
theorem K1p : okAt Go.Proofs.Try.prog numF (numF F1p) Z1p = true := by kernel_rfl
theorem K1t : okAt Go.Proofs.Try.prog numF (numF F1t) Z1t = true := by kernel_rfl
theorem K21 : okAt Go.Proofs.Try.prog numF (numF F21) Z21 = true := by kernel_rfl
theorem K25 : okAt Go.Proofs.Try.prog numF (numF F25) Z25 = true := by kernel_rfl
theorem K26 : okAt Go.Proofs.Try.prog numF (numF F26) Z26 = true := by kernel_rfl
theorem K27 : okAt Go.Proofs.Try.prog numF (numF F27) Z27 = true := by kernel_rfl
theorem K28 : okAt Go.Proofs.Try.prog numF (numF F28) Z28 = true := by kernel_rfl
theorem K29 : okAt Go.Proofs.Try.prog numF (numF F29) Z29 = true := by kernel_rfl
theorem K2a : okAt Go.Proofs.Try.prog numF (numF F2a) Z2a = true := by kernel_rfl
theorem K2b : okAt Go.Proofs.Try.prog numF (numF F2b) Z2b = true := by kernel_rfl
theorem K2c : okAt Go.Proofs.Try.prog numF (numF F2c) Z2c = true := by kernel_rfl
theorem K2d : okAt Go.Proofs.Try.prog numF (numF F2d) Z2d = true := by kernel_rfl
theorem K2e : okAt Go.Proofs.Try.prog numF (numF F2e) Z2e = true := by kernel_rfl
theorem K2f : okAt Go.Proofs.Try.prog numF (numF F2f) Z2f = true := by kernel_rfl
theorem K2g : okAt Go.Proofs.Try.prog numF (numF F2g) Z2g = true := by kernel_rfl
theorem K2h : okAt Go.Proofs.Try.prog numF (numF F2h) Z2h = true := by kernel_rfl
theorem K2i : okAt Go.Proofs.Try.prog numF (numF F2i) Z2i = true := by kernel_rfl
theorem K2j : okAt Go.Proofs.Try.prog numF (numF F2j) Z2j = true := by kernel_rfl
theorem K2k : okAt Go.Proofs.Try.prog numF (numF F2k) Z2k = true := by kernel_rfl
theorem K2l : okAt Go.Proofs.Try.prog numF (numF F2l) Z2l = true := by kernel_rfl
theorem K2m : okAt Go.Proofs.Try.prog numF (numF F2m) Z2m = true := by kernel_rfl
theorem K2n : okAt Go.Proofs.Try.prog numF (numF F2n) Z2n = true := by kernel_rfl
theorem K2o : okAt Go.Proofs.Try.prog numF (numF F2o) Z2o = true := by kernel_rfl
theorem K2p : okAt Go.Proofs.Try.prog numF (numF F2p) Z2p = true := by kernel_rfl
theorem K2q : okAt Go.Proofs.Try.prog numF (numF F2q) Z2q = true := by kernel_rfl
theorem K2r : okAt Go.Proofs.Try.prog numF (numF F2r) Z2r = true := by kernel_rfl
theorem K2s : okAt Go.Proofs.Try.prog numF (numF F2s) Z2s = true := by kernel_rfl
theorem K2t : okAt Go.Proofs.Try.prog numF (numF F2t) Z2t = true := by kernel_rfl
theorem K2u : okAt Go.Proofs.Try.prog numF (numF F2u) Z2u = true := by kernel_rfl
theorem K2v : okAt Go.Proofs.Try.prog numF (numF F2v) Z2v = true := by kernel_rfl
theorem tab_ok : ∀ f fn, tabF f = some fn → ∃ g, Go.Proofs.Try.prog.funcs[numF f]? = some g ∧ fnOk Go.Proofs.Try.prog numF fn g = true := tab_sound (l := tab) ⟨K0, K1, K2, K3, K4, K5, K6, K7, K8, K9, Ka, Kb, Kc, Ke, Kf, Kg, Kh, Ki, Kj, Kk, Kl, Km, Ko, Kq, Kr, Ks, Kt, Ku, Kv, Kw, Kx, Ky, Kz, K10, K11, K12, K13, K14, K15, K16, K17, K18, K19, K1a, K1b, K1c, K1d, K1e, K1f, K1g, K1h, K1j, K1l, K1m, K1n, K1o, K1p, K1t, K21, K25, K26, K27, K28, K29, K2a, K2b, K2c, K2d, K2e, K2f, K2g, K2h, K2i, K2j, K2k, K2l, K2m, K2n, K2o, K2p, K2q, K2r, K2s, K2t, K2u, K2v, trivial⟩
def cloneIds (f : Nat) : Option (Sh × D × Nat) := if f = F1k then some (.leaf, .int .i64 0, 8) else none
theorem mixed : Go.Proofs.Try.prog.follows .mixedOrders = true := by kernel_rfl
theorem clones_ok : ∀ f s z bytes, cloneIds f = some (s, z, bytes) → Sh.beq s s = true ∧ ∃ g, Go.Proofs.Try.prog.funcs[numF f]? = some g ∧ fnOk Go.Proofs.Try.prog numF (cloneFn s z bytes) g = true ∧ (match g.body with | some x => cloneShape x | none => false) = true := by
 intro f s z bytes h
 unfold cloneIds at h
 split at h
 ·rename_i hf
  subst hf
  obtain ⟨rfl, rfl, rfl⟩ : Sh.leaf = s ∧ D.int .i64 0 = z ∧ 8 = bytes := by simpa using h
  refine ⟨rfl, ?_⟩
  have h1 : (match Go.Proofs.Try.prog.funcs[numF F1k]? with | some g => fnOk Go.Proofs.Try.prog numF (cloneFn .leaf (.int .i64 0) 8) g && (match g.body with | some x => cloneShape x | none => false) | none => false) = true := by kernel_rfl
  split at h1
  ·rename_i g hg
   simp only [Bool.and_eq_true] at h1
   exact ⟨g, hg, h1.1, h1.2⟩
  ·cases h1
 ·cases h
theorem sound : CallOk Go.Proofs.Try.prog numF (den tabF (cloneA cloneIds)) := den_sound tab_ok (cloneA_sound mixed clones_ok) mixed
end Pe
