/-
  A part of the proof: an evaluator for a small form of the code, its soundness, and contracts of functions over it.
-/
import Derived.Test.YtmbifmkpdbiadaaGreatProg
import Derived.KernelRfl
import Derived.Test.YtmbifmkpdbiadaaGreatW1
import Derived.Test.YtmbifmkpdbiadaaGreatW2
import Derived.Test.YtmbifmkpdbiadaaGreatW3
import Derived.Test.YtmbifmkpdbiadaaGreatW4
import Derived.Test.YtmbifmkpdbiadaaGreatW5
import Derived.Test.YtmbifmkpdbiadaaGreatW6

namespace Pe
open Go
def tab : List (Nat × Fn) := [(F0, Z0), (F1, Z1), (F2, Z2), (F3, Z3), (F4, Z4), (F5, Z5_w), (F6, Z6), (F7, Z7), (F8, Z8), (F9, Z9), (Fa, Za), (Fb, Zb), (Fc, Zc), (Fe, Ze), (Ff, Zf), (Fg, Zg), (Fh, Zh), (Fi, Zi), (Fj, Zj), (Fk, Zk), (Fl, Zl), (Fm, Zm), (Fo, Zo), (Fq, Zq), (Fr, Zr), (Fs, Zs), (Ft, Zt), (Fu, Zu), (Fv, Zv), (Fw, Zw), (Fx, Zx), (Fy, Zy), (Fz, Zz), (F10, Z10), (F11, Z11), (F12, Z12), (F13, Z13), (F14, Z14), (F15, Z15), (F16, Z16), (F17, Z17), (F18, Z18), (F19, Z19), (F1a, Z1a), (F1b, Z1b), (F1c, Z1c), (F1d, Z1d), (F1e, Z1e), (F1f, Z1f), (F1g, Z1g), (F1h, Z1h), (F1i, Z1i), (F1j, Z1j), (F1k, Z1k), (F1l, Z1l), (F1m, Z1m), (F1n, Z1n), (F1o, Z1o), (F1p, Z1p), (F1q, Z1q), (F1r, Z1r), (F1s, Z1s), (F1t, Z1t), (F1u, Z1u), (F1v, Z1v), (F1w, Z1w), (F1y, Z1y), (F20, Z20), (F21, Z21), (F22, Z22), (F24, Z24), (F25, Z25), (F26, Z26), (F27, Z27), (F2e, Z2e), (F2f, Z2f), (F2t, Z2t), (F2u, Z2u), (F30, Z30), (F31, Z31), (F32, Z32), (F33, Z33), (F34, Z34), (F35, Z35), (F36, Z36), (F37, Z37), (F38, Z38), (F39, Z39), (F3a, Z3a), (F3b, Z3b), (F3c, Z3c), (F3d, Z3d), (F3e, Z3e), (F3f, Z3f), (F3g, Z3g), (F3h, Z3h), (F3i, Z3i), (F3j, Z3j), (F3k, Z3k), (F3l, Z3l), (F3m, Z3m), (F3n, Z3n), (F3o, Z3o), (F3p, Z3p), (F3q, Z3q), (F3r, Z3r), (F3s, Z3s)]
def nums : List (Nat × Nat) := [(F1t, 11), (F1s, 9), (F1u, 12), (F1v, 12), (F1o, 19), (F1p, 15), (F1r, 22), (F1q, 23), (F33, 45), (F31, 42), (F37, 44), (F3l, 137), (F3r, 109), (F3f, 128), (F39, 115), (F3m, 76), (F36, 94), (F34, 144), (F3a, 118), (F3d, 43), (F3i, 143), (F3c, 116), (F3e, 79), (F3h, 160), (F32, 148), (F35, 130), (F3g, 129), (F38, 95), (F3b, 93), (F3j, 75), (F3n, 33), (F3p, 61), (F3k, 117), (F3o, 78), (F3s, 62), (F3q, 63), (F30, 26), (F1j, 84), (F1e, 36), (Fc, 38), (F1i, 74), (Fr, 57), (F1k, 60), (F1g, 56), (F24, 161), (F21, 149), (F8, 150), (F7, 133), (Fl, 134), (Fk, 99), (Ff, 83), (F15, 102), (F1f, 103), (Fu, 49), (F1b, 125), (F19, 51), (Fz, 52), (F1h, 53), (F1z, 159), (Fv, 147), (Ft, 127), (Fy, 153), (F18, 124), (F13, 126), (Fo, 136), (F12, 142), (F11, 72), (F1c, 154), (F1a, 155), (F2e, 177), (F2x, 192), (F2c, 178), (F1x, 175), (F1y, 176), (F1w, 163), (F2k, 188), (F2z, 189), (F28, 179), (F2l, 196), (F2i, 194), (F2g, 193), (F2a, 180), (F2v, 181), (F2n, 182), (F2r, 183), (F2p, 184), (F2t, 164), (F26, 156), (F2, 185), (F0, 165), (F3, 186), (F1, 166), (Fb, 158), (Fx, 157), (Fw, 145), (F10, 121), (F1m, 120), (Fm, 140), (F6, 119), (Fj, 81), (F25, 146), (F22, 122), (Fa, 123), (F9, 82), (F1d, 35), (F2f, 167), (F2y, 187), (F2d, 168), (F29, 169), (F2m, 195), (F2j, 191), (F2h, 190), (F2b, 170), (F2w, 171), (F2o, 172), (F2s, 173), (F2q, 174), (F2u, 162), (F27, 151), (F17, 152), (F16, 139), (F14, 111), (F23, 138), (F20, 110), (Fq, 64), (F1l, 66), (Fg, 88), (Fe, 89), (Fh, 87), (Fi, 65), (F4, 27), (Fs, 57), (F5, 27), (F1n, 7)]
def tabF (f : Nat) : Option Fn := tab.lookup f
def numF (f : Nat) : Nat := (nums.lookup f).getD 0
theorem K0 : okAt Go.Proofs.Tryz.prog numF (numF F0) Z0 = true := by kernel_rfl
theorem K1 : okAt Go.Proofs.Tryz.prog numF (numF F1) Z1 = true := by kernel_rfl
theorem K2 : okAt Go.Proofs.Tryz.prog numF (numF F2) Z2 = true := by kernel_rfl
theorem K3 : okAt Go.Proofs.Tryz.prog numF (numF F3) Z3 = true := by kernel_rfl
theorem K4 : okAt Go.Proofs.Tryz.prog numF (numF F4) Z4 = true := by kernel_rfl
theorem K5 : okAt Go.Proofs.Tryz.prog numF (numF F5) Z5_w = true := by kernel_rfl
theorem K6 : okAt Go.Proofs.Tryz.prog numF (numF F6) Z6 = true := by kernel_rfl
theorem K7 : okAt Go.Proofs.Tryz.prog numF (numF F7) Z7 = true := by kernel_rfl
theorem K8 : okAt Go.Proofs.Tryz.prog numF (numF F8) Z8 = true := by kernel_rfl
theorem K9 : okAt Go.Proofs.Tryz.prog numF (numF F9) Z9 = true := by kernel_rfl
theorem Ka : okAt Go.Proofs.Tryz.prog numF (numF Fa) Za = true := by kernel_rfl
theorem Kb : okAt Go.Proofs.Tryz.prog numF (numF Fb) Zb = true := by kernel_rfl
theorem Kc : okAt Go.Proofs.Tryz.prog numF (numF Fc) Zc = true := by kernel_rfl
theorem Ke : okAt Go.Proofs.Tryz.prog numF (numF Fe) Ze = true := by kernel_rfl
theorem Kf : okAt Go.Proofs.Tryz.prog numF (numF Ff) Zf = true := by kernel_rfl
theorem Kg : okAt Go.Proofs.Tryz.prog numF (numF Fg) Zg = true := by kernel_rfl
theorem Kh : okAt Go.Proofs.Tryz.prog numF (numF Fh) Zh = true := by kernel_rfl
theorem Ki : okAt Go.Proofs.Tryz.prog numF (numF Fi) Zi = true := by kernel_rfl
theorem Kj : okAt Go.Proofs.Tryz.prog numF (numF Fj) Zj = true := by kernel_rfl
theorem Kk : okAt Go.Proofs.Tryz.prog numF (numF Fk) Zk = true := by kernel_rfl
theorem Kl : okAt Go.Proofs.Tryz.prog numF (numF Fl) Zl = true := by kernel_rfl
theorem Km : okAt Go.Proofs.Tryz.prog numF (numF Fm) Zm = true := by kernel_rfl
theorem Ko : okAt Go.Proofs.Tryz.prog numF (numF Fo) Zo = true := by kernel_rfl
theorem Kq : okAt Go.Proofs.Tryz.prog numF (numF Fq) Zq = true := by kernel_rfl
theorem Kr : okAt Go.Proofs.Tryz.prog numF (numF Fr) Zr = true := by kernel_rfl
theorem Ks : okAt Go.Proofs.Tryz.prog numF (numF Fs) Zs = true := by kernel_rfl
theorem Kt : okAt Go.Proofs.Tryz.prog numF (numF Ft) Zt = true := by kernel_rfl
theorem Ku : okAt Go.Proofs.Tryz.prog numF (numF Fu) Zu = true := by kernel_rfl
theorem Kv : okAt Go.Proofs.Tryz.prog numF (numF Fv) Zv = true := by kernel_rfl
theorem Kw : okAt Go.Proofs.Tryz.prog numF (numF Fw) Zw = true := by kernel_rfl
theorem Kx : okAt Go.Proofs.Tryz.prog numF (numF Fx) Zx = true := by kernel_rfl
theorem Ky : okAt Go.Proofs.Tryz.prog numF (numF Fy) Zy = true := by kernel_rfl
theorem Kz : okAt Go.Proofs.Tryz.prog numF (numF Fz) Zz = true := by kernel_rfl
theorem K10 : okAt Go.Proofs.Tryz.prog numF (numF F10) Z10 = true := by kernel_rfl
theorem K11 : okAt Go.Proofs.Tryz.prog numF (numF F11) Z11 = true := by kernel_rfl
theorem K12 : okAt Go.Proofs.Tryz.prog numF (numF F12) Z12 = true := by kernel_rfl
theorem K13 : okAt Go.Proofs.Tryz.prog numF (numF F13) Z13 = true := by kernel_rfl
theorem K14 : okAt Go.Proofs.Tryz.prog numF (numF F14) Z14 = true := by kernel_rfl
theorem K15 : okAt Go.Proofs.Tryz.prog numF (numF F15) Z15 = true := by kernel_rfl
theorem K16 : okAt Go.Proofs.Tryz.prog numF (numF F16) Z16 = true := by kernel_rfl
theorem K17 : okAt Go.Proofs.Tryz.prog numF (numF F17) Z17 = true := by kernel_rfl
theorem K18 : okAt Go.Proofs.Tryz.prog numF (numF F18) Z18 = true := by kernel_rfl
theorem K19 : okAt Go.Proofs.Tryz.prog numF (numF F19) Z19 = true := by kernel_rfl
theorem K1a : okAt Go.Proofs.Tryz.prog numF (numF F1a) Z1a = true := by kernel_rfl
theorem K1b : okAt Go.Proofs.Tryz.prog numF (numF F1b) Z1b = true := by kernel_rfl
theorem K1c : okAt Go.Proofs.Tryz.prog numF (numF F1c) Z1c = true := by kernel_rfl
theorem K1d : okAt Go.Proofs.Tryz.prog numF (numF F1d) Z1d = true := by kernel_rfl
theorem K1e : okAt Go.Proofs.Tryz.prog numF (numF F1e) Z1e = true := by kernel_rfl
theorem K1f : okAt Go.Proofs.Tryz.prog numF (numF F1f) Z1f = true := by kernel_rfl
theorem K1g : okAt Go.Proofs.Tryz.prog numF (numF F1g) Z1g = true := by kernel_rfl
theorem K1h : okAt Go.Proofs.Tryz.prog numF (numF F1h) Z1h = true := by kernel_rfl
theorem K1i : okAt Go.Proofs.Tryz.prog numF (numF F1i) Z1i = true := by kernel_rfl
theorem K1j : okAt Go.Proofs.Tryz.prog numF (numF F1j) Z1j = true := by kernel_rfl
theorem K1k : okAt Go.Proofs.Tryz.prog numF (numF F1k) Z1k = true := by kernel_rfl
theorem K1l : okAt Go.Proofs.Tryz.prog numF (numF F1l) Z1l = true := by kernel_rfl
theorem K1m : okAt Go.Proofs.Tryz.prog numF (numF F1m) Z1m = true := by kernel_rfl
theorem K1n : okAt Go.Proofs.Tryz.prog numF (numF F1n) Z1n = true := by kernel_rfl
theorem K1o : okAt Go.Proofs.Tryz.prog numF (numF F1o) Z1o = true := by kernel_rfl
theorem K1p : okAt Go.Proofs.Tryz.prog numF (numF F1p) Z1p = true := by kernel_rfl
theorem K1q : okAt Go.Proofs.Tryz.prog numF (numF F1q) Z1q = true := by kernel_rfl
theorem K1r : okAt Go.Proofs.Tryz.prog numF (numF F1r) Z1r = true := by kernel_rfl
theorem K1s : okAt Go.Proofs.Tryz.prog numF (numF F1s) Z1s = true := by kernel_rfl
theorem K1t : okAt Go.Proofs.Tryz.prog numF (numF F1t) Z1t = true := by kernel_rfl
theorem K1u : okAt Go.Proofs.Tryz.prog numF (numF F1u) Z1u = true := by kernel_rfl
theorem K1v : okAt Go.Proofs.Tryz.prog numF (numF F1v) Z1v = true := by kernel_rfl
theorem K1w : okAt Go.Proofs.Tryz.prog numF (numF F1w) Z1w = true := by kernel_rfl
theorem K1y : okAt Go.Proofs.Tryz.prog numF (numF F1y) Z1y = true := by kernel_rfl
theorem K20 : okAt Go.Proofs.Tryz.prog numF (numF F20) Z20 = true := by kernel_rfl
theorem K21 : okAt Go.Proofs.Tryz.prog numF (numF F21) Z21 = true := by kernel_rfl
theorem K22 : okAt Go.Proofs.Tryz.prog numF (numF F22) Z22 = true := by kernel_rfl
theorem K24 : okAt Go.Proofs.Tryz.prog numF (numF F24) Z24 = true := by kernel_rfl
theorem K25 : okAt Go.Proofs.Tryz.prog numF (numF F25) Z25 = true := by kernel_rfl
theorem K26 : okAt Go.Proofs.Tryz.prog numF (numF F26) Z26 = true := by kernel_rfl
theorem K27 : okAt Go.Proofs.Tryz.prog numF (numF F27) Z27 = true := by kernel_rfl
theorem K2e : okAt Go.Proofs.Tryz.prog numF (numF F2e) Z2e = true := by kernel_rfl
theorem K2f : okAt Go.Proofs.Tryz.prog numF (numF F2f) Z2f = true := by kernel_rfl
theorem K2t : okAt Go.Proofs.Tryz.prog numF (numF F2t) Z2t = true := by kernel_rfl
theorem K2u : okAt Go.Proofs.Tryz.prog numF (numF F2u) Z2u = true := by kernel_rfl
theorem K30 : okAt Go.Proofs.Tryz.prog numF (numF F30) Z30 = true := by kernel_rfl
theorem K31 : okAt Go.Proofs.Tryz.prog numF (numF F31) Z31 = true := by kernel_rfl
theorem K32 : okAt Go.Proofs.Tryz.prog numF (numF F32) Z32 = true := by kernel_rfl
theorem K33 : okAt Go.Proofs.Tryz.prog numF (numF F33) Z33 = true := by kernel_rfl
theorem K34 : okAt Go.Proofs.Tryz.prog numF (numF F34) Z34 = true := by kernel_rfl
theorem K35 : okAt Go.Proofs.Tryz.prog numF (numF F35) Z35 = true := by kernel_rfl
theorem K36 : okAt Go.Proofs.Tryz.prog numF (numF F36) Z36 = true := by kernel_rfl
theorem K37 : okAt Go.Proofs.Tryz.prog numF (numF F37) Z37 = true := by kernel_rfl
theorem K38 : okAt Go.Proofs.Tryz.prog numF (numF F38) Z38 = true := by kernel_rfl
theorem K39 : okAt Go.Proofs.Tryz.prog numF (numF F39) Z39 = true := by kernel_rfl
theorem K3a : okAt Go.Proofs.Tryz.prog numF (numF F3a) Z3a = true := by kernel_rfl
theorem K3b : okAt Go.Proofs.Tryz.prog numF (numF F3b) Z3b = true := by kernel_rfl
theorem K3c : okAt Go.Proofs.Tryz.prog numF (numF F3c) Z3c = true := by kernel_rfl
theorem K3d : okAt Go.Proofs.Tryz.prog numF (numF F3d) Z3d = true := by kernel_rfl
theorem K3e : okAt Go.Proofs.Tryz.prog numF (numF F3e) Z3e = true := by kernel_rfl
theorem K3f : okAt Go.Proofs.Tryz.prog numF (numF F3f) Z3f = true := by kernel_rfl
theorem K3g : okAt Go.Proofs.Tryz.prog numF (numF F3g) Z3g = true := by kernel_rfl
theorem K3h : okAt Go.Proofs.Tryz.prog numF (numF F3h) Z3h = true := by kernel_rfl
theorem K3i : okAt Go.Proofs.Tryz.prog numF (numF F3i) Z3i = true := by kernel_rfl
theorem K3j : okAt Go.Proofs.Tryz.prog numF (numF F3j) Z3j = true := by kernel_rfl
theorem K3k : okAt Go.Proofs.Tryz.prog numF (numF F3k) Z3k = true := by kernel_rfl
theorem K3l : okAt Go.Proofs.Tryz.prog numF (numF F3l) Z3l = true := by kernel_rfl
theorem K3m : okAt Go.Proofs.Tryz.prog numF (numF F3m) Z3m = true := by kernel_rfl
theorem K3n : okAt Go.Proofs.Tryz.prog numF (numF F3n) Z3n = true := by kernel_rfl
theorem K3o : okAt Go.Proofs.Tryz.prog numF (numF F3o) Z3o = true := by kernel_rfl
theorem K3p : okAt Go.Proofs.Tryz.prog numF (numF F3p) Z3p = true := by kernel_rfl
theorem K3q : okAt Go.Proofs.Tryz.prog numF (numF F3q) Z3q = true := by kernel_rfl
theorem K3r : okAt Go.Proofs.Tryz.prog numF (numF F3r) Z3r = true := by kernel_rfl
theorem K3s : okAt Go.Proofs.Tryz.prog numF (numF F3s) Z3s = true := by kernel_rfl
theorem tab_ok : ∀ f fn, tabF f = some fn → ∃ g, Go.Proofs.Tryz.prog.funcs[numF f]? = some g ∧ fnOk Go.Proofs.Tryz.prog numF fn g = true := tab_sound (l := tab) ⟨K0, K1, K2, K3, K4, K5, K6, K7, K8, K9, Ka, Kb, Kc, Ke, Kf, Kg, Kh, Ki, Kj, Kk, Kl, Km, Ko, Kq, Kr, Ks, Kt, Ku, Kv, Kw, Kx, Ky, Kz, K10, K11, K12, K13, K14, K15, K16, K17, K18, K19, K1a, K1b, K1c, K1d, K1e, K1f, K1g, K1h, K1i, K1j, K1k, K1l, K1m, K1n, K1o, K1p, K1q, K1r, K1s, K1t, K1u, K1v, K1w, K1y, K20, K21, K22, K24, K25, K26, K27, K2e, K2f, K2t, K2u, K30, K31, K32, K33, K34, K35, K36, K37, K38, K39, K3a, K3b, K3c, K3d, K3e, K3f, K3g, K3h, K3i, K3j, K3k, K3l, K3m, K3n, K3o, K3p, K3q, K3r, K3s, trivial⟩
def cloneIds (f : Nat) : Option (Sh × D × Nat) := if f = F1z then some (.leaf, .int .i64 0, 8) else none
theorem mixed : Go.Proofs.Tryz.prog.follows .mixedOrders = true := by kernel_rfl
theorem clones_ok : ∀ f s z bytes, cloneIds f = some (s, z, bytes) → Sh.beq s s = true ∧ ∃ g, Go.Proofs.Tryz.prog.funcs[numF f]? = some g ∧ fnOk Go.Proofs.Tryz.prog numF (cloneFn s z bytes) g = true ∧ (match g.body with | some x => cloneShape x | none => false) = true := by
 intro f s z bytes h
 unfold cloneIds at h
 split at h
 ·rename_i hf
  subst hf
  obtain ⟨rfl, rfl, rfl⟩ : Sh.leaf = s ∧ D.int .i64 0 = z ∧ 8 = bytes := by simpa using h
  refine ⟨rfl, ?_⟩
  have h1 : (match Go.Proofs.Tryz.prog.funcs[numF F1z]? with | some g => fnOk Go.Proofs.Tryz.prog numF (cloneFn .leaf (.int .i64 0) 8) g && (match g.body with | some x => cloneShape x | none => false) | none => false) = true := by kernel_rfl
  split at h1
  ·rename_i g hg
   simp only [Bool.and_eq_true] at h1
   exact ⟨g, hg, h1.1, h1.2⟩
  ·cases h1
 ·cases h
def growIds (f : Nat) : Option (Sh × D × Nat) := if f = F23 then some (.arr 64 .leaf, .arr 64 .leaf z64, 64) else none
theorem grows_ok : ∀ f s z bytes, growIds f = some (s, z, bytes) → Sh.beq s s = true ∧ ∃ g, Go.Proofs.Tryz.prog.funcs[numF f]? = some g ∧ fnOk Go.Proofs.Tryz.prog numF (growFn s) g = true ∧ (match g.body with | some x => growShape Go.Proofs.Tryz.prog numF s z bytes x | none => false) = true := by
 intro f s z bytes h
 unfold growIds at h
 split at h
 ·rename_i hf
  subst hf
  obtain ⟨rfl, rfl, rfl⟩ : Sh.arr 64 .leaf = s ∧ D.arr 64 .leaf z64 = z ∧ 64 = bytes := by simpa using h
  refine ⟨rfl, ?_⟩
  have h1 : (match Go.Proofs.Tryz.prog.funcs[numF F23]? with | some g => fnOk Go.Proofs.Tryz.prog numF (growFn (.arr 64 .leaf)) g && (match g.body with | some x => growShape Go.Proofs.Tryz.prog numF (.arr 64 .leaf) (.arr 64 .leaf z64) 64 x | none => false) | none => false) = true := by kernel_rfl
  split at h1
  ·rename_i g hg
   simp only [Bool.and_eq_true] at h1
   exact ⟨g, hg, h1.1, h1.2⟩
  ·cases h1
 ·cases h
theorem sound : CallOk Go.Proofs.Tryz.prog numF (den tabF (orA (cloneA cloneIds) (growA growIds))) := den_sound tab_ok (orA_sound (cloneA_sound mixed clones_ok) (growA_sound mixed grows_ok)) mixed
end Pe
