/-
  A part of the proof: an evaluator for a small form of the code, its soundness, and contracts of functions over it.
-/
import Derived.Test.YtjimapmmflhlaaaGreatW1
import Derived.Test.YtjimapmmflhlaaaGreatW2
import Derived.Test.YtjimapmmflhlaaaGreatW3
import Derived.Test.YtjimapmmflhlaaaGreatW4
import Derived.Test.YtjimapmmflhlaaaGreatW5
import Derived.Test.YtjimapmmflhlaaaGreatW6

namespace Pe
open Go Gq
variable {T : Nat → Option Fn} {A : Oracle}
theorem DrI.down {p : Int} {Q : List Int} {n m : Nat} (h : DrI p Q m) (hz : ∀ j, n ≤ j → j < m → cf Q j = 0) : DrI p Q n :=
 ⟨h.l, h.c, fun j hj => by
  rcases Nat.lt_or_ge j m with g | g
  ·exact hz j hj g
  ·exact h.z j g⟩
theorem l_sy {O : Oracle} {p : Int} [IsP p] {n : Nat} {b1 : Blk} : ∀ (r i : Nat) (Q : List Int), i + r = 4 → n ≤ i → DrI p Q 4 → (∀ j, n ≤ j → j < i → cf Q j = 0) → ∃ Q' : List Int, DrI p Q' n ∧
 dn O 0 (.loop Z1h_L0) ⟨[(3, (.d (.int .i64 p))), (5, .ptr 1 []), (39, .ptr 19 []), (40, (.d (.int .i64 ((n : Int))))), (41, (.d (.int .i64 ((i : Int)))))], [.hole, b1, .hole, .hole, .hole, .hole, .hole, .hole, .hole, .hole, .hole, .hole, .hole, .hole, .hole, .hole, .hole, .hole, .hole, .box false (D.arr 64 .leaf (ints .u8 Q)), .hole]⟩ =
  some (.exit 0, ⟨[(3, (.d (.int .i64 p))), (5, .ptr 1 []), (39, .ptr 19 []), (40, (.d (.int .i64 ((n : Int))))), (41, (.d (.int .i64 4))), (234, (.d (.bool false)))], [.hole, b1, .hole, .hole, .hole, .hole, .hole, .hole, .hole, .hole, .hole, .hole, .hole, .hole, .hole, .hole, .hole, .hole, .hole, .box false (D.arr 64 .leaf (ints .u8 Q')), .hole]⟩)
 | 0, i, Q, hi, hn, hQ, hz => by
  obtain rfl : i = 4 := by omega
  refine ⟨Q, hQ.down hz, dn_stop ?_⟩
  simp -implicitDefEqProofs [Z1h_L0, dn_cond]
 | r + 1, i, Q, hi, hn, hQ, hz => by
  have hp := IsP.ge (p := p)
  have w4 : IntKind.i64.wrap ((i : Int) + 1) = ((i + 1 : Nat) : Int) := (w64 (x := (i : Int) + 1) (by omega)).trans (by omega)
  have hlt : i < 4 := by omega
  have hlt' : (i : Int) < 4 := by omega
  have hiQ : i < Q.length := by rw [hQ.l]; omega
  have hi64 : i < 64 := by omega
  obtain ⟨Q', hQ', ih⟩ := l_sy (O := O) (n := n) (b1 := b1) r (i + 1) (Q.set i 0) (by omega) (by omega) (hQ.set (Int.le_refl 0) (by omega) hlt) (fun j h1 h2 => by
   rw [cf_set]
   split
   ·rfl
   ·exact hz j h1 (by omega))
  refine ⟨Q', hQ', dn_round ?_ ih⟩
  simp -implicitDefEqProofs [Z1h_L0, dn_cond, hlt, hlt', w4, hiQ, hi64]
theorem sy_rb (hT : T F1h = some Z1h) {p q cd : Int} {a m b k c l g u1 u2 u3 u4 v w code : List Int}
 (e0 : ask (den T A) F1i [.sl .leaf (ints .u8 code)] = some (D.bool false))
 (d1 : ask (den T A) F2b [.sl .leaf (ints .u8 code)] = some (.tup [(D.int .i64 p), (D.arr 64 .leaf (ints .u8 a)), (D.arr 64 .leaf (ints .u8 m))]))
 (s1 : ask (den T A) Fa [(D.int .i64 p), (D.arr 64 .leaf (ints .u8 a)), (D.arr 64 .leaf (ints .u8 m))] = some (.tup [(D.int .i64 0), (D.int .i64 cd)]))
 (s2 : ask (den T A) F2d [(D.int .i64 p), (D.arr 64 .leaf (ints .u8 a)), (D.arr 64 .leaf (ints .u8 m))] = some (.tup [(D.int .i64 0), (D.int .i64 cd)]))
 (cd0 : cd ≠ 0)
 (d2 : ask (den T A) F2a [.sl .leaf (ints .u8 code)] = some (.tup [(D.int .i64 q), (D.arr 64 .leaf (ints .u8 b)), (D.arr 64 .leaf (ints .u8 k)), (D.arr 64 .leaf (ints .u8 c)), (D.arr 64 .leaf (ints .u8 l))]))
 (r1 : ask (den T A) F9 [(D.int .i64 q), (D.arr 64 .leaf (ints .u8 b)), (D.arr 64 .leaf (ints .u8 k)), (D.arr 64 .leaf (ints .u8 c)), (D.arr 64 .leaf (ints .u8 l))] = some (.tup [(D.arr 64 .leaf (ints .u8 g)), (D.int .i64 0)]))
 (r2 : ask (den T A) F2c [(D.int .i64 q), (D.arr 64 .leaf (ints .u8 b)), (D.arr 64 .leaf (ints .u8 k)), (D.arr 64 .leaf (ints .u8 c)), (D.arr 64 .leaf (ints .u8 l))] = some (.tup [(D.arr 64 .leaf (ints .u8 g)), (D.int .i64 0)]))
 (q1 : D.beq (.arr 64 .leaf .int) (D.arr 64 .leaf (ints .u8 g)) (D.arr 64 .leaf (ints .u8 g)) = some true)
 (f1 : ask (den T A) F6 [(D.int .i64 q), (D.arr 64 .leaf (ints .u8 g)), (D.arr 64 .leaf (ints .u8 k))] = some (.tup [(D.arr 64 .leaf (ints .u8 u1)), (D.arr 64 .leaf (ints .u8 v)), (D.int .i64 0)]))
 (f2 : ask (den T A) F6 [(D.int .i64 q), (D.arr 64 .leaf (ints .u8 b)), (D.arr 64 .leaf (ints .u8 k))] = some (.tup [(D.arr 64 .leaf (ints .u8 u2)), (D.arr 64 .leaf (ints .u8 v)), (D.int .i64 0)]))
 (f3 : ask (den T A) F6 [(D.int .i64 q), (D.arr 64 .leaf (ints .u8 g)), (D.arr 64 .leaf (ints .u8 l))] = some (.tup [(D.arr 64 .leaf (ints .u8 u3)), (D.arr 64 .leaf (ints .u8 w)), (D.int .i64 0)]))
 (f4 : ask (den T A) F6 [(D.int .i64 q), (D.arr 64 .leaf (ints .u8 c)), (D.arr 64 .leaf (ints .u8 l))] = some (.tup [(D.arr 64 .leaf (ints .u8 u4)), (D.arr 64 .leaf (ints .u8 w)), (D.int .i64 0)]))
 (q2 : D.beq (.arr 64 .leaf .int) (D.arr 64 .leaf (ints .u8 v)) (D.arr 64 .leaf (ints .u8 v)) = some true)
 (q3 : D.beq (.arr 64 .leaf .int) (D.arr 64 .leaf (ints .u8 w)) (D.arr 64 .leaf (ints .u8 w)) = some true) : ask (den T A) F1h [.sl .leaf (ints .u8 code)] = some (D.bool true) := by
 refine ask_of hT rfl ?_
 simp -implicitDefEqProofs [Z1h, Z1h_B, dn_cond, e0, d1, s1, s2, cd0, d2, r1, r2, q1, f1, f2, f3, f4, q2, q3, List.replicate, List.idxOf, List.findIdx, List.findIdx.go]
theorem sy_xb (hT : T F1h = some Z1h) {p q ec cd : Int} {a m b k c l g code : List Int}
 (e0 : ask (den T A) F1i [.sl .leaf (ints .u8 code)] = some (D.bool false))
 (d1 : ask (den T A) F2b [.sl .leaf (ints .u8 code)] = some (.tup [(D.int .i64 p), (D.arr 64 .leaf (ints .u8 a)), (D.arr 64 .leaf (ints .u8 m))]))
 (s1 : ask (den T A) Fa [(D.int .i64 p), (D.arr 64 .leaf (ints .u8 a)), (D.arr 64 .leaf (ints .u8 m))] = some (.tup [(D.int .i64 0), (D.int .i64 cd)]))
 (s2 : ask (den T A) F2d [(D.int .i64 p), (D.arr 64 .leaf (ints .u8 a)), (D.arr 64 .leaf (ints .u8 m))] = some (.tup [(D.int .i64 0), (D.int .i64 cd)]))
 (cd0 : cd ≠ 0)
 (d2 : ask (den T A) F2a [.sl .leaf (ints .u8 code)] = some (.tup [(D.int .i64 q), (D.arr 64 .leaf (ints .u8 b)), (D.arr 64 .leaf (ints .u8 k)), (D.arr 64 .leaf (ints .u8 c)), (D.arr 64 .leaf (ints .u8 l))]))
 (r1 : ask (den T A) F9 [(D.int .i64 q), (D.arr 64 .leaf (ints .u8 b)), (D.arr 64 .leaf (ints .u8 k)), (D.arr 64 .leaf (ints .u8 c)), (D.arr 64 .leaf (ints .u8 l))] = some (.tup [(D.arr 64 .leaf (ints .u8 g)), (D.int .i64 ec)]))
 (r2 : ask (den T A) F2c [(D.int .i64 q), (D.arr 64 .leaf (ints .u8 b)), (D.arr 64 .leaf (ints .u8 k)), (D.arr 64 .leaf (ints .u8 c)), (D.arr 64 .leaf (ints .u8 l))] = some (.tup [(D.arr 64 .leaf (ints .u8 g)), (D.int .i64 ec)]))
 (q1 : D.beq (.arr 64 .leaf .int) (D.arr 64 .leaf (ints .u8 g)) (D.arr 64 .leaf (ints .u8 g)) = some true)
 (ec0 : ec ≠ 0) : ask (den T A) F1h [.sl .leaf (ints .u8 code)] = some (D.bool true) := by
 refine ask_of hT rfl ?_
 simp -implicitDefEqProofs [Z1h, Z1h_B, dn_cond, e0, d1, s1, s2, cd0, d2, r1, r2, q1, ec0, List.replicate, List.idxOf, List.findIdx, List.findIdx.go]
theorem sy_rg0 (hT : T F1h = some Z1h) {p q s o8 sx z dg h1 h2 h3 h4 : Int} {a m b k c l g u1 u2 u3 u4 v w X8 pr Y0 Y C1 C2 C3 C4 gc code : List Int} {a1 a2 a3 a4 n : Nat}
 (e0 : ask (den T A) F1i [.sl .leaf (ints .u8 code)] = some (D.bool false))
 (d1 : ask (den T A) F2b [.sl .leaf (ints .u8 code)] = some (.tup [(D.int .i64 p), (D.arr 64 .leaf (ints .u8 a)), (D.arr 64 .leaf (ints .u8 m))]))
 (s1 : ask (den T A) Fa [(D.int .i64 p), (D.arr 64 .leaf (ints .u8 a)), (D.arr 64 .leaf (ints .u8 m))] = some (.tup [(D.int .i64 s), (D.int .i64 0)]))
 (s2 : ask (den T A) F2d [(D.int .i64 p), (D.arr 64 .leaf (ints .u8 a)), (D.arr 64 .leaf (ints .u8 m))] = some (.tup [(D.int .i64 s), (D.int .i64 0)]))
 (d2 : ask (den T A) F2a [.sl .leaf (ints .u8 code)] = some (.tup [(D.int .i64 q), (D.arr 64 .leaf (ints .u8 b)), (D.arr 64 .leaf (ints .u8 k)), (D.arr 64 .leaf (ints .u8 c)), (D.arr 64 .leaf (ints .u8 l))]))
 (r1 : ask (den T A) F9 [(D.int .i64 q), (D.arr 64 .leaf (ints .u8 b)), (D.arr 64 .leaf (ints .u8 k)), (D.arr 64 .leaf (ints .u8 c)), (D.arr 64 .leaf (ints .u8 l))] = some (.tup [(D.arr 64 .leaf (ints .u8 g)), (D.int .i64 0)]))
 (r2 : ask (den T A) F2c [(D.int .i64 q), (D.arr 64 .leaf (ints .u8 b)), (D.arr 64 .leaf (ints .u8 k)), (D.arr 64 .leaf (ints .u8 c)), (D.arr 64 .leaf (ints .u8 l))] = some (.tup [(D.arr 64 .leaf (ints .u8 g)), (D.int .i64 0)]))
 (q1 : D.beq (.arr 64 .leaf .int) (D.arr 64 .leaf (ints .u8 g)) (D.arr 64 .leaf (ints .u8 g)) = some true)
 (f1 : ask (den T A) F6 [(D.int .i64 q), (D.arr 64 .leaf (ints .u8 g)), (D.arr 64 .leaf (ints .u8 k))] = some (.tup [(D.arr 64 .leaf (ints .u8 u1)), (D.arr 64 .leaf (ints .u8 v)), (D.int .i64 0)]))
 (f2 : ask (den T A) F6 [(D.int .i64 q), (D.arr 64 .leaf (ints .u8 b)), (D.arr 64 .leaf (ints .u8 k))] = some (.tup [(D.arr 64 .leaf (ints .u8 u2)), (D.arr 64 .leaf (ints .u8 v)), (D.int .i64 0)]))
 (f3 : ask (den T A) F6 [(D.int .i64 q), (D.arr 64 .leaf (ints .u8 g)), (D.arr 64 .leaf (ints .u8 l))] = some (.tup [(D.arr 64 .leaf (ints .u8 u3)), (D.arr 64 .leaf (ints .u8 w)), (D.int .i64 0)]))
 (f4 : ask (den T A) F6 [(D.int .i64 q), (D.arr 64 .leaf (ints .u8 c)), (D.arr 64 .leaf (ints .u8 l))] = some (.tup [(D.arr 64 .leaf (ints .u8 u4)), (D.arr 64 .leaf (ints .u8 w)), (D.int .i64 0)]))
 (q2 : D.beq (.arr 64 .leaf .int) (D.arr 64 .leaf (ints .u8 v)) (D.arr 64 .leaf (ints .u8 v)) = some true)
 (q3 : D.beq (.arr 64 .leaf .int) (D.arr 64 .leaf (ints .u8 w)) (D.arr 64 .leaf (ints .u8 w)) = some true)
 (h1c : den T A F1l [.d (.sl .leaf (ints .u8 code)), .d (.int .u64 9902)] [] = some (.ptr 0 [], [], [srcB C1 a1 h1]))
 (h2c : den T A F1k [.ptr 0 [], (.d (.int .i64 p)), (.d (.int .i64 3))] [srcB C1 a1 h1] = some (.d (D.arr 64 .leaf (ints .u8 X8)), [srcB C2 a2 h2], []))
 (s3 : ask (den T A) Fa [(D.int .i64 p), (D.arr 64 .leaf (ints .u8 X8)), (D.arr 64 .leaf (ints .u8 m))] = some (.tup [(D.int .i64 o8), (D.int .i64 0)]))
 (m1 : ask (den T A) F8 [(D.int .i64 p), (D.arr 64 .leaf (ints .u8 a)), (D.arr 64 .leaf (ints .u8 X8))] = some (.tup [(D.arr 64 .leaf (ints .u8 pr)), (D.int .i64 0)]))
 (s4 : ask (den T A) Fa [(D.int .i64 p), (D.arr 64 .leaf (ints .u8 pr)), (D.arr 64 .leaf (ints .u8 m))] = some (.tup [(D.int .i64 sx), (D.int .i64 0)]))
 (hp0 : p ≠ 0)
 (ww : IntKind.i64.wrap (s * o8) = s * o8)
 (hsx : sx = (s * o8).tmod p)
 (h3c : den T A F1k [.ptr 0 [], (.d (.int .i64 p)), (.d (.int .i64 2))] [srcB C2 a2 h2] = some (.d (D.arr 64 .leaf (ints .u8 Y0)), [srcB C3 a3 h3], []))
 (h4c : den T A F1j [.ptr 0 [], (.d (.int .i64 3))] [srcB C3 a3 h3] = some ((.d (.int .i64 z)), [srcB C4 a4 h4], []))
 (wz : IntKind.i64.wrap (1 + z) = (n : Int))
 (yl : Y0.length = 64)
 (n4 : n < 4)
 (yl2 : Y.length = 64)
 (lp : dn (den T A) 0 (.loop Z1h_L0) ⟨[(3, (.d (.int .i64 p))), (5, .ptr 1 []), (39, .ptr 19 []), (40, (.d (.int .i64 ((n : Int))))), (41, (.d (.int .i64 ((n : Int)))))], [.hole, .box false (D.arr 64 .leaf (ints .u8 m)), .hole, .hole, .hole, .hole, .hole, .hole, .hole, .hole, .hole, .hole, .hole, .hole, .hole, .hole, .hole, .hole, .hole, .box false (D.arr 64 .leaf (ints .u8 (Y0.set 3 0))), .hole]⟩ = some (.exit 0, ⟨[(3, (.d (.int .i64 p))), (5, .ptr 1 []), (39, .ptr 19 []), (40, (.d (.int .i64 ((n : Int))))), (41, (.d (.int .i64 4))), (234, (.d (.bool false)))], [.hole, .box false (D.arr 64 .leaf (ints .u8 m)), .hole, .hole, .hole, .hole, .hole, .hole, .hole, .hole, .hole, .hole, .hole, .hole, .hole, .hole, .hole, .hole, .hole, .box false (D.arr 64 .leaf (ints .u8 Y)), .hole]⟩))
 (dg1 : ask (den T A) F5 [(D.int .i64 p), (D.arr 64 .leaf (ints .u8 m))] = some (.tup [(D.int .i64 dg), (D.int .i64 0)]))
 (gc1 : ask (den T A) F7 [(D.int .i64 p), (D.arr 64 .leaf (ints .u8 (Y.set n 1))), (D.arr 64 .leaf (ints .u8 m))] = some (.tup [(D.arr 64 .leaf (ints .u8 gc)), (D.int .i64 0)]))
 (q7 : (pad [])[0]? = some 0)
 (q4 : D.beq (.arr 64 .leaf .int) (D.arr 64 .leaf (ints .u8 gc)) (D.arr 64 .leaf (ints .u8 ((pad []).set 0 1))) = some false) : ask (den T A) F1h [.sl .leaf (ints .u8 code)] = some (D.bool true) := by
 have n64 : n < 64 := by omega
 subst hsx
 refine ask_of hT rfl ?_
 simp -implicitDefEqProofs [Z1h, Z1h_B, dn_cond, e0, d1, s1, s2, d2, r1, r2, q1, f1, f2, f3, f4, q2, q3, h1c, h2c, s3, m1, s4, hp0, ww, h3c, h4c, wz, yl, n4, n64, yl2, lp, dg1, gc1, q7, q4, List.replicate, List.idxOf, List.findIdx, List.findIdx.go]
theorem sy_rg3 (hT : T F1h = some Z1h) {p q s o8 sx z dg h1 h2 h3 h4 : Int} {a m b k c l g u1 u2 u3 u4 v w X8 pr Y0 Y C1 C2 C3 C4 gc code : List Int} {a1 a2 a3 a4 n : Nat}
 (e0 : ask (den T A) F1i [.sl .leaf (ints .u8 code)] = some (D.bool false))
 (d1 : ask (den T A) F2b [.sl .leaf (ints .u8 code)] = some (.tup [(D.int .i64 p), (D.arr 64 .leaf (ints .u8 a)), (D.arr 64 .leaf (ints .u8 m))]))
 (s1 : ask (den T A) Fa [(D.int .i64 p), (D.arr 64 .leaf (ints .u8 a)), (D.arr 64 .leaf (ints .u8 m))] = some (.tup [(D.int .i64 s), (D.int .i64 0)]))
 (s2 : ask (den T A) F2d [(D.int .i64 p), (D.arr 64 .leaf (ints .u8 a)), (D.arr 64 .leaf (ints .u8 m))] = some (.tup [(D.int .i64 s), (D.int .i64 0)]))
 (d2 : ask (den T A) F2a [.sl .leaf (ints .u8 code)] = some (.tup [(D.int .i64 q), (D.arr 64 .leaf (ints .u8 b)), (D.arr 64 .leaf (ints .u8 k)), (D.arr 64 .leaf (ints .u8 c)), (D.arr 64 .leaf (ints .u8 l))]))
 (r1 : ask (den T A) F9 [(D.int .i64 q), (D.arr 64 .leaf (ints .u8 b)), (D.arr 64 .leaf (ints .u8 k)), (D.arr 64 .leaf (ints .u8 c)), (D.arr 64 .leaf (ints .u8 l))] = some (.tup [(D.arr 64 .leaf (ints .u8 g)), (D.int .i64 0)]))
 (r2 : ask (den T A) F2c [(D.int .i64 q), (D.arr 64 .leaf (ints .u8 b)), (D.arr 64 .leaf (ints .u8 k)), (D.arr 64 .leaf (ints .u8 c)), (D.arr 64 .leaf (ints .u8 l))] = some (.tup [(D.arr 64 .leaf (ints .u8 g)), (D.int .i64 0)]))
 (q1 : D.beq (.arr 64 .leaf .int) (D.arr 64 .leaf (ints .u8 g)) (D.arr 64 .leaf (ints .u8 g)) = some true)
 (f1 : ask (den T A) F6 [(D.int .i64 q), (D.arr 64 .leaf (ints .u8 g)), (D.arr 64 .leaf (ints .u8 k))] = some (.tup [(D.arr 64 .leaf (ints .u8 u1)), (D.arr 64 .leaf (ints .u8 v)), (D.int .i64 0)]))
 (f2 : ask (den T A) F6 [(D.int .i64 q), (D.arr 64 .leaf (ints .u8 b)), (D.arr 64 .leaf (ints .u8 k))] = some (.tup [(D.arr 64 .leaf (ints .u8 u2)), (D.arr 64 .leaf (ints .u8 v)), (D.int .i64 0)]))
 (f3 : ask (den T A) F6 [(D.int .i64 q), (D.arr 64 .leaf (ints .u8 g)), (D.arr 64 .leaf (ints .u8 l))] = some (.tup [(D.arr 64 .leaf (ints .u8 u3)), (D.arr 64 .leaf (ints .u8 w)), (D.int .i64 0)]))
 (f4 : ask (den T A) F6 [(D.int .i64 q), (D.arr 64 .leaf (ints .u8 c)), (D.arr 64 .leaf (ints .u8 l))] = some (.tup [(D.arr 64 .leaf (ints .u8 u4)), (D.arr 64 .leaf (ints .u8 w)), (D.int .i64 0)]))
 (q2 : D.beq (.arr 64 .leaf .int) (D.arr 64 .leaf (ints .u8 v)) (D.arr 64 .leaf (ints .u8 v)) = some true)
 (q3 : D.beq (.arr 64 .leaf .int) (D.arr 64 .leaf (ints .u8 w)) (D.arr 64 .leaf (ints .u8 w)) = some true)
 (h1c : den T A F1l [.d (.sl .leaf (ints .u8 code)), .d (.int .u64 9902)] [] = some (.ptr 0 [], [], [srcB C1 a1 h1]))
 (h2c : den T A F1k [.ptr 0 [], (.d (.int .i64 p)), (.d (.int .i64 3))] [srcB C1 a1 h1] = some (.d (D.arr 64 .leaf (ints .u8 X8)), [srcB C2 a2 h2], []))
 (s3 : ask (den T A) Fa [(D.int .i64 p), (D.arr 64 .leaf (ints .u8 X8)), (D.arr 64 .leaf (ints .u8 m))] = some (.tup [(D.int .i64 o8), (D.int .i64 0)]))
 (m1 : ask (den T A) F8 [(D.int .i64 p), (D.arr 64 .leaf (ints .u8 a)), (D.arr 64 .leaf (ints .u8 X8))] = some (.tup [(D.arr 64 .leaf (ints .u8 pr)), (D.int .i64 3)]))
 (s4 : ask (den T A) Fa [(D.int .i64 p), (D.arr 64 .leaf (ints .u8 pr)), (D.arr 64 .leaf (ints .u8 m))] = some (.tup [(D.int .i64 sx), (D.int .i64 0)]))
 (h3c : den T A F1k [.ptr 0 [], (.d (.int .i64 p)), (.d (.int .i64 2))] [srcB C2 a2 h2] = some (.d (D.arr 64 .leaf (ints .u8 Y0)), [srcB C3 a3 h3], []))
 (h4c : den T A F1j [.ptr 0 [], (.d (.int .i64 3))] [srcB C3 a3 h3] = some ((.d (.int .i64 z)), [srcB C4 a4 h4], []))
 (wz : IntKind.i64.wrap (1 + z) = (n : Int))
 (yl : Y0.length = 64)
 (n4 : n < 4)
 (yl2 : Y.length = 64)
 (lp : dn (den T A) 0 (.loop Z1h_L0) ⟨[(3, (.d (.int .i64 p))), (5, .ptr 1 []), (39, .ptr 19 []), (40, (.d (.int .i64 ((n : Int))))), (41, (.d (.int .i64 ((n : Int)))))], [.hole, .box false (D.arr 64 .leaf (ints .u8 m)), .hole, .hole, .hole, .hole, .hole, .hole, .hole, .hole, .hole, .hole, .hole, .hole, .hole, .hole, .hole, .hole, .hole, .box false (D.arr 64 .leaf (ints .u8 (Y0.set 3 0))), .hole]⟩ = some (.exit 0, ⟨[(3, (.d (.int .i64 p))), (5, .ptr 1 []), (39, .ptr 19 []), (40, (.d (.int .i64 ((n : Int))))), (41, (.d (.int .i64 4))), (234, (.d (.bool false)))], [.hole, .box false (D.arr 64 .leaf (ints .u8 m)), .hole, .hole, .hole, .hole, .hole, .hole, .hole, .hole, .hole, .hole, .hole, .hole, .hole, .hole, .hole, .hole, .hole, .box false (D.arr 64 .leaf (ints .u8 Y)), .hole]⟩))
 (dg1 : ask (den T A) F5 [(D.int .i64 p), (D.arr 64 .leaf (ints .u8 m))] = some (.tup [(D.int .i64 dg), (D.int .i64 0)]))
 (gc1 : ask (den T A) F7 [(D.int .i64 p), (D.arr 64 .leaf (ints .u8 (Y.set n 1))), (D.arr 64 .leaf (ints .u8 m))] = some (.tup [(D.arr 64 .leaf (ints .u8 gc)), (D.int .i64 0)]))
 (q7 : (pad [])[0]? = some 0)
 (q4 : D.beq (.arr 64 .leaf .int) (D.arr 64 .leaf (ints .u8 gc)) (D.arr 64 .leaf (ints .u8 ((pad []).set 0 1))) = some false) : ask (den T A) F1h [.sl .leaf (ints .u8 code)] = some (D.bool true) := by
 have n64 : n < 64 := by omega
 refine ask_of hT rfl ?_
 simp -implicitDefEqProofs [Z1h, Z1h_B, dn_cond, e0, d1, s1, s2, d2, r1, r2, q1, f1, f2, f3, f4, q2, q3, h1c, h2c, s3, m1, s4, h3c, h4c, wz, yl, n4, n64, yl2, lp, dg1, gc1, q7, q4, List.replicate, List.idxOf, List.findIdx, List.findIdx.go]
theorem sy_ro0 (hT : T F1h = some Z1h) {p q s o8 sx z dg h1 h2 h3 h4 s5 s6 : Int} {a m b k c l g u1 u2 u3 u4 v w X8 pr Y0 Y C1 C2 C3 C4 gc code : List Int} {a1 a2 a3 a4 n : Nat}
 (e0 : ask (den T A) F1i [.sl .leaf (ints .u8 code)] = some (D.bool false))
 (d1 : ask (den T A) F2b [.sl .leaf (ints .u8 code)] = some (.tup [(D.int .i64 p), (D.arr 64 .leaf (ints .u8 a)), (D.arr 64 .leaf (ints .u8 m))]))
 (s1 : ask (den T A) Fa [(D.int .i64 p), (D.arr 64 .leaf (ints .u8 a)), (D.arr 64 .leaf (ints .u8 m))] = some (.tup [(D.int .i64 s), (D.int .i64 0)]))
 (s2 : ask (den T A) F2d [(D.int .i64 p), (D.arr 64 .leaf (ints .u8 a)), (D.arr 64 .leaf (ints .u8 m))] = some (.tup [(D.int .i64 s), (D.int .i64 0)]))
 (d2 : ask (den T A) F2a [.sl .leaf (ints .u8 code)] = some (.tup [(D.int .i64 q), (D.arr 64 .leaf (ints .u8 b)), (D.arr 64 .leaf (ints .u8 k)), (D.arr 64 .leaf (ints .u8 c)), (D.arr 64 .leaf (ints .u8 l))]))
 (r1 : ask (den T A) F9 [(D.int .i64 q), (D.arr 64 .leaf (ints .u8 b)), (D.arr 64 .leaf (ints .u8 k)), (D.arr 64 .leaf (ints .u8 c)), (D.arr 64 .leaf (ints .u8 l))] = some (.tup [(D.arr 64 .leaf (ints .u8 g)), (D.int .i64 0)]))
 (r2 : ask (den T A) F2c [(D.int .i64 q), (D.arr 64 .leaf (ints .u8 b)), (D.arr 64 .leaf (ints .u8 k)), (D.arr 64 .leaf (ints .u8 c)), (D.arr 64 .leaf (ints .u8 l))] = some (.tup [(D.arr 64 .leaf (ints .u8 g)), (D.int .i64 0)]))
 (q1 : D.beq (.arr 64 .leaf .int) (D.arr 64 .leaf (ints .u8 g)) (D.arr 64 .leaf (ints .u8 g)) = some true)
 (f1 : ask (den T A) F6 [(D.int .i64 q), (D.arr 64 .leaf (ints .u8 g)), (D.arr 64 .leaf (ints .u8 k))] = some (.tup [(D.arr 64 .leaf (ints .u8 u1)), (D.arr 64 .leaf (ints .u8 v)), (D.int .i64 0)]))
 (f2 : ask (den T A) F6 [(D.int .i64 q), (D.arr 64 .leaf (ints .u8 b)), (D.arr 64 .leaf (ints .u8 k))] = some (.tup [(D.arr 64 .leaf (ints .u8 u2)), (D.arr 64 .leaf (ints .u8 v)), (D.int .i64 0)]))
 (f3 : ask (den T A) F6 [(D.int .i64 q), (D.arr 64 .leaf (ints .u8 g)), (D.arr 64 .leaf (ints .u8 l))] = some (.tup [(D.arr 64 .leaf (ints .u8 u3)), (D.arr 64 .leaf (ints .u8 w)), (D.int .i64 0)]))
 (f4 : ask (den T A) F6 [(D.int .i64 q), (D.arr 64 .leaf (ints .u8 c)), (D.arr 64 .leaf (ints .u8 l))] = some (.tup [(D.arr 64 .leaf (ints .u8 u4)), (D.arr 64 .leaf (ints .u8 w)), (D.int .i64 0)]))
 (q2 : D.beq (.arr 64 .leaf .int) (D.arr 64 .leaf (ints .u8 v)) (D.arr 64 .leaf (ints .u8 v)) = some true)
 (q3 : D.beq (.arr 64 .leaf .int) (D.arr 64 .leaf (ints .u8 w)) (D.arr 64 .leaf (ints .u8 w)) = some true)
 (h1c : den T A F1l [.d (.sl .leaf (ints .u8 code)), .d (.int .u64 9902)] [] = some (.ptr 0 [], [], [srcB C1 a1 h1]))
 (h2c : den T A F1k [.ptr 0 [], (.d (.int .i64 p)), (.d (.int .i64 3))] [srcB C1 a1 h1] = some (.d (D.arr 64 .leaf (ints .u8 X8)), [srcB C2 a2 h2], []))
 (s3 : ask (den T A) Fa [(D.int .i64 p), (D.arr 64 .leaf (ints .u8 X8)), (D.arr 64 .leaf (ints .u8 m))] = some (.tup [(D.int .i64 o8), (D.int .i64 0)]))
 (m1 : ask (den T A) F8 [(D.int .i64 p), (D.arr 64 .leaf (ints .u8 a)), (D.arr 64 .leaf (ints .u8 X8))] = some (.tup [(D.arr 64 .leaf (ints .u8 pr)), (D.int .i64 0)]))
 (s4 : ask (den T A) Fa [(D.int .i64 p), (D.arr 64 .leaf (ints .u8 pr)), (D.arr 64 .leaf (ints .u8 m))] = some (.tup [(D.int .i64 sx), (D.int .i64 0)]))
 (hp0 : p ≠ 0)
 (ww : IntKind.i64.wrap (s * o8) = s * o8)
 (hsx : sx = (s * o8).tmod p)
 (h3c : den T A F1k [.ptr 0 [], (.d (.int .i64 p)), (.d (.int .i64 2))] [srcB C2 a2 h2] = some (.d (D.arr 64 .leaf (ints .u8 Y0)), [srcB C3 a3 h3], []))
 (h4c : den T A F1j [.ptr 0 [], (.d (.int .i64 3))] [srcB C3 a3 h3] = some ((.d (.int .i64 z)), [srcB C4 a4 h4], []))
 (wz : IntKind.i64.wrap (1 + z) = (n : Int))
 (yl : Y0.length = 64)
 (n4 : n < 4)
 (yl2 : Y.length = 64)
 (lp : dn (den T A) 0 (.loop Z1h_L0) ⟨[(3, (.d (.int .i64 p))), (5, .ptr 1 []), (39, .ptr 19 []), (40, (.d (.int .i64 ((n : Int))))), (41, (.d (.int .i64 ((n : Int)))))], [.hole, .box false (D.arr 64 .leaf (ints .u8 m)), .hole, .hole, .hole, .hole, .hole, .hole, .hole, .hole, .hole, .hole, .hole, .hole, .hole, .hole, .hole, .hole, .hole, .box false (D.arr 64 .leaf (ints .u8 (Y0.set 3 0))), .hole]⟩ = some (.exit 0, ⟨[(3, (.d (.int .i64 p))), (5, .ptr 1 []), (39, .ptr 19 []), (40, (.d (.int .i64 ((n : Int))))), (41, (.d (.int .i64 4))), (234, (.d (.bool false)))], [.hole, .box false (D.arr 64 .leaf (ints .u8 m)), .hole, .hole, .hole, .hole, .hole, .hole, .hole, .hole, .hole, .hole, .hole, .hole, .hole, .hole, .hole, .hole, .hole, .box false (D.arr 64 .leaf (ints .u8 Y)), .hole]⟩))
 (dg1 : ask (den T A) F5 [(D.int .i64 p), (D.arr 64 .leaf (ints .u8 m))] = some (.tup [(D.int .i64 dg), (D.int .i64 0)]))
 (gc1 : ask (den T A) F7 [(D.int .i64 p), (D.arr 64 .leaf (ints .u8 (Y.set n 1))), (D.arr 64 .leaf (ints .u8 m))] = some (.tup [(D.arr 64 .leaf (ints .u8 gc)), (D.int .i64 0)]))
 (q7 : (pad [])[0]? = some 0)
 (q4 : D.beq (.arr 64 .leaf .int) (D.arr 64 .leaf (ints .u8 gc)) (D.arr 64 .leaf (ints .u8 ((pad []).set 0 1))) = some true)
 (s5h : ask (den T A) Fa [(D.int .i64 p), (D.arr 64 .leaf (ints .u8 (Y.set n 1))), (D.arr 64 .leaf (ints .u8 m))] = some (.tup [(D.int .i64 s5), (D.int .i64 0)]))
 (s6h : ask (den T A) Fa [(D.int .i64 p), (D.arr 64 .leaf (ints .u8 m)), (D.arr 64 .leaf (ints .u8 (Y.set n 1)))] = some (.tup [(D.int .i64 s6), (D.int .i64 0)]))
 (par : dg.tmod 2 = 1)
 (par2 : (n : Int).tmod 2 = 1)
 (wd : IntKind.i64.wrap (p - s6) = p - s6)
 (fin : s5 = (p - s6).tmod p) : ask (den T A) F1h [.sl .leaf (ints .u8 code)] = some (D.bool true) := by
 have n64 : n < 64 := by omega
 subst hsx
 refine ask_of hT rfl ?_
 simp -implicitDefEqProofs [Z1h, Z1h_B, dn_cond, e0, d1, s1, s2, d2, r1, r2, q1, f1, f2, f3, f4, q2, q3, h1c, h2c, s3, m1, s4, hp0, ww, h3c, h4c, wz, yl, n4, n64, yl2, lp, dg1, gc1, q7, q4, s5h, s6h, par, par2, wd, fin, List.replicate, List.idxOf, List.findIdx, List.findIdx.go]
theorem sy_ro3 (hT : T F1h = some Z1h) {p q s o8 sx z dg h1 h2 h3 h4 s5 s6 : Int} {a m b k c l g u1 u2 u3 u4 v w X8 pr Y0 Y C1 C2 C3 C4 gc code : List Int} {a1 a2 a3 a4 n : Nat}
 (e0 : ask (den T A) F1i [.sl .leaf (ints .u8 code)] = some (D.bool false))
 (d1 : ask (den T A) F2b [.sl .leaf (ints .u8 code)] = some (.tup [(D.int .i64 p), (D.arr 64 .leaf (ints .u8 a)), (D.arr 64 .leaf (ints .u8 m))]))
 (s1 : ask (den T A) Fa [(D.int .i64 p), (D.arr 64 .leaf (ints .u8 a)), (D.arr 64 .leaf (ints .u8 m))] = some (.tup [(D.int .i64 s), (D.int .i64 0)]))
 (s2 : ask (den T A) F2d [(D.int .i64 p), (D.arr 64 .leaf (ints .u8 a)), (D.arr 64 .leaf (ints .u8 m))] = some (.tup [(D.int .i64 s), (D.int .i64 0)]))
 (d2 : ask (den T A) F2a [.sl .leaf (ints .u8 code)] = some (.tup [(D.int .i64 q), (D.arr 64 .leaf (ints .u8 b)), (D.arr 64 .leaf (ints .u8 k)), (D.arr 64 .leaf (ints .u8 c)), (D.arr 64 .leaf (ints .u8 l))]))
 (r1 : ask (den T A) F9 [(D.int .i64 q), (D.arr 64 .leaf (ints .u8 b)), (D.arr 64 .leaf (ints .u8 k)), (D.arr 64 .leaf (ints .u8 c)), (D.arr 64 .leaf (ints .u8 l))] = some (.tup [(D.arr 64 .leaf (ints .u8 g)), (D.int .i64 0)]))
 (r2 : ask (den T A) F2c [(D.int .i64 q), (D.arr 64 .leaf (ints .u8 b)), (D.arr 64 .leaf (ints .u8 k)), (D.arr 64 .leaf (ints .u8 c)), (D.arr 64 .leaf (ints .u8 l))] = some (.tup [(D.arr 64 .leaf (ints .u8 g)), (D.int .i64 0)]))
 (q1 : D.beq (.arr 64 .leaf .int) (D.arr 64 .leaf (ints .u8 g)) (D.arr 64 .leaf (ints .u8 g)) = some true)
 (f1 : ask (den T A) F6 [(D.int .i64 q), (D.arr 64 .leaf (ints .u8 g)), (D.arr 64 .leaf (ints .u8 k))] = some (.tup [(D.arr 64 .leaf (ints .u8 u1)), (D.arr 64 .leaf (ints .u8 v)), (D.int .i64 0)]))
 (f2 : ask (den T A) F6 [(D.int .i64 q), (D.arr 64 .leaf (ints .u8 b)), (D.arr 64 .leaf (ints .u8 k))] = some (.tup [(D.arr 64 .leaf (ints .u8 u2)), (D.arr 64 .leaf (ints .u8 v)), (D.int .i64 0)]))
 (f3 : ask (den T A) F6 [(D.int .i64 q), (D.arr 64 .leaf (ints .u8 g)), (D.arr 64 .leaf (ints .u8 l))] = some (.tup [(D.arr 64 .leaf (ints .u8 u3)), (D.arr 64 .leaf (ints .u8 w)), (D.int .i64 0)]))
 (f4 : ask (den T A) F6 [(D.int .i64 q), (D.arr 64 .leaf (ints .u8 c)), (D.arr 64 .leaf (ints .u8 l))] = some (.tup [(D.arr 64 .leaf (ints .u8 u4)), (D.arr 64 .leaf (ints .u8 w)), (D.int .i64 0)]))
 (q2 : D.beq (.arr 64 .leaf .int) (D.arr 64 .leaf (ints .u8 v)) (D.arr 64 .leaf (ints .u8 v)) = some true)
 (q3 : D.beq (.arr 64 .leaf .int) (D.arr 64 .leaf (ints .u8 w)) (D.arr 64 .leaf (ints .u8 w)) = some true)
 (h1c : den T A F1l [.d (.sl .leaf (ints .u8 code)), .d (.int .u64 9902)] [] = some (.ptr 0 [], [], [srcB C1 a1 h1]))
 (h2c : den T A F1k [.ptr 0 [], (.d (.int .i64 p)), (.d (.int .i64 3))] [srcB C1 a1 h1] = some (.d (D.arr 64 .leaf (ints .u8 X8)), [srcB C2 a2 h2], []))
 (s3 : ask (den T A) Fa [(D.int .i64 p), (D.arr 64 .leaf (ints .u8 X8)), (D.arr 64 .leaf (ints .u8 m))] = some (.tup [(D.int .i64 o8), (D.int .i64 0)]))
 (m1 : ask (den T A) F8 [(D.int .i64 p), (D.arr 64 .leaf (ints .u8 a)), (D.arr 64 .leaf (ints .u8 X8))] = some (.tup [(D.arr 64 .leaf (ints .u8 pr)), (D.int .i64 3)]))
 (s4 : ask (den T A) Fa [(D.int .i64 p), (D.arr 64 .leaf (ints .u8 pr)), (D.arr 64 .leaf (ints .u8 m))] = some (.tup [(D.int .i64 sx), (D.int .i64 0)]))
 (h3c : den T A F1k [.ptr 0 [], (.d (.int .i64 p)), (.d (.int .i64 2))] [srcB C2 a2 h2] = some (.d (D.arr 64 .leaf (ints .u8 Y0)), [srcB C3 a3 h3], []))
 (h4c : den T A F1j [.ptr 0 [], (.d (.int .i64 3))] [srcB C3 a3 h3] = some ((.d (.int .i64 z)), [srcB C4 a4 h4], []))
 (wz : IntKind.i64.wrap (1 + z) = (n : Int))
 (yl : Y0.length = 64)
 (n4 : n < 4)
 (yl2 : Y.length = 64)
 (lp : dn (den T A) 0 (.loop Z1h_L0) ⟨[(3, (.d (.int .i64 p))), (5, .ptr 1 []), (39, .ptr 19 []), (40, (.d (.int .i64 ((n : Int))))), (41, (.d (.int .i64 ((n : Int)))))], [.hole, .box false (D.arr 64 .leaf (ints .u8 m)), .hole, .hole, .hole, .hole, .hole, .hole, .hole, .hole, .hole, .hole, .hole, .hole, .hole, .hole, .hole, .hole, .hole, .box false (D.arr 64 .leaf (ints .u8 (Y0.set 3 0))), .hole]⟩ = some (.exit 0, ⟨[(3, (.d (.int .i64 p))), (5, .ptr 1 []), (39, .ptr 19 []), (40, (.d (.int .i64 ((n : Int))))), (41, (.d (.int .i64 4))), (234, (.d (.bool false)))], [.hole, .box false (D.arr 64 .leaf (ints .u8 m)), .hole, .hole, .hole, .hole, .hole, .hole, .hole, .hole, .hole, .hole, .hole, .hole, .hole, .hole, .hole, .hole, .hole, .box false (D.arr 64 .leaf (ints .u8 Y)), .hole]⟩))
 (dg1 : ask (den T A) F5 [(D.int .i64 p), (D.arr 64 .leaf (ints .u8 m))] = some (.tup [(D.int .i64 dg), (D.int .i64 0)]))
 (gc1 : ask (den T A) F7 [(D.int .i64 p), (D.arr 64 .leaf (ints .u8 (Y.set n 1))), (D.arr 64 .leaf (ints .u8 m))] = some (.tup [(D.arr 64 .leaf (ints .u8 gc)), (D.int .i64 0)]))
 (q7 : (pad [])[0]? = some 0)
 (q4 : D.beq (.arr 64 .leaf .int) (D.arr 64 .leaf (ints .u8 gc)) (D.arr 64 .leaf (ints .u8 ((pad []).set 0 1))) = some true)
 (s5h : ask (den T A) Fa [(D.int .i64 p), (D.arr 64 .leaf (ints .u8 (Y.set n 1))), (D.arr 64 .leaf (ints .u8 m))] = some (.tup [(D.int .i64 s5), (D.int .i64 0)]))
 (s6h : ask (den T A) Fa [(D.int .i64 p), (D.arr 64 .leaf (ints .u8 m)), (D.arr 64 .leaf (ints .u8 (Y.set n 1)))] = some (.tup [(D.int .i64 s6), (D.int .i64 0)]))
 (par : dg.tmod 2 = 1)
 (par2 : (n : Int).tmod 2 = 1)
 (hp0 : p ≠ 0)
 (wd : IntKind.i64.wrap (p - s6) = p - s6)
 (fin : s5 = (p - s6).tmod p) : ask (den T A) F1h [.sl .leaf (ints .u8 code)] = some (D.bool true) := by
 have n64 : n < 64 := by omega
 refine ask_of hT rfl ?_
 simp -implicitDefEqProofs [Z1h, Z1h_B, dn_cond, e0, d1, s1, s2, d2, r1, r2, q1, f1, f2, f3, f4, q2, q3, h1c, h2c, s3, m1, s4, h3c, h4c, wz, yl, n4, n64, yl2, lp, dg1, gc1, q7, q4, s5h, s6h, hp0, par, par2, wd, fin, List.replicate, List.idxOf, List.findIdx, List.findIdx.go]
theorem sy_re0 (hT : T F1h = some Z1h) {p q s o8 sx z dg h1 h2 h3 h4 s5 s6 : Int} {a m b k c l g u1 u2 u3 u4 v w X8 pr Y0 Y C1 C2 C3 C4 gc code : List Int} {a1 a2 a3 a4 n : Nat}
 (e0 : ask (den T A) F1i [.sl .leaf (ints .u8 code)] = some (D.bool false))
 (d1 : ask (den T A) F2b [.sl .leaf (ints .u8 code)] = some (.tup [(D.int .i64 p), (D.arr 64 .leaf (ints .u8 a)), (D.arr 64 .leaf (ints .u8 m))]))
 (s1 : ask (den T A) Fa [(D.int .i64 p), (D.arr 64 .leaf (ints .u8 a)), (D.arr 64 .leaf (ints .u8 m))] = some (.tup [(D.int .i64 s), (D.int .i64 0)]))
 (s2 : ask (den T A) F2d [(D.int .i64 p), (D.arr 64 .leaf (ints .u8 a)), (D.arr 64 .leaf (ints .u8 m))] = some (.tup [(D.int .i64 s), (D.int .i64 0)]))
 (d2 : ask (den T A) F2a [.sl .leaf (ints .u8 code)] = some (.tup [(D.int .i64 q), (D.arr 64 .leaf (ints .u8 b)), (D.arr 64 .leaf (ints .u8 k)), (D.arr 64 .leaf (ints .u8 c)), (D.arr 64 .leaf (ints .u8 l))]))
 (r1 : ask (den T A) F9 [(D.int .i64 q), (D.arr 64 .leaf (ints .u8 b)), (D.arr 64 .leaf (ints .u8 k)), (D.arr 64 .leaf (ints .u8 c)), (D.arr 64 .leaf (ints .u8 l))] = some (.tup [(D.arr 64 .leaf (ints .u8 g)), (D.int .i64 0)]))
 (r2 : ask (den T A) F2c [(D.int .i64 q), (D.arr 64 .leaf (ints .u8 b)), (D.arr 64 .leaf (ints .u8 k)), (D.arr 64 .leaf (ints .u8 c)), (D.arr 64 .leaf (ints .u8 l))] = some (.tup [(D.arr 64 .leaf (ints .u8 g)), (D.int .i64 0)]))
 (q1 : D.beq (.arr 64 .leaf .int) (D.arr 64 .leaf (ints .u8 g)) (D.arr 64 .leaf (ints .u8 g)) = some true)
 (f1 : ask (den T A) F6 [(D.int .i64 q), (D.arr 64 .leaf (ints .u8 g)), (D.arr 64 .leaf (ints .u8 k))] = some (.tup [(D.arr 64 .leaf (ints .u8 u1)), (D.arr 64 .leaf (ints .u8 v)), (D.int .i64 0)]))
 (f2 : ask (den T A) F6 [(D.int .i64 q), (D.arr 64 .leaf (ints .u8 b)), (D.arr 64 .leaf (ints .u8 k))] = some (.tup [(D.arr 64 .leaf (ints .u8 u2)), (D.arr 64 .leaf (ints .u8 v)), (D.int .i64 0)]))
 (f3 : ask (den T A) F6 [(D.int .i64 q), (D.arr 64 .leaf (ints .u8 g)), (D.arr 64 .leaf (ints .u8 l))] = some (.tup [(D.arr 64 .leaf (ints .u8 u3)), (D.arr 64 .leaf (ints .u8 w)), (D.int .i64 0)]))
 (f4 : ask (den T A) F6 [(D.int .i64 q), (D.arr 64 .leaf (ints .u8 c)), (D.arr 64 .leaf (ints .u8 l))] = some (.tup [(D.arr 64 .leaf (ints .u8 u4)), (D.arr 64 .leaf (ints .u8 w)), (D.int .i64 0)]))
 (q2 : D.beq (.arr 64 .leaf .int) (D.arr 64 .leaf (ints .u8 v)) (D.arr 64 .leaf (ints .u8 v)) = some true)
 (q3 : D.beq (.arr 64 .leaf .int) (D.arr 64 .leaf (ints .u8 w)) (D.arr 64 .leaf (ints .u8 w)) = some true)
 (h1c : den T A F1l [.d (.sl .leaf (ints .u8 code)), .d (.int .u64 9902)] [] = some (.ptr 0 [], [], [srcB C1 a1 h1]))
 (h2c : den T A F1k [.ptr 0 [], (.d (.int .i64 p)), (.d (.int .i64 3))] [srcB C1 a1 h1] = some (.d (D.arr 64 .leaf (ints .u8 X8)), [srcB C2 a2 h2], []))
 (s3 : ask (den T A) Fa [(D.int .i64 p), (D.arr 64 .leaf (ints .u8 X8)), (D.arr 64 .leaf (ints .u8 m))] = some (.tup [(D.int .i64 o8), (D.int .i64 0)]))
 (m1 : ask (den T A) F8 [(D.int .i64 p), (D.arr 64 .leaf (ints .u8 a)), (D.arr 64 .leaf (ints .u8 X8))] = some (.tup [(D.arr 64 .leaf (ints .u8 pr)), (D.int .i64 0)]))
 (s4 : ask (den T A) Fa [(D.int .i64 p), (D.arr 64 .leaf (ints .u8 pr)), (D.arr 64 .leaf (ints .u8 m))] = some (.tup [(D.int .i64 sx), (D.int .i64 0)]))
 (hp0 : p ≠ 0)
 (ww : IntKind.i64.wrap (s * o8) = s * o8)
 (hsx : sx = (s * o8).tmod p)
 (h3c : den T A F1k [.ptr 0 [], (.d (.int .i64 p)), (.d (.int .i64 2))] [srcB C2 a2 h2] = some (.d (D.arr 64 .leaf (ints .u8 Y0)), [srcB C3 a3 h3], []))
 (h4c : den T A F1j [.ptr 0 [], (.d (.int .i64 3))] [srcB C3 a3 h3] = some ((.d (.int .i64 z)), [srcB C4 a4 h4], []))
 (wz : IntKind.i64.wrap (1 + z) = (n : Int))
 (yl : Y0.length = 64)
 (n4 : n < 4)
 (yl2 : Y.length = 64)
 (lp : dn (den T A) 0 (.loop Z1h_L0) ⟨[(3, (.d (.int .i64 p))), (5, .ptr 1 []), (39, .ptr 19 []), (40, (.d (.int .i64 ((n : Int))))), (41, (.d (.int .i64 ((n : Int)))))], [.hole, .box false (D.arr 64 .leaf (ints .u8 m)), .hole, .hole, .hole, .hole, .hole, .hole, .hole, .hole, .hole, .hole, .hole, .hole, .hole, .hole, .hole, .hole, .hole, .box false (D.arr 64 .leaf (ints .u8 (Y0.set 3 0))), .hole]⟩ = some (.exit 0, ⟨[(3, (.d (.int .i64 p))), (5, .ptr 1 []), (39, .ptr 19 []), (40, (.d (.int .i64 ((n : Int))))), (41, (.d (.int .i64 4))), (234, (.d (.bool false)))], [.hole, .box false (D.arr 64 .leaf (ints .u8 m)), .hole, .hole, .hole, .hole, .hole, .hole, .hole, .hole, .hole, .hole, .hole, .hole, .hole, .hole, .hole, .hole, .hole, .box false (D.arr 64 .leaf (ints .u8 Y)), .hole]⟩))
 (dg1 : ask (den T A) F5 [(D.int .i64 p), (D.arr 64 .leaf (ints .u8 m))] = some (.tup [(D.int .i64 dg), (D.int .i64 0)]))
 (gc1 : ask (den T A) F7 [(D.int .i64 p), (D.arr 64 .leaf (ints .u8 (Y.set n 1))), (D.arr 64 .leaf (ints .u8 m))] = some (.tup [(D.arr 64 .leaf (ints .u8 gc)), (D.int .i64 0)]))
 (q7 : (pad [])[0]? = some 0)
 (q4 : D.beq (.arr 64 .leaf .int) (D.arr 64 .leaf (ints .u8 gc)) (D.arr 64 .leaf (ints .u8 ((pad []).set 0 1))) = some true)
 (s5h : ask (den T A) Fa [(D.int .i64 p), (D.arr 64 .leaf (ints .u8 (Y.set n 1))), (D.arr 64 .leaf (ints .u8 m))] = some (.tup [(D.int .i64 s5), (D.int .i64 0)]))
 (s6h : ask (den T A) Fa [(D.int .i64 p), (D.arr 64 .leaf (ints .u8 m)), (D.arr 64 .leaf (ints .u8 (Y.set n 1)))] = some (.tup [(D.int .i64 s6), (D.int .i64 0)]))
 (par : ¬ (dg.tmod 2 = 1 ∧ (n : Int).tmod 2 = 1))
 (fin : s5 = s6) : ask (den T A) F1h [.sl .leaf (ints .u8 code)] = some (D.bool true) := by
 have n64 : n < 64 := by omega
 subst hsx
 by_cases g1 : dg.tmod 2 = 1
 ·have g2 : ¬ (n : Int).tmod 2 = 1 := fun h => par ⟨g1, h⟩
  refine ask_of hT rfl ?_
  simp -implicitDefEqProofs [Z1h, Z1h_B, dn_cond, e0, d1, s1, s2, d2, r1, r2, q1, f1, f2, f3, f4, q2, q3, h1c, h2c, s3, m1, s4, hp0, ww, h3c, h4c, wz, yl, n4, n64, yl2, lp, dg1, gc1, q7, q4, s5h, s6h, fin, g1, g2, List.replicate, List.idxOf, List.findIdx, List.findIdx.go]
 ·refine ask_of hT rfl ?_
  simp -implicitDefEqProofs [Z1h, Z1h_B, dn_cond, e0, d1, s1, s2, d2, r1, r2, q1, f1, f2, f3, f4, q2, q3, h1c, h2c, s3, m1, s4, hp0, ww, h3c, h4c, wz, yl, n4, n64, yl2, lp, dg1, gc1, q7, q4, s5h, s6h, fin, g1, List.replicate, List.idxOf, List.findIdx, List.findIdx.go]
theorem sy_re3 (hT : T F1h = some Z1h) {p q s o8 sx z dg h1 h2 h3 h4 s5 s6 : Int} {a m b k c l g u1 u2 u3 u4 v w X8 pr Y0 Y C1 C2 C3 C4 gc code : List Int} {a1 a2 a3 a4 n : Nat}
 (e0 : ask (den T A) F1i [.sl .leaf (ints .u8 code)] = some (D.bool false))
 (d1 : ask (den T A) F2b [.sl .leaf (ints .u8 code)] = some (.tup [(D.int .i64 p), (D.arr 64 .leaf (ints .u8 a)), (D.arr 64 .leaf (ints .u8 m))]))
 (s1 : ask (den T A) Fa [(D.int .i64 p), (D.arr 64 .leaf (ints .u8 a)), (D.arr 64 .leaf (ints .u8 m))] = some (.tup [(D.int .i64 s), (D.int .i64 0)]))
 (s2 : ask (den T A) F2d [(D.int .i64 p), (D.arr 64 .leaf (ints .u8 a)), (D.arr 64 .leaf (ints .u8 m))] = some (.tup [(D.int .i64 s), (D.int .i64 0)]))
 (d2 : ask (den T A) F2a [.sl .leaf (ints .u8 code)] = some (.tup [(D.int .i64 q), (D.arr 64 .leaf (ints .u8 b)), (D.arr 64 .leaf (ints .u8 k)), (D.arr 64 .leaf (ints .u8 c)), (D.arr 64 .leaf (ints .u8 l))]))
 (r1 : ask (den T A) F9 [(D.int .i64 q), (D.arr 64 .leaf (ints .u8 b)), (D.arr 64 .leaf (ints .u8 k)), (D.arr 64 .leaf (ints .u8 c)), (D.arr 64 .leaf (ints .u8 l))] = some (.tup [(D.arr 64 .leaf (ints .u8 g)), (D.int .i64 0)]))
 (r2 : ask (den T A) F2c [(D.int .i64 q), (D.arr 64 .leaf (ints .u8 b)), (D.arr 64 .leaf (ints .u8 k)), (D.arr 64 .leaf (ints .u8 c)), (D.arr 64 .leaf (ints .u8 l))] = some (.tup [(D.arr 64 .leaf (ints .u8 g)), (D.int .i64 0)]))
 (q1 : D.beq (.arr 64 .leaf .int) (D.arr 64 .leaf (ints .u8 g)) (D.arr 64 .leaf (ints .u8 g)) = some true)
 (f1 : ask (den T A) F6 [(D.int .i64 q), (D.arr 64 .leaf (ints .u8 g)), (D.arr 64 .leaf (ints .u8 k))] = some (.tup [(D.arr 64 .leaf (ints .u8 u1)), (D.arr 64 .leaf (ints .u8 v)), (D.int .i64 0)]))
 (f2 : ask (den T A) F6 [(D.int .i64 q), (D.arr 64 .leaf (ints .u8 b)), (D.arr 64 .leaf (ints .u8 k))] = some (.tup [(D.arr 64 .leaf (ints .u8 u2)), (D.arr 64 .leaf (ints .u8 v)), (D.int .i64 0)]))
 (f3 : ask (den T A) F6 [(D.int .i64 q), (D.arr 64 .leaf (ints .u8 g)), (D.arr 64 .leaf (ints .u8 l))] = some (.tup [(D.arr 64 .leaf (ints .u8 u3)), (D.arr 64 .leaf (ints .u8 w)), (D.int .i64 0)]))
 (f4 : ask (den T A) F6 [(D.int .i64 q), (D.arr 64 .leaf (ints .u8 c)), (D.arr 64 .leaf (ints .u8 l))] = some (.tup [(D.arr 64 .leaf (ints .u8 u4)), (D.arr 64 .leaf (ints .u8 w)), (D.int .i64 0)]))
 (q2 : D.beq (.arr 64 .leaf .int) (D.arr 64 .leaf (ints .u8 v)) (D.arr 64 .leaf (ints .u8 v)) = some true)
 (q3 : D.beq (.arr 64 .leaf .int) (D.arr 64 .leaf (ints .u8 w)) (D.arr 64 .leaf (ints .u8 w)) = some true)
 (h1c : den T A F1l [.d (.sl .leaf (ints .u8 code)), .d (.int .u64 9902)] [] = some (.ptr 0 [], [], [srcB C1 a1 h1]))
 (h2c : den T A F1k [.ptr 0 [], (.d (.int .i64 p)), (.d (.int .i64 3))] [srcB C1 a1 h1] = some (.d (D.arr 64 .leaf (ints .u8 X8)), [srcB C2 a2 h2], []))
 (s3 : ask (den T A) Fa [(D.int .i64 p), (D.arr 64 .leaf (ints .u8 X8)), (D.arr 64 .leaf (ints .u8 m))] = some (.tup [(D.int .i64 o8), (D.int .i64 0)]))
 (m1 : ask (den T A) F8 [(D.int .i64 p), (D.arr 64 .leaf (ints .u8 a)), (D.arr 64 .leaf (ints .u8 X8))] = some (.tup [(D.arr 64 .leaf (ints .u8 pr)), (D.int .i64 3)]))
 (s4 : ask (den T A) Fa [(D.int .i64 p), (D.arr 64 .leaf (ints .u8 pr)), (D.arr 64 .leaf (ints .u8 m))] = some (.tup [(D.int .i64 sx), (D.int .i64 0)]))
 (h3c : den T A F1k [.ptr 0 [], (.d (.int .i64 p)), (.d (.int .i64 2))] [srcB C2 a2 h2] = some (.d (D.arr 64 .leaf (ints .u8 Y0)), [srcB C3 a3 h3], []))
 (h4c : den T A F1j [.ptr 0 [], (.d (.int .i64 3))] [srcB C3 a3 h3] = some ((.d (.int .i64 z)), [srcB C4 a4 h4], []))
 (wz : IntKind.i64.wrap (1 + z) = (n : Int))
 (yl : Y0.length = 64)
 (n4 : n < 4)
 (yl2 : Y.length = 64)
 (lp : dn (den T A) 0 (.loop Z1h_L0) ⟨[(3, (.d (.int .i64 p))), (5, .ptr 1 []), (39, .ptr 19 []), (40, (.d (.int .i64 ((n : Int))))), (41, (.d (.int .i64 ((n : Int)))))], [.hole, .box false (D.arr 64 .leaf (ints .u8 m)), .hole, .hole, .hole, .hole, .hole, .hole, .hole, .hole, .hole, .hole, .hole, .hole, .hole, .hole, .hole, .hole, .hole, .box false (D.arr 64 .leaf (ints .u8 (Y0.set 3 0))), .hole]⟩ = some (.exit 0, ⟨[(3, (.d (.int .i64 p))), (5, .ptr 1 []), (39, .ptr 19 []), (40, (.d (.int .i64 ((n : Int))))), (41, (.d (.int .i64 4))), (234, (.d (.bool false)))], [.hole, .box false (D.arr 64 .leaf (ints .u8 m)), .hole, .hole, .hole, .hole, .hole, .hole, .hole, .hole, .hole, .hole, .hole, .hole, .hole, .hole, .hole, .hole, .hole, .box false (D.arr 64 .leaf (ints .u8 Y)), .hole]⟩))
 (dg1 : ask (den T A) F5 [(D.int .i64 p), (D.arr 64 .leaf (ints .u8 m))] = some (.tup [(D.int .i64 dg), (D.int .i64 0)]))
 (gc1 : ask (den T A) F7 [(D.int .i64 p), (D.arr 64 .leaf (ints .u8 (Y.set n 1))), (D.arr 64 .leaf (ints .u8 m))] = some (.tup [(D.arr 64 .leaf (ints .u8 gc)), (D.int .i64 0)]))
 (q7 : (pad [])[0]? = some 0)
 (q4 : D.beq (.arr 64 .leaf .int) (D.arr 64 .leaf (ints .u8 gc)) (D.arr 64 .leaf (ints .u8 ((pad []).set 0 1))) = some true)
 (s5h : ask (den T A) Fa [(D.int .i64 p), (D.arr 64 .leaf (ints .u8 (Y.set n 1))), (D.arr 64 .leaf (ints .u8 m))] = some (.tup [(D.int .i64 s5), (D.int .i64 0)]))
 (s6h : ask (den T A) Fa [(D.int .i64 p), (D.arr 64 .leaf (ints .u8 m)), (D.arr 64 .leaf (ints .u8 (Y.set n 1)))] = some (.tup [(D.int .i64 s6), (D.int .i64 0)]))
 (par : ¬ (dg.tmod 2 = 1 ∧ (n : Int).tmod 2 = 1))
 (fin : s5 = s6) : ask (den T A) F1h [.sl .leaf (ints .u8 code)] = some (D.bool true) := by
 have n64 : n < 64 := by omega
 by_cases g1 : dg.tmod 2 = 1
 ·have g2 : ¬ (n : Int).tmod 2 = 1 := fun h => par ⟨g1, h⟩
  refine ask_of hT rfl ?_
  simp -implicitDefEqProofs [Z1h, Z1h_B, dn_cond, e0, d1, s1, s2, d2, r1, r2, q1, f1, f2, f3, f4, q2, q3, h1c, h2c, s3, m1, s4, h3c, h4c, wz, yl, n4, n64, yl2, lp, dg1, gc1, q7, q4, s5h, s6h, fin, g1, g2, List.replicate, List.idxOf, List.findIdx, List.findIdx.go]
 ·refine ask_of hT rfl ?_
  simp -implicitDefEqProofs [Z1h, Z1h_B, dn_cond, e0, d1, s1, s2, d2, r1, r2, q1, f1, f2, f3, f4, q2, q3, h1c, h2c, s3, m1, s4, h3c, h4c, wz, yl, n4, n64, yl2, lp, dg1, gc1, q7, q4, s5h, s6h, fin, g1, List.replicate, List.idxOf, List.findIdx, List.findIdx.go]
theorem sy_xg0 (hT : T F1h = some Z1h) {p q s ec o8 sx z dg h1 h2 h3 h4 : Int} {a m b k c l g X8 pr Y0 Y C1 C2 C3 C4 gc code : List Int} {a1 a2 a3 a4 n : Nat}
 (e0 : ask (den T A) F1i [.sl .leaf (ints .u8 code)] = some (D.bool false))
 (d1 : ask (den T A) F2b [.sl .leaf (ints .u8 code)] = some (.tup [(D.int .i64 p), (D.arr 64 .leaf (ints .u8 a)), (D.arr 64 .leaf (ints .u8 m))]))
 (s1 : ask (den T A) Fa [(D.int .i64 p), (D.arr 64 .leaf (ints .u8 a)), (D.arr 64 .leaf (ints .u8 m))] = some (.tup [(D.int .i64 s), (D.int .i64 0)]))
 (s2 : ask (den T A) F2d [(D.int .i64 p), (D.arr 64 .leaf (ints .u8 a)), (D.arr 64 .leaf (ints .u8 m))] = some (.tup [(D.int .i64 s), (D.int .i64 0)]))
 (d2 : ask (den T A) F2a [.sl .leaf (ints .u8 code)] = some (.tup [(D.int .i64 q), (D.arr 64 .leaf (ints .u8 b)), (D.arr 64 .leaf (ints .u8 k)), (D.arr 64 .leaf (ints .u8 c)), (D.arr 64 .leaf (ints .u8 l))]))
 (r1 : ask (den T A) F9 [(D.int .i64 q), (D.arr 64 .leaf (ints .u8 b)), (D.arr 64 .leaf (ints .u8 k)), (D.arr 64 .leaf (ints .u8 c)), (D.arr 64 .leaf (ints .u8 l))] = some (.tup [(D.arr 64 .leaf (ints .u8 g)), (D.int .i64 ec)]))
 (r2 : ask (den T A) F2c [(D.int .i64 q), (D.arr 64 .leaf (ints .u8 b)), (D.arr 64 .leaf (ints .u8 k)), (D.arr 64 .leaf (ints .u8 c)), (D.arr 64 .leaf (ints .u8 l))] = some (.tup [(D.arr 64 .leaf (ints .u8 g)), (D.int .i64 ec)]))
 (q1 : D.beq (.arr 64 .leaf .int) (D.arr 64 .leaf (ints .u8 g)) (D.arr 64 .leaf (ints .u8 g)) = some true)
 (ec0 : ec ≠ 0)
 (h1c : den T A F1l [.d (.sl .leaf (ints .u8 code)), .d (.int .u64 9902)] [] = some (.ptr 0 [], [], [srcB C1 a1 h1]))
 (h2c : den T A F1k [.ptr 0 [], (.d (.int .i64 p)), (.d (.int .i64 3))] [srcB C1 a1 h1] = some (.d (D.arr 64 .leaf (ints .u8 X8)), [srcB C2 a2 h2], []))
 (s3 : ask (den T A) Fa [(D.int .i64 p), (D.arr 64 .leaf (ints .u8 X8)), (D.arr 64 .leaf (ints .u8 m))] = some (.tup [(D.int .i64 o8), (D.int .i64 0)]))
 (m1 : ask (den T A) F8 [(D.int .i64 p), (D.arr 64 .leaf (ints .u8 a)), (D.arr 64 .leaf (ints .u8 X8))] = some (.tup [(D.arr 64 .leaf (ints .u8 pr)), (D.int .i64 0)]))
 (s4 : ask (den T A) Fa [(D.int .i64 p), (D.arr 64 .leaf (ints .u8 pr)), (D.arr 64 .leaf (ints .u8 m))] = some (.tup [(D.int .i64 sx), (D.int .i64 0)]))
 (hp0 : p ≠ 0)
 (ww : IntKind.i64.wrap (s * o8) = s * o8)
 (hsx : sx = (s * o8).tmod p)
 (h3c : den T A F1k [.ptr 0 [], (.d (.int .i64 p)), (.d (.int .i64 2))] [srcB C2 a2 h2] = some (.d (D.arr 64 .leaf (ints .u8 Y0)), [srcB C3 a3 h3], []))
 (h4c : den T A F1j [.ptr 0 [], (.d (.int .i64 3))] [srcB C3 a3 h3] = some ((.d (.int .i64 z)), [srcB C4 a4 h4], []))
 (wz : IntKind.i64.wrap (1 + z) = (n : Int))
 (yl : Y0.length = 64)
 (n4 : n < 4)
 (yl2 : Y.length = 64)
 (lp : dn (den T A) 0 (.loop Z1h_L0) ⟨[(3, (.d (.int .i64 p))), (5, .ptr 1 []), (39, .ptr 19 []), (40, (.d (.int .i64 ((n : Int))))), (41, (.d (.int .i64 ((n : Int)))))], [.hole, .box false (D.arr 64 .leaf (ints .u8 m)), .hole, .hole, .hole, .hole, .hole, .hole, .hole, .hole, .hole, .hole, .hole, .hole, .hole, .hole, .hole, .hole, .hole, .box false (D.arr 64 .leaf (ints .u8 (Y0.set 3 0))), .hole]⟩ = some (.exit 0, ⟨[(3, (.d (.int .i64 p))), (5, .ptr 1 []), (39, .ptr 19 []), (40, (.d (.int .i64 ((n : Int))))), (41, (.d (.int .i64 4))), (234, (.d (.bool false)))], [.hole, .box false (D.arr 64 .leaf (ints .u8 m)), .hole, .hole, .hole, .hole, .hole, .hole, .hole, .hole, .hole, .hole, .hole, .hole, .hole, .hole, .hole, .hole, .hole, .box false (D.arr 64 .leaf (ints .u8 Y)), .hole]⟩))
 (dg1 : ask (den T A) F5 [(D.int .i64 p), (D.arr 64 .leaf (ints .u8 m))] = some (.tup [(D.int .i64 dg), (D.int .i64 0)]))
 (gc1 : ask (den T A) F7 [(D.int .i64 p), (D.arr 64 .leaf (ints .u8 (Y.set n 1))), (D.arr 64 .leaf (ints .u8 m))] = some (.tup [(D.arr 64 .leaf (ints .u8 gc)), (D.int .i64 0)]))
 (q7 : (pad [])[0]? = some 0)
 (q4 : D.beq (.arr 64 .leaf .int) (D.arr 64 .leaf (ints .u8 gc)) (D.arr 64 .leaf (ints .u8 ((pad []).set 0 1))) = some false) : ask (den T A) F1h [.sl .leaf (ints .u8 code)] = some (D.bool true) := by
 have n64 : n < 64 := by omega
 subst hsx
 refine ask_of hT rfl ?_
 simp -implicitDefEqProofs [Z1h, Z1h_B, dn_cond, e0, d1, s1, s2, d2, r1, r2, q1, ec0, h1c, h2c, s3, m1, s4, hp0, ww, h3c, h4c, wz, yl, n4, n64, yl2, lp, dg1, gc1, q7, q4, List.replicate, List.idxOf, List.findIdx, List.findIdx.go]
theorem sy_xg3 (hT : T F1h = some Z1h) {p q s ec o8 sx z dg h1 h2 h3 h4 : Int} {a m b k c l g X8 pr Y0 Y C1 C2 C3 C4 gc code : List Int} {a1 a2 a3 a4 n : Nat}
 (e0 : ask (den T A) F1i [.sl .leaf (ints .u8 code)] = some (D.bool false))
 (d1 : ask (den T A) F2b [.sl .leaf (ints .u8 code)] = some (.tup [(D.int .i64 p), (D.arr 64 .leaf (ints .u8 a)), (D.arr 64 .leaf (ints .u8 m))]))
 (s1 : ask (den T A) Fa [(D.int .i64 p), (D.arr 64 .leaf (ints .u8 a)), (D.arr 64 .leaf (ints .u8 m))] = some (.tup [(D.int .i64 s), (D.int .i64 0)]))
 (s2 : ask (den T A) F2d [(D.int .i64 p), (D.arr 64 .leaf (ints .u8 a)), (D.arr 64 .leaf (ints .u8 m))] = some (.tup [(D.int .i64 s), (D.int .i64 0)]))
 (d2 : ask (den T A) F2a [.sl .leaf (ints .u8 code)] = some (.tup [(D.int .i64 q), (D.arr 64 .leaf (ints .u8 b)), (D.arr 64 .leaf (ints .u8 k)), (D.arr 64 .leaf (ints .u8 c)), (D.arr 64 .leaf (ints .u8 l))]))
 (r1 : ask (den T A) F9 [(D.int .i64 q), (D.arr 64 .leaf (ints .u8 b)), (D.arr 64 .leaf (ints .u8 k)), (D.arr 64 .leaf (ints .u8 c)), (D.arr 64 .leaf (ints .u8 l))] = some (.tup [(D.arr 64 .leaf (ints .u8 g)), (D.int .i64 ec)]))
 (r2 : ask (den T A) F2c [(D.int .i64 q), (D.arr 64 .leaf (ints .u8 b)), (D.arr 64 .leaf (ints .u8 k)), (D.arr 64 .leaf (ints .u8 c)), (D.arr 64 .leaf (ints .u8 l))] = some (.tup [(D.arr 64 .leaf (ints .u8 g)), (D.int .i64 ec)]))
 (q1 : D.beq (.arr 64 .leaf .int) (D.arr 64 .leaf (ints .u8 g)) (D.arr 64 .leaf (ints .u8 g)) = some true)
 (ec0 : ec ≠ 0)
 (h1c : den T A F1l [.d (.sl .leaf (ints .u8 code)), .d (.int .u64 9902)] [] = some (.ptr 0 [], [], [srcB C1 a1 h1]))
 (h2c : den T A F1k [.ptr 0 [], (.d (.int .i64 p)), (.d (.int .i64 3))] [srcB C1 a1 h1] = some (.d (D.arr 64 .leaf (ints .u8 X8)), [srcB C2 a2 h2], []))
 (s3 : ask (den T A) Fa [(D.int .i64 p), (D.arr 64 .leaf (ints .u8 X8)), (D.arr 64 .leaf (ints .u8 m))] = some (.tup [(D.int .i64 o8), (D.int .i64 0)]))
 (m1 : ask (den T A) F8 [(D.int .i64 p), (D.arr 64 .leaf (ints .u8 a)), (D.arr 64 .leaf (ints .u8 X8))] = some (.tup [(D.arr 64 .leaf (ints .u8 pr)), (D.int .i64 3)]))
 (s4 : ask (den T A) Fa [(D.int .i64 p), (D.arr 64 .leaf (ints .u8 pr)), (D.arr 64 .leaf (ints .u8 m))] = some (.tup [(D.int .i64 sx), (D.int .i64 0)]))
 (h3c : den T A F1k [.ptr 0 [], (.d (.int .i64 p)), (.d (.int .i64 2))] [srcB C2 a2 h2] = some (.d (D.arr 64 .leaf (ints .u8 Y0)), [srcB C3 a3 h3], []))
 (h4c : den T A F1j [.ptr 0 [], (.d (.int .i64 3))] [srcB C3 a3 h3] = some ((.d (.int .i64 z)), [srcB C4 a4 h4], []))
 (wz : IntKind.i64.wrap (1 + z) = (n : Int))
 (yl : Y0.length = 64)
 (n4 : n < 4)
 (yl2 : Y.length = 64)
 (lp : dn (den T A) 0 (.loop Z1h_L0) ⟨[(3, (.d (.int .i64 p))), (5, .ptr 1 []), (39, .ptr 19 []), (40, (.d (.int .i64 ((n : Int))))), (41, (.d (.int .i64 ((n : Int)))))], [.hole, .box false (D.arr 64 .leaf (ints .u8 m)), .hole, .hole, .hole, .hole, .hole, .hole, .hole, .hole, .hole, .hole, .hole, .hole, .hole, .hole, .hole, .hole, .hole, .box false (D.arr 64 .leaf (ints .u8 (Y0.set 3 0))), .hole]⟩ = some (.exit 0, ⟨[(3, (.d (.int .i64 p))), (5, .ptr 1 []), (39, .ptr 19 []), (40, (.d (.int .i64 ((n : Int))))), (41, (.d (.int .i64 4))), (234, (.d (.bool false)))], [.hole, .box false (D.arr 64 .leaf (ints .u8 m)), .hole, .hole, .hole, .hole, .hole, .hole, .hole, .hole, .hole, .hole, .hole, .hole, .hole, .hole, .hole, .hole, .hole, .box false (D.arr 64 .leaf (ints .u8 Y)), .hole]⟩))
 (dg1 : ask (den T A) F5 [(D.int .i64 p), (D.arr 64 .leaf (ints .u8 m))] = some (.tup [(D.int .i64 dg), (D.int .i64 0)]))
 (gc1 : ask (den T A) F7 [(D.int .i64 p), (D.arr 64 .leaf (ints .u8 (Y.set n 1))), (D.arr 64 .leaf (ints .u8 m))] = some (.tup [(D.arr 64 .leaf (ints .u8 gc)), (D.int .i64 0)]))
 (q7 : (pad [])[0]? = some 0)
 (q4 : D.beq (.arr 64 .leaf .int) (D.arr 64 .leaf (ints .u8 gc)) (D.arr 64 .leaf (ints .u8 ((pad []).set 0 1))) = some false) : ask (den T A) F1h [.sl .leaf (ints .u8 code)] = some (D.bool true) := by
 have n64 : n < 64 := by omega
 refine ask_of hT rfl ?_
 simp -implicitDefEqProofs [Z1h, Z1h_B, dn_cond, e0, d1, s1, s2, d2, r1, r2, q1, ec0, h1c, h2c, s3, m1, s4, h3c, h4c, wz, yl, n4, n64, yl2, lp, dg1, gc1, q7, q4, List.replicate, List.idxOf, List.findIdx, List.findIdx.go]
theorem sy_xo0 (hT : T F1h = some Z1h) {p q s ec o8 sx z dg h1 h2 h3 h4 s5 s6 : Int} {a m b k c l g X8 pr Y0 Y C1 C2 C3 C4 gc code : List Int} {a1 a2 a3 a4 n : Nat}
 (e0 : ask (den T A) F1i [.sl .leaf (ints .u8 code)] = some (D.bool false))
 (d1 : ask (den T A) F2b [.sl .leaf (ints .u8 code)] = some (.tup [(D.int .i64 p), (D.arr 64 .leaf (ints .u8 a)), (D.arr 64 .leaf (ints .u8 m))]))
 (s1 : ask (den T A) Fa [(D.int .i64 p), (D.arr 64 .leaf (ints .u8 a)), (D.arr 64 .leaf (ints .u8 m))] = some (.tup [(D.int .i64 s), (D.int .i64 0)]))
 (s2 : ask (den T A) F2d [(D.int .i64 p), (D.arr 64 .leaf (ints .u8 a)), (D.arr 64 .leaf (ints .u8 m))] = some (.tup [(D.int .i64 s), (D.int .i64 0)]))
 (d2 : ask (den T A) F2a [.sl .leaf (ints .u8 code)] = some (.tup [(D.int .i64 q), (D.arr 64 .leaf (ints .u8 b)), (D.arr 64 .leaf (ints .u8 k)), (D.arr 64 .leaf (ints .u8 c)), (D.arr 64 .leaf (ints .u8 l))]))
 (r1 : ask (den T A) F9 [(D.int .i64 q), (D.arr 64 .leaf (ints .u8 b)), (D.arr 64 .leaf (ints .u8 k)), (D.arr 64 .leaf (ints .u8 c)), (D.arr 64 .leaf (ints .u8 l))] = some (.tup [(D.arr 64 .leaf (ints .u8 g)), (D.int .i64 ec)]))
 (r2 : ask (den T A) F2c [(D.int .i64 q), (D.arr 64 .leaf (ints .u8 b)), (D.arr 64 .leaf (ints .u8 k)), (D.arr 64 .leaf (ints .u8 c)), (D.arr 64 .leaf (ints .u8 l))] = some (.tup [(D.arr 64 .leaf (ints .u8 g)), (D.int .i64 ec)]))
 (q1 : D.beq (.arr 64 .leaf .int) (D.arr 64 .leaf (ints .u8 g)) (D.arr 64 .leaf (ints .u8 g)) = some true)
 (ec0 : ec ≠ 0)
 (h1c : den T A F1l [.d (.sl .leaf (ints .u8 code)), .d (.int .u64 9902)] [] = some (.ptr 0 [], [], [srcB C1 a1 h1]))
 (h2c : den T A F1k [.ptr 0 [], (.d (.int .i64 p)), (.d (.int .i64 3))] [srcB C1 a1 h1] = some (.d (D.arr 64 .leaf (ints .u8 X8)), [srcB C2 a2 h2], []))
 (s3 : ask (den T A) Fa [(D.int .i64 p), (D.arr 64 .leaf (ints .u8 X8)), (D.arr 64 .leaf (ints .u8 m))] = some (.tup [(D.int .i64 o8), (D.int .i64 0)]))
 (m1 : ask (den T A) F8 [(D.int .i64 p), (D.arr 64 .leaf (ints .u8 a)), (D.arr 64 .leaf (ints .u8 X8))] = some (.tup [(D.arr 64 .leaf (ints .u8 pr)), (D.int .i64 0)]))
 (s4 : ask (den T A) Fa [(D.int .i64 p), (D.arr 64 .leaf (ints .u8 pr)), (D.arr 64 .leaf (ints .u8 m))] = some (.tup [(D.int .i64 sx), (D.int .i64 0)]))
 (hp0 : p ≠ 0)
 (ww : IntKind.i64.wrap (s * o8) = s * o8)
 (hsx : sx = (s * o8).tmod p)
 (h3c : den T A F1k [.ptr 0 [], (.d (.int .i64 p)), (.d (.int .i64 2))] [srcB C2 a2 h2] = some (.d (D.arr 64 .leaf (ints .u8 Y0)), [srcB C3 a3 h3], []))
 (h4c : den T A F1j [.ptr 0 [], (.d (.int .i64 3))] [srcB C3 a3 h3] = some ((.d (.int .i64 z)), [srcB C4 a4 h4], []))
 (wz : IntKind.i64.wrap (1 + z) = (n : Int))
 (yl : Y0.length = 64)
 (n4 : n < 4)
 (yl2 : Y.length = 64)
 (lp : dn (den T A) 0 (.loop Z1h_L0) ⟨[(3, (.d (.int .i64 p))), (5, .ptr 1 []), (39, .ptr 19 []), (40, (.d (.int .i64 ((n : Int))))), (41, (.d (.int .i64 ((n : Int)))))], [.hole, .box false (D.arr 64 .leaf (ints .u8 m)), .hole, .hole, .hole, .hole, .hole, .hole, .hole, .hole, .hole, .hole, .hole, .hole, .hole, .hole, .hole, .hole, .hole, .box false (D.arr 64 .leaf (ints .u8 (Y0.set 3 0))), .hole]⟩ = some (.exit 0, ⟨[(3, (.d (.int .i64 p))), (5, .ptr 1 []), (39, .ptr 19 []), (40, (.d (.int .i64 ((n : Int))))), (41, (.d (.int .i64 4))), (234, (.d (.bool false)))], [.hole, .box false (D.arr 64 .leaf (ints .u8 m)), .hole, .hole, .hole, .hole, .hole, .hole, .hole, .hole, .hole, .hole, .hole, .hole, .hole, .hole, .hole, .hole, .hole, .box false (D.arr 64 .leaf (ints .u8 Y)), .hole]⟩))
 (dg1 : ask (den T A) F5 [(D.int .i64 p), (D.arr 64 .leaf (ints .u8 m))] = some (.tup [(D.int .i64 dg), (D.int .i64 0)]))
 (gc1 : ask (den T A) F7 [(D.int .i64 p), (D.arr 64 .leaf (ints .u8 (Y.set n 1))), (D.arr 64 .leaf (ints .u8 m))] = some (.tup [(D.arr 64 .leaf (ints .u8 gc)), (D.int .i64 0)]))
 (q7 : (pad [])[0]? = some 0)
 (q4 : D.beq (.arr 64 .leaf .int) (D.arr 64 .leaf (ints .u8 gc)) (D.arr 64 .leaf (ints .u8 ((pad []).set 0 1))) = some true)
 (s5h : ask (den T A) Fa [(D.int .i64 p), (D.arr 64 .leaf (ints .u8 (Y.set n 1))), (D.arr 64 .leaf (ints .u8 m))] = some (.tup [(D.int .i64 s5), (D.int .i64 0)]))
 (s6h : ask (den T A) Fa [(D.int .i64 p), (D.arr 64 .leaf (ints .u8 m)), (D.arr 64 .leaf (ints .u8 (Y.set n 1)))] = some (.tup [(D.int .i64 s6), (D.int .i64 0)]))
 (par : dg.tmod 2 = 1)
 (par2 : (n : Int).tmod 2 = 1)
 (wd : IntKind.i64.wrap (p - s6) = p - s6)
 (fin : s5 = (p - s6).tmod p) : ask (den T A) F1h [.sl .leaf (ints .u8 code)] = some (D.bool true) := by
 have n64 : n < 64 := by omega
 subst hsx
 refine ask_of hT rfl ?_
 simp -implicitDefEqProofs [Z1h, Z1h_B, dn_cond, e0, d1, s1, s2, d2, r1, r2, q1, ec0, h1c, h2c, s3, m1, s4, hp0, ww, h3c, h4c, wz, yl, n4, n64, yl2, lp, dg1, gc1, q7, q4, s5h, s6h, par, par2, wd, fin, List.replicate, List.idxOf, List.findIdx, List.findIdx.go]
theorem sy_xo3 (hT : T F1h = some Z1h) {p q s ec o8 sx z dg h1 h2 h3 h4 s5 s6 : Int} {a m b k c l g X8 pr Y0 Y C1 C2 C3 C4 gc code : List Int} {a1 a2 a3 a4 n : Nat}
 (e0 : ask (den T A) F1i [.sl .leaf (ints .u8 code)] = some (D.bool false))
 (d1 : ask (den T A) F2b [.sl .leaf (ints .u8 code)] = some (.tup [(D.int .i64 p), (D.arr 64 .leaf (ints .u8 a)), (D.arr 64 .leaf (ints .u8 m))]))
 (s1 : ask (den T A) Fa [(D.int .i64 p), (D.arr 64 .leaf (ints .u8 a)), (D.arr 64 .leaf (ints .u8 m))] = some (.tup [(D.int .i64 s), (D.int .i64 0)]))
 (s2 : ask (den T A) F2d [(D.int .i64 p), (D.arr 64 .leaf (ints .u8 a)), (D.arr 64 .leaf (ints .u8 m))] = some (.tup [(D.int .i64 s), (D.int .i64 0)]))
 (d2 : ask (den T A) F2a [.sl .leaf (ints .u8 code)] = some (.tup [(D.int .i64 q), (D.arr 64 .leaf (ints .u8 b)), (D.arr 64 .leaf (ints .u8 k)), (D.arr 64 .leaf (ints .u8 c)), (D.arr 64 .leaf (ints .u8 l))]))
 (r1 : ask (den T A) F9 [(D.int .i64 q), (D.arr 64 .leaf (ints .u8 b)), (D.arr 64 .leaf (ints .u8 k)), (D.arr 64 .leaf (ints .u8 c)), (D.arr 64 .leaf (ints .u8 l))] = some (.tup [(D.arr 64 .leaf (ints .u8 g)), (D.int .i64 ec)]))
 (r2 : ask (den T A) F2c [(D.int .i64 q), (D.arr 64 .leaf (ints .u8 b)), (D.arr 64 .leaf (ints .u8 k)), (D.arr 64 .leaf (ints .u8 c)), (D.arr 64 .leaf (ints .u8 l))] = some (.tup [(D.arr 64 .leaf (ints .u8 g)), (D.int .i64 ec)]))
 (q1 : D.beq (.arr 64 .leaf .int) (D.arr 64 .leaf (ints .u8 g)) (D.arr 64 .leaf (ints .u8 g)) = some true)
 (ec0 : ec ≠ 0)
 (h1c : den T A F1l [.d (.sl .leaf (ints .u8 code)), .d (.int .u64 9902)] [] = some (.ptr 0 [], [], [srcB C1 a1 h1]))
 (h2c : den T A F1k [.ptr 0 [], (.d (.int .i64 p)), (.d (.int .i64 3))] [srcB C1 a1 h1] = some (.d (D.arr 64 .leaf (ints .u8 X8)), [srcB C2 a2 h2], []))
 (s3 : ask (den T A) Fa [(D.int .i64 p), (D.arr 64 .leaf (ints .u8 X8)), (D.arr 64 .leaf (ints .u8 m))] = some (.tup [(D.int .i64 o8), (D.int .i64 0)]))
 (m1 : ask (den T A) F8 [(D.int .i64 p), (D.arr 64 .leaf (ints .u8 a)), (D.arr 64 .leaf (ints .u8 X8))] = some (.tup [(D.arr 64 .leaf (ints .u8 pr)), (D.int .i64 3)]))
 (s4 : ask (den T A) Fa [(D.int .i64 p), (D.arr 64 .leaf (ints .u8 pr)), (D.arr 64 .leaf (ints .u8 m))] = some (.tup [(D.int .i64 sx), (D.int .i64 0)]))
 (h3c : den T A F1k [.ptr 0 [], (.d (.int .i64 p)), (.d (.int .i64 2))] [srcB C2 a2 h2] = some (.d (D.arr 64 .leaf (ints .u8 Y0)), [srcB C3 a3 h3], []))
 (h4c : den T A F1j [.ptr 0 [], (.d (.int .i64 3))] [srcB C3 a3 h3] = some ((.d (.int .i64 z)), [srcB C4 a4 h4], []))
 (wz : IntKind.i64.wrap (1 + z) = (n : Int))
 (yl : Y0.length = 64)
 (n4 : n < 4)
 (yl2 : Y.length = 64)
 (lp : dn (den T A) 0 (.loop Z1h_L0) ⟨[(3, (.d (.int .i64 p))), (5, .ptr 1 []), (39, .ptr 19 []), (40, (.d (.int .i64 ((n : Int))))), (41, (.d (.int .i64 ((n : Int)))))], [.hole, .box false (D.arr 64 .leaf (ints .u8 m)), .hole, .hole, .hole, .hole, .hole, .hole, .hole, .hole, .hole, .hole, .hole, .hole, .hole, .hole, .hole, .hole, .hole, .box false (D.arr 64 .leaf (ints .u8 (Y0.set 3 0))), .hole]⟩ = some (.exit 0, ⟨[(3, (.d (.int .i64 p))), (5, .ptr 1 []), (39, .ptr 19 []), (40, (.d (.int .i64 ((n : Int))))), (41, (.d (.int .i64 4))), (234, (.d (.bool false)))], [.hole, .box false (D.arr 64 .leaf (ints .u8 m)), .hole, .hole, .hole, .hole, .hole, .hole, .hole, .hole, .hole, .hole, .hole, .hole, .hole, .hole, .hole, .hole, .hole, .box false (D.arr 64 .leaf (ints .u8 Y)), .hole]⟩))
 (dg1 : ask (den T A) F5 [(D.int .i64 p), (D.arr 64 .leaf (ints .u8 m))] = some (.tup [(D.int .i64 dg), (D.int .i64 0)]))
 (gc1 : ask (den T A) F7 [(D.int .i64 p), (D.arr 64 .leaf (ints .u8 (Y.set n 1))), (D.arr 64 .leaf (ints .u8 m))] = some (.tup [(D.arr 64 .leaf (ints .u8 gc)), (D.int .i64 0)]))
 (q7 : (pad [])[0]? = some 0)
 (q4 : D.beq (.arr 64 .leaf .int) (D.arr 64 .leaf (ints .u8 gc)) (D.arr 64 .leaf (ints .u8 ((pad []).set 0 1))) = some true)
 (s5h : ask (den T A) Fa [(D.int .i64 p), (D.arr 64 .leaf (ints .u8 (Y.set n 1))), (D.arr 64 .leaf (ints .u8 m))] = some (.tup [(D.int .i64 s5), (D.int .i64 0)]))
 (s6h : ask (den T A) Fa [(D.int .i64 p), (D.arr 64 .leaf (ints .u8 m)), (D.arr 64 .leaf (ints .u8 (Y.set n 1)))] = some (.tup [(D.int .i64 s6), (D.int .i64 0)]))
 (par : dg.tmod 2 = 1)
 (par2 : (n : Int).tmod 2 = 1)
 (hp0 : p ≠ 0)
 (wd : IntKind.i64.wrap (p - s6) = p - s6)
 (fin : s5 = (p - s6).tmod p) : ask (den T A) F1h [.sl .leaf (ints .u8 code)] = some (D.bool true) := by
 have n64 : n < 64 := by omega
 refine ask_of hT rfl ?_
 simp -implicitDefEqProofs [Z1h, Z1h_B, dn_cond, e0, d1, s1, s2, d2, r1, r2, q1, ec0, h1c, h2c, s3, m1, s4, h3c, h4c, wz, yl, n4, n64, yl2, lp, dg1, gc1, q7, q4, s5h, s6h, hp0, par, par2, wd, fin, List.replicate, List.idxOf, List.findIdx, List.findIdx.go]
theorem sy_xe0 (hT : T F1h = some Z1h) {p q s ec o8 sx z dg h1 h2 h3 h4 s5 s6 : Int} {a m b k c l g X8 pr Y0 Y C1 C2 C3 C4 gc code : List Int} {a1 a2 a3 a4 n : Nat}
 (e0 : ask (den T A) F1i [.sl .leaf (ints .u8 code)] = some (D.bool false))
 (d1 : ask (den T A) F2b [.sl .leaf (ints .u8 code)] = some (.tup [(D.int .i64 p), (D.arr 64 .leaf (ints .u8 a)), (D.arr 64 .leaf (ints .u8 m))]))
 (s1 : ask (den T A) Fa [(D.int .i64 p), (D.arr 64 .leaf (ints .u8 a)), (D.arr 64 .leaf (ints .u8 m))] = some (.tup [(D.int .i64 s), (D.int .i64 0)]))
 (s2 : ask (den T A) F2d [(D.int .i64 p), (D.arr 64 .leaf (ints .u8 a)), (D.arr 64 .leaf (ints .u8 m))] = some (.tup [(D.int .i64 s), (D.int .i64 0)]))
 (d2 : ask (den T A) F2a [.sl .leaf (ints .u8 code)] = some (.tup [(D.int .i64 q), (D.arr 64 .leaf (ints .u8 b)), (D.arr 64 .leaf (ints .u8 k)), (D.arr 64 .leaf (ints .u8 c)), (D.arr 64 .leaf (ints .u8 l))]))
 (r1 : ask (den T A) F9 [(D.int .i64 q), (D.arr 64 .leaf (ints .u8 b)), (D.arr 64 .leaf (ints .u8 k)), (D.arr 64 .leaf (ints .u8 c)), (D.arr 64 .leaf (ints .u8 l))] = some (.tup [(D.arr 64 .leaf (ints .u8 g)), (D.int .i64 ec)]))
 (r2 : ask (den T A) F2c [(D.int .i64 q), (D.arr 64 .leaf (ints .u8 b)), (D.arr 64 .leaf (ints .u8 k)), (D.arr 64 .leaf (ints .u8 c)), (D.arr 64 .leaf (ints .u8 l))] = some (.tup [(D.arr 64 .leaf (ints .u8 g)), (D.int .i64 ec)]))
 (q1 : D.beq (.arr 64 .leaf .int) (D.arr 64 .leaf (ints .u8 g)) (D.arr 64 .leaf (ints .u8 g)) = some true)
 (ec0 : ec ≠ 0)
 (h1c : den T A F1l [.d (.sl .leaf (ints .u8 code)), .d (.int .u64 9902)] [] = some (.ptr 0 [], [], [srcB C1 a1 h1]))
 (h2c : den T A F1k [.ptr 0 [], (.d (.int .i64 p)), (.d (.int .i64 3))] [srcB C1 a1 h1] = some (.d (D.arr 64 .leaf (ints .u8 X8)), [srcB C2 a2 h2], []))
 (s3 : ask (den T A) Fa [(D.int .i64 p), (D.arr 64 .leaf (ints .u8 X8)), (D.arr 64 .leaf (ints .u8 m))] = some (.tup [(D.int .i64 o8), (D.int .i64 0)]))
 (m1 : ask (den T A) F8 [(D.int .i64 p), (D.arr 64 .leaf (ints .u8 a)), (D.arr 64 .leaf (ints .u8 X8))] = some (.tup [(D.arr 64 .leaf (ints .u8 pr)), (D.int .i64 0)]))
 (s4 : ask (den T A) Fa [(D.int .i64 p), (D.arr 64 .leaf (ints .u8 pr)), (D.arr 64 .leaf (ints .u8 m))] = some (.tup [(D.int .i64 sx), (D.int .i64 0)]))
 (hp0 : p ≠ 0)
 (ww : IntKind.i64.wrap (s * o8) = s * o8)
 (hsx : sx = (s * o8).tmod p)
 (h3c : den T A F1k [.ptr 0 [], (.d (.int .i64 p)), (.d (.int .i64 2))] [srcB C2 a2 h2] = some (.d (D.arr 64 .leaf (ints .u8 Y0)), [srcB C3 a3 h3], []))
 (h4c : den T A F1j [.ptr 0 [], (.d (.int .i64 3))] [srcB C3 a3 h3] = some ((.d (.int .i64 z)), [srcB C4 a4 h4], []))
 (wz : IntKind.i64.wrap (1 + z) = (n : Int))
 (yl : Y0.length = 64)
 (n4 : n < 4)
 (yl2 : Y.length = 64)
 (lp : dn (den T A) 0 (.loop Z1h_L0) ⟨[(3, (.d (.int .i64 p))), (5, .ptr 1 []), (39, .ptr 19 []), (40, (.d (.int .i64 ((n : Int))))), (41, (.d (.int .i64 ((n : Int)))))], [.hole, .box false (D.arr 64 .leaf (ints .u8 m)), .hole, .hole, .hole, .hole, .hole, .hole, .hole, .hole, .hole, .hole, .hole, .hole, .hole, .hole, .hole, .hole, .hole, .box false (D.arr 64 .leaf (ints .u8 (Y0.set 3 0))), .hole]⟩ = some (.exit 0, ⟨[(3, (.d (.int .i64 p))), (5, .ptr 1 []), (39, .ptr 19 []), (40, (.d (.int .i64 ((n : Int))))), (41, (.d (.int .i64 4))), (234, (.d (.bool false)))], [.hole, .box false (D.arr 64 .leaf (ints .u8 m)), .hole, .hole, .hole, .hole, .hole, .hole, .hole, .hole, .hole, .hole, .hole, .hole, .hole, .hole, .hole, .hole, .hole, .box false (D.arr 64 .leaf (ints .u8 Y)), .hole]⟩))
 (dg1 : ask (den T A) F5 [(D.int .i64 p), (D.arr 64 .leaf (ints .u8 m))] = some (.tup [(D.int .i64 dg), (D.int .i64 0)]))
 (gc1 : ask (den T A) F7 [(D.int .i64 p), (D.arr 64 .leaf (ints .u8 (Y.set n 1))), (D.arr 64 .leaf (ints .u8 m))] = some (.tup [(D.arr 64 .leaf (ints .u8 gc)), (D.int .i64 0)]))
 (q7 : (pad [])[0]? = some 0)
 (q4 : D.beq (.arr 64 .leaf .int) (D.arr 64 .leaf (ints .u8 gc)) (D.arr 64 .leaf (ints .u8 ((pad []).set 0 1))) = some true)
 (s5h : ask (den T A) Fa [(D.int .i64 p), (D.arr 64 .leaf (ints .u8 (Y.set n 1))), (D.arr 64 .leaf (ints .u8 m))] = some (.tup [(D.int .i64 s5), (D.int .i64 0)]))
 (s6h : ask (den T A) Fa [(D.int .i64 p), (D.arr 64 .leaf (ints .u8 m)), (D.arr 64 .leaf (ints .u8 (Y.set n 1)))] = some (.tup [(D.int .i64 s6), (D.int .i64 0)]))
 (par : ¬ (dg.tmod 2 = 1 ∧ (n : Int).tmod 2 = 1))
 (fin : s5 = s6) : ask (den T A) F1h [.sl .leaf (ints .u8 code)] = some (D.bool true) := by
 have n64 : n < 64 := by omega
 subst hsx
 by_cases g1 : dg.tmod 2 = 1
 ·have g2 : ¬ (n : Int).tmod 2 = 1 := fun h => par ⟨g1, h⟩
  refine ask_of hT rfl ?_
  simp -implicitDefEqProofs [Z1h, Z1h_B, dn_cond, e0, d1, s1, s2, d2, r1, r2, q1, ec0, h1c, h2c, s3, m1, s4, hp0, ww, h3c, h4c, wz, yl, n4, n64, yl2, lp, dg1, gc1, q7, q4, s5h, s6h, fin, g1, g2, List.replicate, List.idxOf, List.findIdx, List.findIdx.go]
 ·refine ask_of hT rfl ?_
  simp -implicitDefEqProofs [Z1h, Z1h_B, dn_cond, e0, d1, s1, s2, d2, r1, r2, q1, ec0, h1c, h2c, s3, m1, s4, hp0, ww, h3c, h4c, wz, yl, n4, n64, yl2, lp, dg1, gc1, q7, q4, s5h, s6h, fin, g1, List.replicate, List.idxOf, List.findIdx, List.findIdx.go]
theorem sy_xe3 (hT : T F1h = some Z1h) {p q s ec o8 sx z dg h1 h2 h3 h4 s5 s6 : Int} {a m b k c l g X8 pr Y0 Y C1 C2 C3 C4 gc code : List Int} {a1 a2 a3 a4 n : Nat}
 (e0 : ask (den T A) F1i [.sl .leaf (ints .u8 code)] = some (D.bool false))
 (d1 : ask (den T A) F2b [.sl .leaf (ints .u8 code)] = some (.tup [(D.int .i64 p), (D.arr 64 .leaf (ints .u8 a)), (D.arr 64 .leaf (ints .u8 m))]))
 (s1 : ask (den T A) Fa [(D.int .i64 p), (D.arr 64 .leaf (ints .u8 a)), (D.arr 64 .leaf (ints .u8 m))] = some (.tup [(D.int .i64 s), (D.int .i64 0)]))
 (s2 : ask (den T A) F2d [(D.int .i64 p), (D.arr 64 .leaf (ints .u8 a)), (D.arr 64 .leaf (ints .u8 m))] = some (.tup [(D.int .i64 s), (D.int .i64 0)]))
 (d2 : ask (den T A) F2a [.sl .leaf (ints .u8 code)] = some (.tup [(D.int .i64 q), (D.arr 64 .leaf (ints .u8 b)), (D.arr 64 .leaf (ints .u8 k)), (D.arr 64 .leaf (ints .u8 c)), (D.arr 64 .leaf (ints .u8 l))]))
 (r1 : ask (den T A) F9 [(D.int .i64 q), (D.arr 64 .leaf (ints .u8 b)), (D.arr 64 .leaf (ints .u8 k)), (D.arr 64 .leaf (ints .u8 c)), (D.arr 64 .leaf (ints .u8 l))] = some (.tup [(D.arr 64 .leaf (ints .u8 g)), (D.int .i64 ec)]))
 (r2 : ask (den T A) F2c [(D.int .i64 q), (D.arr 64 .leaf (ints .u8 b)), (D.arr 64 .leaf (ints .u8 k)), (D.arr 64 .leaf (ints .u8 c)), (D.arr 64 .leaf (ints .u8 l))] = some (.tup [(D.arr 64 .leaf (ints .u8 g)), (D.int .i64 ec)]))
 (q1 : D.beq (.arr 64 .leaf .int) (D.arr 64 .leaf (ints .u8 g)) (D.arr 64 .leaf (ints .u8 g)) = some true)
 (ec0 : ec ≠ 0)
 (h1c : den T A F1l [.d (.sl .leaf (ints .u8 code)), .d (.int .u64 9902)] [] = some (.ptr 0 [], [], [srcB C1 a1 h1]))
 (h2c : den T A F1k [.ptr 0 [], (.d (.int .i64 p)), (.d (.int .i64 3))] [srcB C1 a1 h1] = some (.d (D.arr 64 .leaf (ints .u8 X8)), [srcB C2 a2 h2], []))
 (s3 : ask (den T A) Fa [(D.int .i64 p), (D.arr 64 .leaf (ints .u8 X8)), (D.arr 64 .leaf (ints .u8 m))] = some (.tup [(D.int .i64 o8), (D.int .i64 0)]))
 (m1 : ask (den T A) F8 [(D.int .i64 p), (D.arr 64 .leaf (ints .u8 a)), (D.arr 64 .leaf (ints .u8 X8))] = some (.tup [(D.arr 64 .leaf (ints .u8 pr)), (D.int .i64 3)]))
 (s4 : ask (den T A) Fa [(D.int .i64 p), (D.arr 64 .leaf (ints .u8 pr)), (D.arr 64 .leaf (ints .u8 m))] = some (.tup [(D.int .i64 sx), (D.int .i64 0)]))
 (h3c : den T A F1k [.ptr 0 [], (.d (.int .i64 p)), (.d (.int .i64 2))] [srcB C2 a2 h2] = some (.d (D.arr 64 .leaf (ints .u8 Y0)), [srcB C3 a3 h3], []))
 (h4c : den T A F1j [.ptr 0 [], (.d (.int .i64 3))] [srcB C3 a3 h3] = some ((.d (.int .i64 z)), [srcB C4 a4 h4], []))
 (wz : IntKind.i64.wrap (1 + z) = (n : Int))
 (yl : Y0.length = 64)
 (n4 : n < 4)
 (yl2 : Y.length = 64)
 (lp : dn (den T A) 0 (.loop Z1h_L0) ⟨[(3, (.d (.int .i64 p))), (5, .ptr 1 []), (39, .ptr 19 []), (40, (.d (.int .i64 ((n : Int))))), (41, (.d (.int .i64 ((n : Int)))))], [.hole, .box false (D.arr 64 .leaf (ints .u8 m)), .hole, .hole, .hole, .hole, .hole, .hole, .hole, .hole, .hole, .hole, .hole, .hole, .hole, .hole, .hole, .hole, .hole, .box false (D.arr 64 .leaf (ints .u8 (Y0.set 3 0))), .hole]⟩ = some (.exit 0, ⟨[(3, (.d (.int .i64 p))), (5, .ptr 1 []), (39, .ptr 19 []), (40, (.d (.int .i64 ((n : Int))))), (41, (.d (.int .i64 4))), (234, (.d (.bool false)))], [.hole, .box false (D.arr 64 .leaf (ints .u8 m)), .hole, .hole, .hole, .hole, .hole, .hole, .hole, .hole, .hole, .hole, .hole, .hole, .hole, .hole, .hole, .hole, .hole, .box false (D.arr 64 .leaf (ints .u8 Y)), .hole]⟩))
 (dg1 : ask (den T A) F5 [(D.int .i64 p), (D.arr 64 .leaf (ints .u8 m))] = some (.tup [(D.int .i64 dg), (D.int .i64 0)]))
 (gc1 : ask (den T A) F7 [(D.int .i64 p), (D.arr 64 .leaf (ints .u8 (Y.set n 1))), (D.arr 64 .leaf (ints .u8 m))] = some (.tup [(D.arr 64 .leaf (ints .u8 gc)), (D.int .i64 0)]))
 (q7 : (pad [])[0]? = some 0)
 (q4 : D.beq (.arr 64 .leaf .int) (D.arr 64 .leaf (ints .u8 gc)) (D.arr 64 .leaf (ints .u8 ((pad []).set 0 1))) = some true)
 (s5h : ask (den T A) Fa [(D.int .i64 p), (D.arr 64 .leaf (ints .u8 (Y.set n 1))), (D.arr 64 .leaf (ints .u8 m))] = some (.tup [(D.int .i64 s5), (D.int .i64 0)]))
 (s6h : ask (den T A) Fa [(D.int .i64 p), (D.arr 64 .leaf (ints .u8 m)), (D.arr 64 .leaf (ints .u8 (Y.set n 1)))] = some (.tup [(D.int .i64 s6), (D.int .i64 0)]))
 (par : ¬ (dg.tmod 2 = 1 ∧ (n : Int).tmod 2 = 1))
 (fin : s5 = s6) : ask (den T A) F1h [.sl .leaf (ints .u8 code)] = some (D.bool true) := by
 have n64 : n < 64 := by omega
 by_cases g1 : dg.tmod 2 = 1
 ·have g2 : ¬ (n : Int).tmod 2 = 1 := fun h => par ⟨g1, h⟩
  refine ask_of hT rfl ?_
  simp -implicitDefEqProofs [Z1h, Z1h_B, dn_cond, e0, d1, s1, s2, d2, r1, r2, q1, ec0, h1c, h2c, s3, m1, s4, h3c, h4c, wz, yl, n4, n64, yl2, lp, dg1, gc1, q7, q4, s5h, s6h, fin, g1, g2, List.replicate, List.idxOf, List.findIdx, List.findIdx.go]
 ·refine ask_of hT rfl ?_
  simp -implicitDefEqProofs [Z1h, Z1h_B, dn_cond, e0, d1, s1, s2, d2, r1, r2, q1, ec0, h1c, h2c, s3, m1, s4, h3c, h4c, wz, yl, n4, n64, yl2, lp, dg1, gc1, q7, q4, s5h, s6h, fin, g1, List.replicate, List.idxOf, List.findIdx, List.findIdx.go]
end Pe

namespace Pe
open Go Gq
variable {T : Nat → Option Fn} {A : Oracle}
section
variable {p : Int} [IsP p]
def PLog (M X G : Fp p) (k : Nat) : Prop := pw G k % M = X % M
def IsLog (M X G : Fp p) (k : Nat) : Prop := k < p.toNat ^ (M.len - 1) ∧ PLog M X G k ∧ ∀ j, j < k → ¬ PLog M X G j
theorem IsLog.unique {M X G : Fp p} {j k : Nat} (hj : IsLog M X G j) (hk : IsLog M X G k) : j = k := by
 rcases Nat.lt_trichotomy j k with h | h | h
 ·exact absurd hj.2.1 (hk.2.2 j h)
 ·exact h
 ·exact absurd hk.2.1 (hj.2.2 k h)
end
section
variable {p : Int} [IsP p]
end
section
variable {p : Int} [ip : IsP p] {M X G : Fp p}
end
end Pe

namespace Pe
open Go Gq
variable {T : Nat → Option Fn} {A : Oracle}
section
variable {p : Int} [IsP p]
end
end Pe

namespace Pe
open Go Gq
variable {T : Nat → Option Fn} {A : Oracle}
end Pe

namespace Pe
open Go Gq
variable {T : Nat → Option Fn} {A : Oracle}
def L_Symbols (O : Oracle) : Prop := ∀ code : List Int, Bytes code → code.length ≤ 9223372036854775807 → ask O F1h [.sl .leaf (ints .u8 code)] = some (D.bool true)
theorem sybeq {l : List Int} (h : l.length = 64) : D.beq (.arr 64 .leaf .int) (D.arr 64 .leaf (ints .u8 l)) (D.arr 64 .leaf (ints .u8 l)) = some true := by
 rw [beq_P h h, decide_eq_true rfl]
theorem rt_cases {O : Oracle} (hdv : K_DividePolys O) {q : Int} {b k c l : List Int} (hb : Arr b) (hk : Arr k) (hc : Arr c) (hl : Arr l) :
 (∃ g u1 u2 u3 u4 v w : List Int, rtD q b k c l = .tup [(D.arr 64 .leaf (ints .u8 g)), (D.int .i64 0)] ∧ g.length = 64 ∧ v.length = 64 ∧ w.length = 64 ∧
  ask O F6 [(D.int .i64 q), (D.arr 64 .leaf (ints .u8 g)), (D.arr 64 .leaf (ints .u8 k))] = some (.tup [(D.arr 64 .leaf (ints .u8 u1)), (D.arr 64 .leaf (ints .u8 v)), (D.int .i64 0)]) ∧
  ask O F6 [(D.int .i64 q), (D.arr 64 .leaf (ints .u8 b)), (D.arr 64 .leaf (ints .u8 k))] = some (.tup [(D.arr 64 .leaf (ints .u8 u2)), (D.arr 64 .leaf (ints .u8 v)), (D.int .i64 0)]) ∧
  ask O F6 [(D.int .i64 q), (D.arr 64 .leaf (ints .u8 g)), (D.arr 64 .leaf (ints .u8 l))] = some (.tup [(D.arr 64 .leaf (ints .u8 u3)), (D.arr 64 .leaf (ints .u8 w)), (D.int .i64 0)]) ∧
  ask O F6 [(D.int .i64 q), (D.arr 64 .leaf (ints .u8 c)), (D.arr 64 .leaf (ints .u8 l))] = some (.tup [(D.arr 64 .leaf (ints .u8 u4)), (D.arr 64 .leaf (ints .u8 w)), (D.int .i64 0)])) ∨
 (∃ (g : List Int) (ec : Int), ec ≠ 0 ∧ rtD q b k c l = .tup [(D.arr 64 .leaf (ints .u8 g)), (D.int .i64 ec)] ∧ g.length = 64) := by
 classical
 by_cases h0 : codeP q [b, k, c, l] = 0
 ·obtain ⟨ip, X, M, Y, N, rfl, rfl, rfl, rfl, hX, hM, hY, hN⟩ := four_good hb.2 hb.1 hk.2 hk.1 hc.2 hc.1 hl.2 hl.1 h0
  by_cases h1 : (Monic M ∧ 2 ≤ M.len ∧ M.len ≤ 6) ∧ (Monic N ∧ 2 ≤ N.len ∧ N.len ≤ 6)
  ·obtain ⟨m1, m2⟩ := h1
   by_cases hu : Un N M
   ·have h2 := crt_len m1.1.2 m2.1.2 X Y
    have h3 := mul_le (a := M) (b := N) m1.2.2 m2.2.2
    obtain ⟨d1, d2⟩ := crt_dv m2.1.2 hu X Y
    have g1 := hdv q (crtP M N X Y) M (by omega) m1.1.2 hM
    have g2 := hdv q X M hX m1.1.2 hM
    have g3 := hdv q (crtP M N X Y) N (by omega) m2.1.2 hN
    have g4 := hdv q Y N hY m2.1.2 hN
    rw [show crtP M N X Y % M = X % M from (Pol.mod_eq_iff m1.1.2).2 (by
     have := dv_iff_mk.1 d1
     rw [Quo.mk_sub] at this
     exact eq_of_sub this)] at g1
    rw [show crtP M N X Y % N = Y % N from (Pol.mod_eq_iff m2.1.2).2 (by
     have := dv_iff_mk.1 d2
     rw [Quo.mk_sub] at this
     exact eq_of_sub this)] at g3
    exact .inl ⟨_, _, _, _, _, _, _, rtD_ok m1 m2 hX hY hu, pad_length _, pad_length _, pad_length _, g1, g2, g3, g4⟩
   ·exact .inr ⟨_, 5, by omega, rtD_five m1 m2 hu, pad_length _⟩
  ·exact .inr ⟨_, 2, by omega, rtD_two hM hN h1, pad_length _⟩
 ·exact .inr ⟨_, 1, by omega, rtD_one h0, pad_length _⟩
theorem sy_cases {p : Int} {a m : List Int} (ha : Arr a) (hm : Arr m) :
 (∃ (_ : IsP p) (X M : Fp p), a = pad (row X) ∧ m = pad (row M) ∧ X.len ≤ 64 ∧ Monic M ∧ 2 ≤ M.len ∧ M.len ≤ 13) ∨
 (∃ cd : Int, cd ≠ 0 ∧ syD p a m = .tup [(D.int .i64 0), (D.int .i64 cd)]) := by
 by_cases h0 : codeP p [a, m] = 0
 ·obtain ⟨ip, X, M, rfl, rfl, hX, hM⟩ := two_good ha.2 ha.1 hm.2 hm.1 h0
  by_cases h1 : Monic M ∧ 2 ≤ M.len ∧ M.len ≤ 13
  ·exact .inl ⟨ip, X, M, rfl, rfl, hX, h1⟩
  ·exact .inr ⟨2, by omega, syD_not hM h1⟩
 ·exact .inr ⟨1, by omega, syD_bad h0⟩
section
variable {p : Int} [ip : IsP p]
end
section
variable {p : Int}
theorem pw_neg : ∀ k : Nat, pw (-1 : Zp p) k = if k % 2 = 0 then 1 else -1
 | 0 => rfl
 | k + 1 => by
  rw [pw, pw_neg k]
  rcases Nat.mod_two_eq_zero_or_one k with h | h
  ·rw [if_pos h, if_neg (by omega), Gq.one_mul]
  ·rw [if_neg (by omega), if_pos (by omega)]
   exact ring_of [] rfl
end
section
variable {p : Int} [ip : IsP p]
theorem recip_num {y m : Fp p} (hy : Monic y) (hm : Monic m) (y13 : y.len ≤ 13) (m13 : m.len ≤ 13) (hfy : IsFac y (fac y)) (hfm : IsFac m (fac m)) :
 (((m.len - 1) % 2 = 1 ∧ (y.len - 1) % 2 = 1) → symb p y m = (p - symb p m y) % p) ∧ (¬ ((m.len - 1) % 2 = 1 ∧ (y.len - 1) % 2 = 1) → symb p y m = symb p m y) := by
 have h := symb_recip hy hm y13 m13 hfy hfm
 rw [pw_neg] at h
 obtain ⟨s1, s2⟩ := symb_in (p := p) y m
 obtain ⟨t1, t2⟩ := symb_in (p := p) m y
 have hpar : ((y.len - 1) * (m.len - 1)) % 2 = ((y.len - 1) % 2) * ((m.len - 1) % 2) % 2 := Nat.mul_mod _ _ _
 constructor
 ·rintro ⟨h1, h2⟩
  rw [h1, h2] at hpar
  rw [if_neg (by omega)] at h
  have h3 : zp p (symb p y m) = zp p (p - symb p m y) := by
   rw [h, zp_sub, show zp p p = 0 from (zp_zero (p := p)).symm ▸ zp_eq.2 (by rw [Int.emod_self, Int.zero_emod])]
   exact ring_of [zp p (symb p m y)] rfl
  have h4 := zp_eq.1 h3
  rwa [Int.emod_eq_of_lt s1 s2] at h4
 ·intro h1
  have hz : ((y.len - 1) * (m.len - 1)) % 2 = 0 := by
   rw [hpar]
   rcases Nat.mod_two_eq_zero_or_one (y.len - 1) with g | g
   ·rw [g, Nat.zero_mul]
   ·rcases Nat.mod_two_eq_zero_or_one (m.len - 1) with g2 | g2
    ·rw [g2, Nat.mul_zero]
    ·exact absurd ⟨g2, g⟩ h1
  rw [if_pos hz, Gq.one_mul] at h
  have h4 := zp_eq.1 h
  rwa [Int.emod_eq_of_lt s1 s2, Int.emod_eq_of_lt t1 t2] at h4
end
end Pe

namespace Pe
open Go Gq
variable {T : Nat → Option Fn} {A : Oracle}
theorem law_Symbols (hT : T F1h = some Z1h) (hbig : C_big (den T A)) (hd1 : H_DrawSymbolOf (den T A)) (hd2 : H_DrawRestForTwo (den T A))
 (hsy : K_SymbolOf (den T A) Fa) (hsys : K_SymbolOf (den T A) F2d) (hrt : K_RestForTwo (den T A) F9) (hrts : K_RestForTwo (den T A) F2c)
 (hdv : K_DividePolys (den T A)) (hro : H_roll (den T A)) (hp9 : H_poly9 (den T A)) (hbl : H_next (den T A) F1j) (hmu : K_MultiplyPolys (den T A)) (hdg : K_DegreeOf (den T A)) (hgc : K_GcdOf (den T A)) (hfa : K_fac (den T A)) : L_Symbols (den T A) := by
 classical
 intro code hb hl
 have e0 := hbig (ints .u8 code)
 by_cases hc : (4096 : Int) < (ints .u8 code).length
 ·rw [decide_eq_true hc] at e0
  refine ask_of hT rfl ?_
  simp -implicitDefEqProofs [Z1h, Z1h_B, dn_cond, e0]
 rw [decide_eq_false hc] at e0
 have hc4 : code.length ≤ 4096 := by
  rw [ints_length] at hc
  omega
 obtain ⟨p, a, m, d1, -, -, aa, am⟩ := hd1 code hb hc4
 obtain ⟨q, b, k, c, l, d2, -, -, ab, ak, ac, al⟩ := hd2 code hb hc4
 have s1 := hsy p a m aa.2 aa.1 am.2 am.1
 have s2 := hsys p a m aa.2 aa.1 am.2 am.1
 have r1 := hrt q b k c l ab.2 ab.1 ak.2 ak.1 ac.2 ac.1 al.2 al.1
 have r2 := hrts q b k c l ab.2 ab.1 ak.2 ak.1 ac.2 ac.1 al.2 al.1
 have hrest := rt_cases hdv (q := q) ab ak ac al
 rcases sy_cases (p := p) aa am with ⟨ip, X, M, rfl, rfl, hX, hM, h2, h13⟩ | ⟨cd, cd0, hcd⟩
 ·rw [syD_ok hX hM h2 h13] at s1 s2
  have hp := IsP.ge (p := p)
  have hp7 := IsP.le (p := p)
  have hfm := (hfa p M hM.2 h13).1
  obtain ⟨b1, h1c, hs1⟩ := hro code 9902 hb hc4
  obtain ⟨x, b2, h2c, hs2, hx⟩ := hp9 p b1 3 hs1 (by omega)
  obtain ⟨y0, b3, h3c, hs3, hy0⟩ := hp9 p b2 2 hs2 (by omega)
  obtain ⟨z, b4, h4c, hs4, z0, z3⟩ := hbl b3 3 hs3 (by omega)
  obtain ⟨n, hn⟩ : ∃ n : Nat, 1 + z = (n : Int) := ⟨(1 + z).toNat, by omega⟩
  have wz : IntKind.i64.wrap (1 + z) = (n : Int) := (w64 (by omega)).trans hn
  have n4 : n < 4 := by omega
  have yl : (pad (row y0)).length = 64 := pad_length _
  have hQ : DrI p ((pad (row y0)).set 3 0) 4 := (DrI.mk yl (pad_can y0) fun j hj => by rw [pad_row_cf (by omega), y0.lt_len j (by omega)]; rfl : DrI p (pad (row y0)) 4).set (Int.le_refl 0) (by omega) (by omega)
  obtain ⟨Y, hY, lp⟩ := l_sy (O := den T A) (p := p) (n := n) (b1 := .box false (D.arr 64 .leaf (ints .u8 (pad (row M))))) (4 - n) n ((pad (row y0)).set 3 0) (by omega) (Nat.le_refl n) hQ (fun j h1 h2 => by omega)
  have yl2 := hY.l
  obtain ⟨y, hy, hyl, my⟩ := hY.mod (by omega)
  have hfy := (hfa p y my.2 (by omega)).1
  obtain ⟨rc1, rc2⟩ := recip_num my hM (by omega) h13 hfy hfm
  have s3 := hsy p (pad (row x)) (pad (row M)) (pad_bytes x) (pad_length _) am.2 am.1
  rw [syD_ok (by omega) hM h2 h13] at s3
  have m1 := hmu p X x hX (by omega)
  have dg1 := hdg p M (by omega)
  have gc1 := hgc p y M my.2 hM.2 (by omega) (by omega)
  have s5h := hsy p (pad (row y)) (pad (row M)) (pad_bytes y) (pad_length _) am.2 am.1
  rw [syD_ok (by omega) hM h2 h13] at s5h
  have s6h := hsy p (pad (row M)) (pad (row y)) am.2 am.1 (pad_bytes y) (pad_length _)
  rw [syD_ok (by omega) my (by omega) (by omega)] at s6h
  rw [← hy] at gc1 s5h s6h
  have q7 : (pad [])[0]? = some 0 := rfl
  have hgl : (Pol.gcd y M).len ≤ 64 := by
   have := (Pol.gcd_dv_left (a := y) (b := M) (.inl my.2)).len my.2
   omega
  have q4 : D.beq (.arr 64 .leaf .int) (D.arr 64 .leaf (ints .u8 (pad (row (Pol.gcd y M))))) (D.arr 64 .leaf (ints .u8 ((pad []).set 0 1))) = some (decide (Pol.gcd y M = 1)) := by
   rw [beq_P (pad_length _) (by rw [List.length_set]; exact pad_length _), show (pad []).set 0 1 = pad (row (1 : Fp p)) by rw [row_one]; rfl]
   exact congrArg some (decide_eq_decide.2 (pad_row_inj hgl (by rw [Pol.len_one]; omega)))
  obtain ⟨sa0, sa1⟩ := symb_in (p := p) X M
  obtain ⟨sx0, sx1⟩ := symb_in (p := p) x M
  obtain ⟨sm0, sm1⟩ := symb_in (p := p) M y
  have hp0 : p ≠ 0 := by omega
  have hmul0 := Int.mul_nonneg sa0 sx0
  have hmul1 : symb p X M * symb p x M ≤ 6 * 6 := Int.mul_le_mul (by omega) (by omega) sx0 (by omega)
  have ww : IntKind.i64.wrap (symb p X M * symb p x M) = symb p X M * symb p x M := w64 (by omega)
  have hsx : symb p (X * x) M = (symb p X M * symb p x M).tmod p := by
   rw [Int.tmod_eq_emod_of_nonneg hmul0]
   exact symb_mul hM.2 h13 hfm
  have wd : IntKind.i64.wrap (p - symb p M y) = p - symb p M y := w64 (by omega)
  have t1 : ((M.len : Int) - 1).tmod 2 = 1 ↔ (M.len - 1) % 2 = 1 := by
   rw [Int.tmod_eq_emod_of_nonneg (by omega)]
   omega
  have t2 : (n : Int).tmod 2 = 1 ↔ (y.len - 1) % 2 = 1 := by
   rw [Int.tmod_eq_emod_of_nonneg (by omega), hyl]
   omega
  obtain ⟨C1, a1, k1, rfl, -⟩ := hs1
  obtain ⟨C2, a2, k2, rfl, -⟩ := hs2
  obtain ⟨C3, a3, k3, rfl, -⟩ := hs3
  obtain ⟨C4, a4, k4, rfl, -⟩ := hs4
  by_cases hxl : (X * x).len ≤ 64
  ·rw [if_pos hxl] at m1
   have s4 := hsy p (pad (row (X * x))) (pad (row M)) (pad_bytes _) (pad_length _) am.2 am.1
   rw [syD_ok hxl hM h2 h13] at s4
   by_cases hg1 : Pol.gcd y M = 1
   ·rw [decide_eq_true hg1] at q4
    by_cases par : ((M.len : Int) - 1).tmod 2 = 1 ∧ (n : Int).tmod 2 = 1
    ·obtain ⟨par1, par2⟩ := par
     have fin := rc1 ⟨t1.1 par1, t2.1 par2⟩
     rw [← Int.tmod_eq_emod_of_nonneg (by omega)] at fin
     rcases hrest with ⟨g, u1, u2, u3, u4, v, w, hg, gl, vl, wl, f1, f2, f3, f4⟩ | ⟨g, ec, ec0, hg, gl⟩
     ·rw [hg] at r1 r2
      have q1 := sybeq gl
      have q2 := sybeq vl
      have q3 := sybeq wl
      exact sy_ro0 hT e0 d1 s1 s2 d2 r1 r2 q1 f1 f2 f3 f4 q2 q3 h1c h2c s3 m1 s4 hp0 ww hsx h3c h4c wz yl n4 yl2 lp dg1 gc1 q7 q4 s5h s6h par1 par2 wd fin
     ·rw [hg] at r1 r2
      have q1 := sybeq gl
      exact sy_xo0 hT e0 d1 s1 s2 d2 r1 r2 q1 ec0 h1c h2c s3 m1 s4 hp0 ww hsx h3c h4c wz yl n4 yl2 lp dg1 gc1 q7 q4 s5h s6h par1 par2 wd fin
    ·have fin := rc2 fun h => par ⟨t1.2 h.1, t2.2 h.2⟩
     rcases hrest with ⟨g, u1, u2, u3, u4, v, w, hg, gl, vl, wl, f1, f2, f3, f4⟩ | ⟨g, ec, ec0, hg, gl⟩
     ·rw [hg] at r1 r2
      have q1 := sybeq gl
      have q2 := sybeq vl
      have q3 := sybeq wl
      exact sy_re0 hT e0 d1 s1 s2 d2 r1 r2 q1 f1 f2 f3 f4 q2 q3 h1c h2c s3 m1 s4 hp0 ww hsx h3c h4c wz yl n4 yl2 lp dg1 gc1 q7 q4 s5h s6h par fin
     ·rw [hg] at r1 r2
      have q1 := sybeq gl
      exact sy_xe0 hT e0 d1 s1 s2 d2 r1 r2 q1 ec0 h1c h2c s3 m1 s4 hp0 ww hsx h3c h4c wz yl n4 yl2 lp dg1 gc1 q7 q4 s5h s6h par fin
   ·rw [decide_eq_false hg1] at q4
    rcases hrest with ⟨g, u1, u2, u3, u4, v, w, hg, gl, vl, wl, f1, f2, f3, f4⟩ | ⟨g, ec, ec0, hg, gl⟩
    ·rw [hg] at r1 r2
     have q1 := sybeq gl
     have q2 := sybeq vl
     have q3 := sybeq wl
     exact sy_rg0 hT e0 d1 s1 s2 d2 r1 r2 q1 f1 f2 f3 f4 q2 q3 h1c h2c s3 m1 s4 hp0 ww hsx h3c h4c wz yl n4 yl2 lp dg1 gc1 q7 q4
    ·rw [hg] at r1 r2
     have q1 := sybeq gl
     exact sy_xg0 hT e0 d1 s1 s2 d2 r1 r2 q1 ec0 h1c h2c s3 m1 s4 hp0 ww hsx h3c h4c wz yl n4 yl2 lp dg1 gc1 q7 q4
  ·rw [if_neg hxl] at m1
   have s4 := hsy p (pad (row (0 : Fp p))) (pad (row M)) (pad_bytes _) (pad_length _) am.2 am.1
   rw [syD_ok (by rw [Pol.len_zero]; omega) hM h2 h13, row_zero] at s4
   by_cases hg1 : Pol.gcd y M = 1
   ·rw [decide_eq_true hg1] at q4
    by_cases par : ((M.len : Int) - 1).tmod 2 = 1 ∧ (n : Int).tmod 2 = 1
    ·obtain ⟨par1, par2⟩ := par
     have fin := rc1 ⟨t1.1 par1, t2.1 par2⟩
     rw [← Int.tmod_eq_emod_of_nonneg (by omega)] at fin
     rcases hrest with ⟨g, u1, u2, u3, u4, v, w, hg, gl, vl, wl, f1, f2, f3, f4⟩ | ⟨g, ec, ec0, hg, gl⟩
     ·rw [hg] at r1 r2
      have q1 := sybeq gl
      have q2 := sybeq vl
      have q3 := sybeq wl
      exact sy_ro3 hT e0 d1 s1 s2 d2 r1 r2 q1 f1 f2 f3 f4 q2 q3 h1c h2c s3 m1 s4 h3c h4c wz yl n4 yl2 lp dg1 gc1 q7 q4 s5h s6h par1 par2 hp0 wd fin
     ·rw [hg] at r1 r2
      have q1 := sybeq gl
      exact sy_xo3 hT e0 d1 s1 s2 d2 r1 r2 q1 ec0 h1c h2c s3 m1 s4 h3c h4c wz yl n4 yl2 lp dg1 gc1 q7 q4 s5h s6h par1 par2 hp0 wd fin
    ·have fin := rc2 fun h => par ⟨t1.2 h.1, t2.2 h.2⟩
     rcases hrest with ⟨g, u1, u2, u3, u4, v, w, hg, gl, vl, wl, f1, f2, f3, f4⟩ | ⟨g, ec, ec0, hg, gl⟩
     ·rw [hg] at r1 r2
      have q1 := sybeq gl
      have q2 := sybeq vl
      have q3 := sybeq wl
      exact sy_re3 hT e0 d1 s1 s2 d2 r1 r2 q1 f1 f2 f3 f4 q2 q3 h1c h2c s3 m1 s4 h3c h4c wz yl n4 yl2 lp dg1 gc1 q7 q4 s5h s6h par fin
     ·rw [hg] at r1 r2
      have q1 := sybeq gl
      exact sy_xe3 hT e0 d1 s1 s2 d2 r1 r2 q1 ec0 h1c h2c s3 m1 s4 h3c h4c wz yl n4 yl2 lp dg1 gc1 q7 q4 s5h s6h par fin
   ·rw [decide_eq_false hg1] at q4
    rcases hrest with ⟨g, u1, u2, u3, u4, v, w, hg, gl, vl, wl, f1, f2, f3, f4⟩ | ⟨g, ec, ec0, hg, gl⟩
    ·rw [hg] at r1 r2
     have q1 := sybeq gl
     have q2 := sybeq vl
     have q3 := sybeq wl
     exact sy_rg3 hT e0 d1 s1 s2 d2 r1 r2 q1 f1 f2 f3 f4 q2 q3 h1c h2c s3 m1 s4 h3c h4c wz yl n4 yl2 lp dg1 gc1 q7 q4
    ·rw [hg] at r1 r2
     have q1 := sybeq gl
     exact sy_xg3 hT e0 d1 s1 s2 d2 r1 r2 q1 ec0 h1c h2c s3 m1 s4 h3c h4c wz yl n4 yl2 lp dg1 gc1 q7 q4
 ·rw [hcd] at s1 s2
  rcases hrest with ⟨g, u1, u2, u3, u4, v, w, hg, gl, vl, wl, f1, f2, f3, f4⟩ | ⟨g, ec, ec0, hg, gl⟩
  ·rw [hg] at r1 r2
   exact sy_rb hT e0 d1 s1 s2 cd0 d2 r1 r2 (sybeq gl) f1 f2 f3 f4 (sybeq vl) (sybeq wl)
  ·rw [hg] at r1 r2
   exact sy_xb hT e0 d1 s1 s2 cd0 d2 r1 r2 (sybeq gl) ec0
end Pe

namespace Pe
open Go Gq
abbrev tyB : Ty := .sl (.int .u8)
theorem has_B {d : D} (h : tyB.has d) : ∃ l : List Int, d = .sl .leaf (ints .u8 l) ∧ Bytes l ∧ l.length ≤ 9223372036854775807 := by
 cases d <;> simp only [Ty.has] at h
 obtain ⟨rfl, h1, h2⟩ := h
 obtain ⟨l, rfl, hb⟩ := has_bytes _ h2
 exact ⟨l, rfl, hb, by simpa [ints] using h1⟩
end Pe
