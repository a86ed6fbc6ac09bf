/-
  A part of the proof: an evaluator for a small form of the code, its soundness, and contracts of functions over it.
-/
import Derived.Test.YtbangpnofnhhnaaProg
import Derived.KernelRfl
import Derived.Test.YtbangpnofnhhnaaW1
import Derived.Test.YtbangpnofnhhnaaW2
import Derived.Test.YtbangpnofnhhnaaW3
import Derived.Test.YtbangpnofnhhnaaW4
import Derived.Test.YtbangpnofnhhnaaW5
import Derived.Test.YtbangpnofnhhnaaW6

namespace Pe
open Go
def tab : List (Nat × Fn) := [(F_cmp_Compare_int, ir_cmp_Compare_int), (F_cmp_Compare_int64, ir_cmp_Compare_int64), (F_cmp_isNaN_int, ir_cmp_isNaN_int), (F_cmp_isNaN_int64, ir_cmp_isNaN_int64), (F_impl_AllDrinfeld, ir_impl_AllDrinfeld), (F_impl_AllDrinfeld_h, ir_impl_AllDrinfeld_h), (F_impl_IsPoly, ir_impl_IsPoly), (F_impl_allDrinfeld, ir_impl_allDrinfeld), (F_impl_allDrinfeld_h, ir_impl_allDrinfeld_h), (F_impl_areAll_byte, ir_impl_areAll_byte), (F_impl_areAll_byte_1, ir_impl_areAll_byte_1), (F_impl_areAll_impl_Poly, ir_impl_areAll_impl_Poly), (F_impl_areAll_impl_Poly_1, ir_impl_areAll_impl_Poly_1), (F_impl_compare, ir_impl_compare), (F_impl_fieldOf, ir_impl_fieldOf), (F_impl_isField, ir_impl_isField), (F_impl_isPoly, ir_impl_isPoly), (F_impl_isPoly_1, ir_impl_isPoly_1), (F_impl_isPrime, ir_impl_isPrime), (F_impl_letter, ir_impl_letter), (F_impl_polysCode, ir_impl_polysCode), (F_impl_polysCode_1, ir_impl_polysCode_1), (F_impl_prime_bezout, ir_impl_prime_bezout), (F_impl_prime_combine, ir_impl_prime_combine), (F_impl_prime_divide, ir_impl_prime_divide), (F_impl_prime_factors, ir_impl_prime_factors), (F_impl_prime_factors_1, ir_impl_prime_factors_1), (F_impl_prime_gcd, ir_impl_prime_gcd), (F_impl_prime_inverse, ir_impl_prime_inverse), (F_impl_prime_isIrreducible, ir_impl_prime_isIrreducible), (F_impl_prime_norm, ir_impl_prime_norm), (F_impl_prime_numbered, ir_impl_prime_numbered), (F_impl_prime_power, ir_impl_prime_power), (F_impl_prime_reduce, ir_impl_prime_reduce), (F_impl_prime_rest, ir_impl_prime_rest), (F_impl_prime_scale, ir_impl_prime_scale), (F_impl_prime_strip, ir_impl_prime_strip), (F_impl_prime_times, ir_impl_prime_times), (F_impl_prime_withDegree, ir_impl_prime_withDegree), (F_impl_rowOf, ir_impl_rowOf), (F_impl_row_at, ir_impl_row_at), (F_impl_row_degree, ir_impl_row_degree), (F_impl_row_lead, ir_impl_row_lead), (F_impl_row_poly, ir_impl_row_poly), (F_impl_row_trimmed, ir_impl_row_trimmed), (F_impl_within, ir_impl_within), (F_laws_FnExactAllDrinfeld, ir_laws_FnExactAllDrinfeld), (F_laws_eqDrinfeld, ir_laws_eqDrinfeld), (F_laws_eqDrinfeldS, ir_laws_eqDrinfeldS), (F_laws_eqPoly, ir_laws_eqPoly), (F_laws_heldDrinfeldS, ir_laws_heldDrinfeldS), (F_laws_markDrinfeldS, ir_laws_markDrinfeldS), (F_laws_toPoly, ir_laws_toPoly), (F_math_bits_Len, ir_math_bits_Len), (F_math_bits_Len64, ir_math_bits_Len64), (F_slices_ContainsFunc_byte_byte, ir_slices_ContainsFunc_byte_byte), (F_slices_ContainsFunc_impl_Poly_impl_Poly, ir_slices_ContainsFunc_impl_Poly_impl_Poly), (F_slices_IndexFunc_byte_byte, ir_slices_IndexFunc_byte_byte), (F_slices_IndexFunc_impl_Poly_impl_Poly, ir_slices_IndexFunc_impl_Poly_impl_Poly), (F_slices_SortFunc_impl_factor_impl_factor, ir_slices_SortFunc_impl_factor_impl_factor), (F_slices_insertionSortCmpFunc_impl_factor, ir_slices_insertionSortCmpFunc_impl_factor), (F_slices_pdqsortCmpFunc_impl_factor, ir_slices_pdqsortCmpFunc_impl_factor), (F_spec_AllDrinfeld, ir_spec_AllDrinfeld), (F_spec_l01Add, ir_spec_l01Add), (F_spec_l01Bezout, ir_spec_l01Bezout), (F_spec_l01Code, ir_spec_l01Code), (F_spec_l01Count, ir_spec_l01Count), (F_spec_l01Deg, ir_spec_l01Deg), (F_spec_l01Divide, ir_spec_l01Divide), (F_spec_l01Gcd, ir_spec_l01Gcd), (F_spec_l01In, ir_spec_l01In), (F_spec_l01Inverse, ir_spec_l01Inverse), (F_spec_l01Irreducible, ir_spec_l01Irreducible), (F_spec_l01Is, ir_spec_l01Is), (F_spec_l01Mod, ir_spec_l01Mod), (F_spec_l01Monic, ir_spec_l01Monic), (F_spec_l01MulMod, ir_spec_l01MulMod), (F_spec_l01Of, ir_spec_l01Of), (F_spec_l01One, ir_spec_l01One), (F_spec_l01PowMod, ir_spec_l01PowMod), (F_spec_l01Prime, ir_spec_l01Prime), (F_spec_l01T, ir_spec_l01T), (F_spec_l01Times, ir_spec_l01Times), (F_spec_l01Up, ir_spec_l01Up), (F_spec_l06All, ir_spec_l06All), (F_spec_l06Small, ir_spec_l06Small)]
def nums : List (Nat × Nat) := [(F_laws_toPoly, 7), (F_spec_l01Count, 21), (F_spec_l01Deg, 22), (F_spec_l01In, 47), (F_spec_l01Inverse, 98), (F_spec_l01Divide, 82), (F_spec_l01Mod, 61), (F_spec_l01One, 67), (F_spec_l01Add, 65), (F_spec_l01Up, 102), (F_spec_l01MulMod, 83), (F_spec_l01PowMod, 63), (F_spec_l01Times, 103), (F_spec_l01Bezout, 84), (F_spec_l01Gcd, 64), (F_spec_l01T, 62), (F_spec_l01Irreducible, 39), (F_spec_l01Prime, 72), (F_spec_l01Is, 73), (F_spec_l01Code, 45), (F_spec_l01Monic, 46), (F_spec_l06Small, 31), (F_spec_l01Of, 24), (F_spec_l06All, 32), (F_spec_AllDrinfeld, 12), (F_impl_row_trimmed, 51), (F_impl_rowOf, 26), (F_impl_row_degree, 28), (F_impl_prime_norm, 35), (F_impl_isPrime, 54), (F_slices_IndexFunc_impl_Poly_impl_Poly, 99), (F_slices_ContainsFunc_impl_Poly_impl_Poly, 78), (F_impl_areAll_impl_Poly_1, 79), (F_impl_areAll_impl_Poly, 55), (F_slices_IndexFunc_byte_byte, 111), (F_slices_ContainsFunc_byte_byte, 100), (F_impl_areAll_byte_1, 101), (F_impl_areAll_byte, 80), (F_impl_isPoly_1, 81), (F_impl_isPoly, 57), (F_impl_polysCode_1, 56), (F_impl_polysCode, 33), (F_impl_prime_reduce, 105), (F_impl_row_at, 77), (F_impl_prime_combine, 89), (F_impl_prime_times, 97), (F_impl_prime_scale, 85), (F_impl_prime_inverse, 86), (F_impl_row_lead, 49), (F_slices_Clone_impl_row_int64_h, 112), (F_impl_prime_divide, 106), (F_impl_prime_bezout, 104), (F_impl_prime_gcd, 88), (F_impl_prime_rest, 95), (F_impl_prime_power, 76), (F_impl_letter, 87), (F_impl_prime_numbered, 52), (F_impl_prime_withDegree, 90), (F_impl_prime_strip, 91), (F_slices_insertionSortCmpFunc_impl_factor, 113), (F_slices_siftDownCmpFunc_impl_factor, 125), (F_slices_heapSortCmpFunc_impl_factor, 114), (F_math_bits_Len32, 121), (F_math_bits_Len64, 122), (F_math_bits_Len, 108), (F_slices_nextPowerOfTwo, 126), (F_slices_xorshift_Next, 127), (F_slices_breakPatternsCmpFunc_impl_factor, 115), (F_slices_order2CmpFunc_impl_factor, 130), (F_slices_medianCmpFunc_impl_factor, 129), (F_slices_medianAdjacentCmpFunc_impl_factor, 128), (F_slices_choosePivotCmpFunc_impl_factor, 116), (F_slices_reverseRangeCmpFunc_impl_factor, 117), (F_slices_partialInsertionSortCmpFunc_impl_factor, 118), (F_slices_partitionEqualCmpFunc_impl_factor, 119), (F_slices_partitionCmpFunc_impl_factor, 120), (F_slices_pdqsortCmpFunc_impl_factor, 107), (F_slices_SortFunc_impl_factor_impl_factor, 92), (F_cmp_isNaN_int, 123), (F_cmp_Compare_int, 109), (F_cmp_isNaN_int64, 124), (F_cmp_Compare_int64, 110), (F_impl_compare, 94), (F_impl_prime_factors_1, 93), (F_impl_prime_factors, 69), (F_impl_prime_isIrreducible, 42), (F_impl_within, 50), (F_impl_IsPoly, 58), (F_impl_isField, 34), (F_impl_fieldOf, 59), (F_impl_row_poly, 60), (F_impl_allDrinfeld, 36), (F_impl_AllDrinfeld, 13), (F_impl_allDrinfeld_h, 36), (F_impl_AllDrinfeld_h, 13), (F_laws_eqPoly, 19), (F_laws_eqDrinfeld, 37), (F_laws_eqDrinfeldS, 14), (F_laws_markDrinfeldS, 15), (F_laws_heldDrinfeldS, 16), (F_laws_FnExactAllDrinfeld, 4)]
def tabF (f : Nat) : Option Fn := tab.lookup f
def numF (f : Nat) : Nat := (nums.lookup f).getD 0
theorem ok_cmp_Compare_int : okAt Go.Proofs.Try.prog numF (numF F_cmp_Compare_int) ir_cmp_Compare_int = true := by kernel_rfl
theorem ok_cmp_Compare_int64 : okAt Go.Proofs.Try.prog numF (numF F_cmp_Compare_int64) ir_cmp_Compare_int64 = true := by kernel_rfl
theorem ok_cmp_isNaN_int : okAt Go.Proofs.Try.prog numF (numF F_cmp_isNaN_int) ir_cmp_isNaN_int = true := by kernel_rfl
theorem ok_cmp_isNaN_int64 : okAt Go.Proofs.Try.prog numF (numF F_cmp_isNaN_int64) ir_cmp_isNaN_int64 = true := by kernel_rfl
theorem ok_impl_AllDrinfeld : okAt Go.Proofs.Try.prog numF (numF F_impl_AllDrinfeld) ir_impl_AllDrinfeld = true := by kernel_rfl
theorem ok_impl_AllDrinfeld_h : okAt Go.Proofs.Try.prog numF (numF F_impl_AllDrinfeld_h) ir_impl_AllDrinfeld_h = true := by kernel_rfl
theorem ok_impl_IsPoly : okAt Go.Proofs.Try.prog numF (numF F_impl_IsPoly) ir_impl_IsPoly = true := by kernel_rfl
theorem ok_impl_allDrinfeld : okAt Go.Proofs.Try.prog numF (numF F_impl_allDrinfeld) ir_impl_allDrinfeld = true := by kernel_rfl
theorem ok_impl_allDrinfeld_h : okAt Go.Proofs.Try.prog numF (numF F_impl_allDrinfeld_h) ir_impl_allDrinfeld_h = true := by kernel_rfl
theorem ok_impl_areAll_byte : okAt Go.Proofs.Try.prog numF (numF F_impl_areAll_byte) ir_impl_areAll_byte = true := by kernel_rfl
theorem ok_impl_areAll_byte_1 : okAt Go.Proofs.Try.prog numF (numF F_impl_areAll_byte_1) ir_impl_areAll_byte_1 = true := by kernel_rfl
theorem ok_impl_areAll_impl_Poly : okAt Go.Proofs.Try.prog numF (numF F_impl_areAll_impl_Poly) ir_impl_areAll_impl_Poly = true := by kernel_rfl
theorem ok_impl_areAll_impl_Poly_1 : okAt Go.Proofs.Try.prog numF (numF F_impl_areAll_impl_Poly_1) ir_impl_areAll_impl_Poly_1 = true := by kernel_rfl
theorem ok_impl_compare : okAt Go.Proofs.Try.prog numF (numF F_impl_compare) ir_impl_compare = true := by kernel_rfl
theorem ok_impl_fieldOf : okAt Go.Proofs.Try.prog numF (numF F_impl_fieldOf) ir_impl_fieldOf = true := by kernel_rfl
theorem ok_impl_isField : okAt Go.Proofs.Try.prog numF (numF F_impl_isField) ir_impl_isField = true := by kernel_rfl
theorem ok_impl_isPoly : okAt Go.Proofs.Try.prog numF (numF F_impl_isPoly) ir_impl_isPoly = true := by kernel_rfl
theorem ok_impl_isPoly_1 : okAt Go.Proofs.Try.prog numF (numF F_impl_isPoly_1) ir_impl_isPoly_1 = true := by kernel_rfl
theorem ok_impl_isPrime : okAt Go.Proofs.Try.prog numF (numF F_impl_isPrime) ir_impl_isPrime = true := by kernel_rfl
theorem ok_impl_letter : okAt Go.Proofs.Try.prog numF (numF F_impl_letter) ir_impl_letter = true := by kernel_rfl
theorem ok_impl_polysCode : okAt Go.Proofs.Try.prog numF (numF F_impl_polysCode) ir_impl_polysCode = true := by kernel_rfl
theorem ok_impl_polysCode_1 : okAt Go.Proofs.Try.prog numF (numF F_impl_polysCode_1) ir_impl_polysCode_1 = true := by kernel_rfl
theorem ok_impl_prime_bezout : okAt Go.Proofs.Try.prog numF (numF F_impl_prime_bezout) ir_impl_prime_bezout = true := by kernel_rfl
theorem ok_impl_prime_combine : okAt Go.Proofs.Try.prog numF (numF F_impl_prime_combine) ir_impl_prime_combine = true := by kernel_rfl
theorem ok_impl_prime_divide : okAt Go.Proofs.Try.prog numF (numF F_impl_prime_divide) ir_impl_prime_divide = true := by kernel_rfl
theorem ok_impl_prime_factors : okAt Go.Proofs.Try.prog numF (numF F_impl_prime_factors) ir_impl_prime_factors = true := by kernel_rfl
theorem ok_impl_prime_factors_1 : okAt Go.Proofs.Try.prog numF (numF F_impl_prime_factors_1) ir_impl_prime_factors_1 = true := by kernel_rfl
theorem ok_impl_prime_gcd : okAt Go.Proofs.Try.prog numF (numF F_impl_prime_gcd) ir_impl_prime_gcd = true := by kernel_rfl
theorem ok_impl_prime_inverse : okAt Go.Proofs.Try.prog numF (numF F_impl_prime_inverse) ir_impl_prime_inverse = true := by kernel_rfl
theorem ok_impl_prime_isIrreducible : okAt Go.Proofs.Try.prog numF (numF F_impl_prime_isIrreducible) ir_impl_prime_isIrreducible = true := by kernel_rfl
theorem ok_impl_prime_norm : okAt Go.Proofs.Try.prog numF (numF F_impl_prime_norm) ir_impl_prime_norm = true := by kernel_rfl
theorem ok_impl_prime_numbered : okAt Go.Proofs.Try.prog numF (numF F_impl_prime_numbered) ir_impl_prime_numbered = true := by kernel_rfl
theorem ok_impl_prime_power : okAt Go.Proofs.Try.prog numF (numF F_impl_prime_power) ir_impl_prime_power = true := by kernel_rfl
theorem ok_impl_prime_reduce : okAt Go.Proofs.Try.prog numF (numF F_impl_prime_reduce) ir_impl_prime_reduce = true := by kernel_rfl
theorem ok_impl_prime_rest : okAt Go.Proofs.Try.prog numF (numF F_impl_prime_rest) ir_impl_prime_rest = true := by kernel_rfl
theorem ok_impl_prime_scale : okAt Go.Proofs.Try.prog numF (numF F_impl_prime_scale) ir_impl_prime_scale = true := by kernel_rfl
theorem ok_impl_prime_strip : okAt Go.Proofs.Try.prog numF (numF F_impl_prime_strip) ir_impl_prime_strip = true := by kernel_rfl
theorem ok_impl_prime_times : okAt Go.Proofs.Try.prog numF (numF F_impl_prime_times) ir_impl_prime_times = true := by kernel_rfl
theorem ok_impl_prime_withDegree : okAt Go.Proofs.Try.prog numF (numF F_impl_prime_withDegree) ir_impl_prime_withDegree = true := by kernel_rfl
theorem ok_impl_rowOf : okAt Go.Proofs.Try.prog numF (numF F_impl_rowOf) ir_impl_rowOf = true := by kernel_rfl
theorem ok_impl_row_at : okAt Go.Proofs.Try.prog numF (numF F_impl_row_at) ir_impl_row_at = true := by kernel_rfl
theorem ok_impl_row_degree : okAt Go.Proofs.Try.prog numF (numF F_impl_row_degree) ir_impl_row_degree = true := by kernel_rfl
theorem ok_impl_row_lead : okAt Go.Proofs.Try.prog numF (numF F_impl_row_lead) ir_impl_row_lead = true := by kernel_rfl
theorem ok_impl_row_poly : okAt Go.Proofs.Try.prog numF (numF F_impl_row_poly) ir_impl_row_poly = true := by kernel_rfl
theorem ok_impl_row_trimmed : okAt Go.Proofs.Try.prog numF (numF F_impl_row_trimmed) ir_impl_row_trimmed = true := by kernel_rfl
theorem ok_impl_within : okAt Go.Proofs.Try.prog numF (numF F_impl_within) ir_impl_within = true := by kernel_rfl
theorem ok_laws_FnExactAllDrinfeld : okAt Go.Proofs.Try.prog numF (numF F_laws_FnExactAllDrinfeld) ir_laws_FnExactAllDrinfeld = true := by kernel_rfl
theorem ok_laws_eqDrinfeld : okAt Go.Proofs.Try.prog numF (numF F_laws_eqDrinfeld) ir_laws_eqDrinfeld = true := by kernel_rfl
theorem ok_laws_eqDrinfeldS : okAt Go.Proofs.Try.prog numF (numF F_laws_eqDrinfeldS) ir_laws_eqDrinfeldS = true := by kernel_rfl
theorem ok_laws_eqPoly : okAt Go.Proofs.Try.prog numF (numF F_laws_eqPoly) ir_laws_eqPoly = true := by kernel_rfl
theorem ok_laws_heldDrinfeldS : okAt Go.Proofs.Try.prog numF (numF F_laws_heldDrinfeldS) ir_laws_heldDrinfeldS = true := by kernel_rfl
theorem ok_laws_markDrinfeldS : okAt Go.Proofs.Try.prog numF (numF F_laws_markDrinfeldS) ir_laws_markDrinfeldS = true := by kernel_rfl
theorem ok_laws_toPoly : okAt Go.Proofs.Try.prog numF (numF F_laws_toPoly) ir_laws_toPoly = true := by kernel_rfl
theorem ok_math_bits_Len : okAt Go.Proofs.Try.prog numF (numF F_math_bits_Len) ir_math_bits_Len = true := by kernel_rfl
theorem ok_math_bits_Len64 : okAt Go.Proofs.Try.prog numF (numF F_math_bits_Len64) ir_math_bits_Len64 = true := by kernel_rfl
theorem ok_slices_ContainsFunc_byte_byte : okAt Go.Proofs.Try.prog numF (numF F_slices_ContainsFunc_byte_byte) ir_slices_ContainsFunc_byte_byte = true := by kernel_rfl
theorem ok_slices_ContainsFunc_impl_Poly_impl_Poly : okAt Go.Proofs.Try.prog numF (numF F_slices_ContainsFunc_impl_Poly_impl_Poly) ir_slices_ContainsFunc_impl_Poly_impl_Poly = true := by kernel_rfl
theorem ok_slices_IndexFunc_byte_byte : okAt Go.Proofs.Try.prog numF (numF F_slices_IndexFunc_byte_byte) ir_slices_IndexFunc_byte_byte = true := by kernel_rfl
theorem ok_slices_IndexFunc_impl_Poly_impl_Poly : okAt Go.Proofs.Try.prog numF (numF F_slices_IndexFunc_impl_Poly_impl_Poly) ir_slices_IndexFunc_impl_Poly_impl_Poly = true := by kernel_rfl
theorem ok_slices_SortFunc_impl_factor_impl_factor : okAt Go.Proofs.Try.prog numF (numF F_slices_SortFunc_impl_factor_impl_factor) ir_slices_SortFunc_impl_factor_impl_factor = true := by kernel_rfl
theorem ok_slices_insertionSortCmpFunc_impl_factor : okAt Go.Proofs.Try.prog numF (numF F_slices_insertionSortCmpFunc_impl_factor) ir_slices_insertionSortCmpFunc_impl_factor = true := by kernel_rfl
theorem ok_slices_pdqsortCmpFunc_impl_factor : okAt Go.Proofs.Try.prog numF (numF F_slices_pdqsortCmpFunc_impl_factor) ir_slices_pdqsortCmpFunc_impl_factor = true := by kernel_rfl
theorem ok_spec_AllDrinfeld : okAt Go.Proofs.Try.prog numF (numF F_spec_AllDrinfeld) ir_spec_AllDrinfeld = true := by kernel_rfl
theorem ok_spec_l01Add : okAt Go.Proofs.Try.prog numF (numF F_spec_l01Add) ir_spec_l01Add = true := by kernel_rfl
theorem ok_spec_l01Bezout : okAt Go.Proofs.Try.prog numF (numF F_spec_l01Bezout) ir_spec_l01Bezout = true := by kernel_rfl
theorem ok_spec_l01Code : okAt Go.Proofs.Try.prog numF (numF F_spec_l01Code) ir_spec_l01Code = true := by kernel_rfl
theorem ok_spec_l01Count : okAt Go.Proofs.Try.prog numF (numF F_spec_l01Count) ir_spec_l01Count = true := by kernel_rfl
theorem ok_spec_l01Deg : okAt Go.Proofs.Try.prog numF (numF F_spec_l01Deg) ir_spec_l01Deg = true := by kernel_rfl
theorem ok_spec_l01Divide : okAt Go.Proofs.Try.prog numF (numF F_spec_l01Divide) ir_spec_l01Divide = true := by kernel_rfl
theorem ok_spec_l01Gcd : okAt Go.Proofs.Try.prog numF (numF F_spec_l01Gcd) ir_spec_l01Gcd = true := by kernel_rfl
theorem ok_spec_l01In : okAt Go.Proofs.Try.prog numF (numF F_spec_l01In) ir_spec_l01In = true := by kernel_rfl
theorem ok_spec_l01Inverse : okAt Go.Proofs.Try.prog numF (numF F_spec_l01Inverse) ir_spec_l01Inverse = true := by kernel_rfl
theorem ok_spec_l01Irreducible : okAt Go.Proofs.Try.prog numF (numF F_spec_l01Irreducible) ir_spec_l01Irreducible = true := by kernel_rfl
theorem ok_spec_l01Is : okAt Go.Proofs.Try.prog numF (numF F_spec_l01Is) ir_spec_l01Is = true := by kernel_rfl
theorem ok_spec_l01Mod : okAt Go.Proofs.Try.prog numF (numF F_spec_l01Mod) ir_spec_l01Mod = true := by kernel_rfl
theorem ok_spec_l01Monic : okAt Go.Proofs.Try.prog numF (numF F_spec_l01Monic) ir_spec_l01Monic = true := by kernel_rfl
theorem ok_spec_l01MulMod : okAt Go.Proofs.Try.prog numF (numF F_spec_l01MulMod) ir_spec_l01MulMod = true := by kernel_rfl
theorem ok_spec_l01Of : okAt Go.Proofs.Try.prog numF (numF F_spec_l01Of) ir_spec_l01Of = true := by kernel_rfl
theorem ok_spec_l01One : okAt Go.Proofs.Try.prog numF (numF F_spec_l01One) ir_spec_l01One = true := by kernel_rfl
theorem ok_spec_l01PowMod : okAt Go.Proofs.Try.prog numF (numF F_spec_l01PowMod) ir_spec_l01PowMod = true := by kernel_rfl
theorem ok_spec_l01Prime : okAt Go.Proofs.Try.prog numF (numF F_spec_l01Prime) ir_spec_l01Prime = true := by kernel_rfl
theorem ok_spec_l01T : okAt Go.Proofs.Try.prog numF (numF F_spec_l01T) ir_spec_l01T = true := by kernel_rfl
theorem ok_spec_l01Times : okAt Go.Proofs.Try.prog numF (numF F_spec_l01Times) ir_spec_l01Times = true := by kernel_rfl
theorem ok_spec_l01Up : okAt Go.Proofs.Try.prog numF (numF F_spec_l01Up) ir_spec_l01Up = true := by kernel_rfl
theorem ok_spec_l06All : okAt Go.Proofs.Try.prog numF (numF F_spec_l06All) ir_spec_l06All = true := by kernel_rfl
theorem ok_spec_l06Small : okAt Go.Proofs.Try.prog numF (numF F_spec_l06Small) ir_spec_l06Small = true := by kernel_rfl
theorem tab_ok : ∀ f fn, tabF f = some fn → ∃ g, Go.Proofs.Try.prog.funcs[numF f]? = some g ∧ fnOk Go.Proofs.Try.prog numF fn g = true := tab_sound (l := tab) ⟨ok_cmp_Compare_int, ok_cmp_Compare_int64, ok_cmp_isNaN_int, ok_cmp_isNaN_int64, ok_impl_AllDrinfeld, ok_impl_AllDrinfeld_h, ok_impl_IsPoly, ok_impl_allDrinfeld, ok_impl_allDrinfeld_h, ok_impl_areAll_byte, ok_impl_areAll_byte_1, ok_impl_areAll_impl_Poly, ok_impl_areAll_impl_Poly_1, ok_impl_compare, ok_impl_fieldOf, ok_impl_isField, ok_impl_isPoly, ok_impl_isPoly_1, ok_impl_isPrime, ok_impl_letter, ok_impl_polysCode, ok_impl_polysCode_1, ok_impl_prime_bezout, ok_impl_prime_combine, ok_impl_prime_divide, ok_impl_prime_factors, ok_impl_prime_factors_1, ok_impl_prime_gcd, ok_impl_prime_inverse, ok_impl_prime_isIrreducible, ok_impl_prime_norm, ok_impl_prime_numbered, ok_impl_prime_power, ok_impl_prime_reduce, ok_impl_prime_rest, ok_impl_prime_scale, ok_impl_prime_strip, ok_impl_prime_times, ok_impl_prime_withDegree, ok_impl_rowOf, ok_impl_row_at, ok_impl_row_degree, ok_impl_row_lead, ok_impl_row_poly, ok_impl_row_trimmed, ok_impl_within, ok_laws_FnExactAllDrinfeld, ok_laws_eqDrinfeld, ok_laws_eqDrinfeldS, ok_laws_eqPoly, ok_laws_heldDrinfeldS, ok_laws_markDrinfeldS, ok_laws_toPoly, ok_math_bits_Len, ok_math_bits_Len64, ok_slices_ContainsFunc_byte_byte, ok_slices_ContainsFunc_impl_Poly_impl_Poly, ok_slices_IndexFunc_byte_byte, ok_slices_IndexFunc_impl_Poly_impl_Poly, ok_slices_SortFunc_impl_factor_impl_factor, ok_slices_insertionSortCmpFunc_impl_factor, ok_slices_pdqsortCmpFunc_impl_factor, ok_spec_AllDrinfeld, ok_spec_l01Add, ok_spec_l01Bezout, ok_spec_l01Code, ok_spec_l01Count, ok_spec_l01Deg, ok_spec_l01Divide, ok_spec_l01Gcd, ok_spec_l01In, ok_spec_l01Inverse, ok_spec_l01Irreducible, ok_spec_l01Is, ok_spec_l01Mod, ok_spec_l01Monic, ok_spec_l01MulMod, ok_spec_l01Of, ok_spec_l01One, ok_spec_l01PowMod, ok_spec_l01Prime, ok_spec_l01T, ok_spec_l01Times, ok_spec_l01Up, ok_spec_l06All, ok_spec_l06Small, trivial⟩
def cloneIds (f : Nat) : Option (Sh × D × Nat) := if f = F_slices_Clone_impl_row_int64_h then some (.leaf, .int .i64 0, 8) else none
theorem mixed : Go.Proofs.Try.prog.follows .mixedOrders = true := by kernel_rfl
theorem clones_ok : ∀ f s z bytes, cloneIds f = some (s, z, bytes) → Sh.beq s s = true ∧ ∃ g, Go.Proofs.Try.prog.funcs[numF f]? = some g ∧ fnOk Go.Proofs.Try.prog numF (cloneFn s z bytes) g = true ∧ (match g.body with | some x => cloneShape x | none => false) = true := by
  intro f s z bytes h
  unfold cloneIds at h
  split at h
  · rename_i hf
    subst hf
    obtain ⟨rfl, rfl, rfl⟩ : Sh.leaf = s ∧ D.int .i64 0 = z ∧ 8 = bytes := by simpa using h
    refine ⟨rfl, ?_⟩
    have h1 : (match Go.Proofs.Try.prog.funcs[numF F_slices_Clone_impl_row_int64_h]? with | some g => fnOk Go.Proofs.Try.prog numF (cloneFn .leaf (.int .i64 0) 8) g && (match g.body with | some x => cloneShape x | none => false) | none => false) = true := by kernel_rfl
    split at h1
    · rename_i g hg
      simp only [Bool.and_eq_true] at h1
      exact ⟨g, hg, h1.1, h1.2⟩
    · cases h1
  · cases h
theorem sound : CallOk Go.Proofs.Try.prog numF (den tabF (cloneA cloneIds)) := den_sound tab_ok (cloneA_sound mixed clones_ok) mixed
end Pe
