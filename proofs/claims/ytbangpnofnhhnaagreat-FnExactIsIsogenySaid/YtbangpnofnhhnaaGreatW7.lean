/-
  A part of the proof: an evaluator for a small form of the code, its soundness, and contracts of functions over it.
-/
import Derived.Test.YtbangpnofnhhnaaGreatProg
import Derived.KernelRfl
import Derived.Test.YtbangpnofnhhnaaGreatW1
import Derived.Test.YtbangpnofnhhnaaGreatW2
import Derived.Test.YtbangpnofnhhnaaGreatW3
import Derived.Test.YtbangpnofnhhnaaGreatW4
import Derived.Test.YtbangpnofnhhnaaGreatW5
import Derived.Test.YtbangpnofnhhnaaGreatW6

namespace Pe
open Go
def tab : List (Nat × Fn) := [(F_cmp_Compare_int, ir_cmp_Compare_int), (F_cmp_Compare_int64, ir_cmp_Compare_int64), (F_cmp_isNaN_int, ir_cmp_isNaN_int), (F_cmp_isNaN_int64, ir_cmp_isNaN_int64), (F_impl_Drinfeld_field, ir_impl_Drinfeld_field), (F_impl_Drinfeld_letterAction, ir_impl_Drinfeld_letterAction), (F_impl_IsDrinfeld, ir_impl_IsDrinfeld), (F_impl_IsIsogeny, ir_impl_IsIsogeny), (F_impl_IsPoly, ir_impl_IsPoly), (F_impl_areAll_byte, ir_impl_areAll_byte), (F_impl_areAll_byte_1, ir_impl_areAll_byte_1), (F_impl_areAll_impl_Poly, ir_impl_areAll_impl_Poly), (F_impl_areAll_impl_Poly_1, ir_impl_areAll_impl_Poly_1), (F_impl_compare, ir_impl_compare), (F_impl_drinfeldCode, ir_impl_drinfeldCode), (F_impl_drinfeldCode_1, ir_impl_drinfeldCode_1), (F_impl_fieldOf, ir_impl_fieldOf), (F_impl_field_by, ir_impl_field_by), (F_impl_field_frobenius, ir_impl_field_frobenius), (F_impl_field_isResidue, ir_impl_field_isResidue), (F_impl_field_plus, ir_impl_field_plus), (F_impl_field_product, ir_impl_field_product), (F_impl_isField, ir_impl_isField), (F_impl_isPoly, ir_impl_isPoly), (F_impl_isPoly_1, ir_impl_isPoly_1), (F_impl_isPrime, ir_impl_isPrime), (F_impl_letter, ir_impl_letter), (F_impl_pairCode, ir_impl_pairCode), (F_impl_prime_bezout, ir_impl_prime_bezout), (F_impl_prime_combine, ir_impl_prime_combine), (F_impl_prime_divide, ir_impl_prime_divide), (F_impl_prime_factors, ir_impl_prime_factors), (F_impl_prime_factors_1, ir_impl_prime_factors_1), (F_impl_prime_gcd, ir_impl_prime_gcd), (F_impl_prime_inverse, ir_impl_prime_inverse), (F_impl_prime_isIrreducible, ir_impl_prime_isIrreducible), (F_impl_prime_norm, ir_impl_prime_norm), (F_impl_prime_numbered, ir_impl_prime_numbered), (F_impl_prime_power, ir_impl_prime_power), (F_impl_prime_reduce, ir_impl_prime_reduce), (F_impl_prime_rest, ir_impl_prime_rest), (F_impl_prime_scale, ir_impl_prime_scale), (F_impl_prime_strip, ir_impl_prime_strip), (F_impl_prime_times, ir_impl_prime_times), (F_impl_prime_withDegree, ir_impl_prime_withDegree), (F_impl_rowOf, ir_impl_rowOf), (F_impl_row_at, ir_impl_row_at), (F_impl_row_degree, ir_impl_row_degree), (F_impl_row_lead, ir_impl_row_lead), (F_impl_row_trimmed, ir_impl_row_trimmed), (F_impl_rows, ir_impl_rows), (F_impl_skew_at, ir_impl_skew_at), (F_impl_skew_trimmed, ir_impl_skew_trimmed), (F_impl_within, ir_impl_within), (F_laws_FnExactIsIsogeny, ir_laws_FnExactIsIsogeny), (F_laws_eqPoly, ir_laws_eqPoly), (F_laws_eqPolyS, ir_laws_eqPolyS), (F_laws_szPolyS, ir_laws_szPolyS), (F_laws_toDrinfeld, ir_laws_toDrinfeld), (F_laws_toPoly, ir_laws_toPoly), (F_laws_toPolyS, ir_laws_toPolyS), (F_math_bits_Len, ir_math_bits_Len), (F_math_bits_Len64, ir_math_bits_Len64), (F_slices_ContainsFunc_byte_byte, ir_slices_ContainsFunc_byte_byte), (F_slices_ContainsFunc_impl_Poly_impl_Poly, ir_slices_ContainsFunc_impl_Poly_impl_Poly), (F_slices_IndexFunc_byte_byte, ir_slices_IndexFunc_byte_byte), (F_slices_IndexFunc_impl_Poly_impl_Poly, ir_slices_IndexFunc_impl_Poly_impl_Poly), (F_slices_SortFunc_impl_factor_impl_factor, ir_slices_SortFunc_impl_factor_impl_factor), (F_slices_insertionSortCmpFunc_impl_factor, ir_slices_insertionSortCmpFunc_impl_factor), (F_slices_pdqsortCmpFunc_impl_factor, ir_slices_pdqsortCmpFunc_impl_factor), (F_spec_IsIsogeny, ir_spec_IsIsogeny), (F_spec_l01Add, ir_spec_l01Add), (F_spec_l01Bezout, ir_spec_l01Bezout), (F_spec_l01Code, ir_spec_l01Code), (F_spec_l01Deg, ir_spec_l01Deg), (F_spec_l01Divide, ir_spec_l01Divide), (F_spec_l01Gcd, ir_spec_l01Gcd), (F_spec_l01In, ir_spec_l01In), (F_spec_l01Inverse, ir_spec_l01Inverse), (F_spec_l01Irreducible, ir_spec_l01Irreducible), (F_spec_l01Is, ir_spec_l01Is), (F_spec_l01Mod, ir_spec_l01Mod), (F_spec_l01Monic, ir_spec_l01Monic), (F_spec_l01MulMod, ir_spec_l01MulMod), (F_spec_l01One, ir_spec_l01One), (F_spec_l01PowMod, ir_spec_l01PowMod), (F_spec_l01Prime, ir_spec_l01Prime), (F_spec_l01T, ir_spec_l01T), (F_spec_l01Times, ir_spec_l01Times), (F_spec_l01Up, ir_spec_l01Up), (F_spec_l04Trim, ir_spec_l04Trim), (F_spec_l06Both, ir_spec_l06Both), (F_spec_l06Compose, ir_spec_l06Compose), (F_spec_l06Is, ir_spec_l06Is), (F_spec_l06T, ir_spec_l06T), (F_spec_l06Times, ir_spec_l06Times), (F_spec_l06Up, ir_spec_l06Up)]
def nums : List (Nat × Nat) := [(F_laws_toPoly, 14), (F_laws_toDrinfeld, 13), (F_laws_szPolyS, 26), (F_laws_toPolyS, 28), (F_laws_eqPoly, 19), (F_laws_eqPolyS, 30), (F_spec_l01Deg, 88), (F_spec_l01In, 134), (F_spec_l01Inverse, 154), (F_spec_l01Divide, 147), (F_spec_l01Mod, 107), (F_spec_l01One, 142), (F_spec_l01Add, 108), (F_spec_l01Up, 149), (F_spec_l01MulMod, 120), (F_spec_l01PowMod, 98), (F_spec_l01Times, 159), (F_spec_l01Bezout, 141), (F_spec_l01Gcd, 157), (F_spec_l01T, 110), (F_spec_l01Irreducible, 135), (F_spec_l01Prime, 136), (F_spec_l01Is, 119), (F_spec_l01Code, 86), (F_spec_l01Monic, 133), (F_spec_l06Is, 85), (F_spec_l06Both, 87), (F_spec_l06Times, 97), (F_spec_l06Up, 109), (F_spec_l04Trim, 137), (F_spec_l06Compose, 89), (F_spec_l06T, 90), (F_spec_IsIsogeny, 43), (F_impl_row_trimmed, 106), (F_impl_rowOf, 52), (F_impl_row_degree, 67), (F_slices_IndexFunc_byte_byte, 175), (F_slices_ContainsFunc_byte_byte, 160), (F_impl_areAll_byte_1, 161), (F_impl_areAll_byte, 143), (F_impl_isPoly_1, 144), (F_impl_isPoly, 101), (F_impl_field_isResidue, 50), (F_impl_fieldOf, 64), (F_impl_prime_reduce, 113), (F_impl_row_at, 114), (F_impl_prime_combine, 56), (F_impl_prime_times, 146), (F_impl_prime_scale, 128), (F_impl_prime_inverse, 129), (F_impl_row_lead, 130), (F_slices_Clone_impl_row_int64_h, 148), (F_impl_prime_divide, 112), (F_impl_prime_bezout, 145), (F_impl_prime_gcd, 176), (F_impl_prime_rest, 55), (F_impl_prime_power, 103), (F_impl_letter, 111), (F_impl_prime_numbered, 69), (F_impl_prime_norm, 70), (F_impl_prime_withDegree, 177), (F_impl_prime_strip, 178), (F_slices_insertionSortCmpFunc_impl_factor, 191), (F_slices_siftDownCmpFunc_impl_factor, 201), (F_slices_heapSortCmpFunc_impl_factor, 192), (F_math_bits_Len32, 173), (F_math_bits_Len64, 174), (F_math_bits_Len, 156), (F_slices_nextPowerOfTwo, 183), (F_slices_xorshift_Next, 184), (F_slices_breakPatternsCmpFunc_impl_factor, 193), (F_slices_order2CmpFunc_impl_factor, 204), (F_slices_medianCmpFunc_impl_factor, 203), (F_slices_medianAdjacentCmpFunc_impl_factor, 202), (F_slices_choosePivotCmpFunc_impl_factor, 194), (F_slices_reverseRangeCmpFunc_impl_factor, 195), (F_slices_partialInsertionSortCmpFunc_impl_factor, 196), (F_slices_partitionEqualCmpFunc_impl_factor, 197), (F_slices_partitionCmpFunc_impl_factor, 198), (F_slices_pdqsortCmpFunc_impl_factor, 187), (F_slices_SortFunc_impl_factor_impl_factor, 179), (F_cmp_isNaN_int, 199), (F_cmp_Compare_int, 188), (F_cmp_isNaN_int64, 200), (F_cmp_Compare_int64, 189), (F_impl_compare, 181), (F_impl_prime_factors_1, 180), (F_impl_prime_factors, 163), (F_impl_prime_isIrreducible, 151), (F_impl_within, 92), (F_impl_isPrime, 162), (F_impl_IsPoly, 150), (F_impl_isField, 122), (F_impl_IsDrinfeld, 99), (F_slices_IndexFunc_impl_Poly_impl_Poly, 158), (F_slices_ContainsFunc_impl_Poly_impl_Poly, 138), (F_impl_areAll_impl_Poly_1, 139), (F_impl_areAll_impl_Poly, 93), (F_impl_drinfeldCode_1, 100), (F_impl_drinfeldCode, 48), (F_impl_Drinfeld_field, 49), (F_impl_Drinfeld_letterAction, 54), (F_impl_rows, 76), (F_impl_skew_trimmed, 94), (F_impl_field_product, 104), (F_impl_field_frobenius, 115), (F_impl_field_by, 79), (F_impl_pairCode, 91), (F_impl_skew_at, 140), (F_impl_field_plus, 95), (F_impl_IsIsogeny, 44), (F_laws_FnExactIsIsogeny, 11)]
def tabF (f : Nat) : Option Fn := tab.lookup f
def numF (f : Nat) : Nat := (nums.lookup f).getD 0
theorem ok_cmp_Compare_int : okAt Go.Proofs.Tryz.prog numF (numF F_cmp_Compare_int) ir_cmp_Compare_int = true := by kernel_rfl
theorem ok_cmp_Compare_int64 : okAt Go.Proofs.Tryz.prog numF (numF F_cmp_Compare_int64) ir_cmp_Compare_int64 = true := by kernel_rfl
theorem ok_cmp_isNaN_int : okAt Go.Proofs.Tryz.prog numF (numF F_cmp_isNaN_int) ir_cmp_isNaN_int = true := by kernel_rfl
theorem ok_cmp_isNaN_int64 : okAt Go.Proofs.Tryz.prog numF (numF F_cmp_isNaN_int64) ir_cmp_isNaN_int64 = true := by kernel_rfl
theorem ok_impl_Drinfeld_field : okAt Go.Proofs.Tryz.prog numF (numF F_impl_Drinfeld_field) ir_impl_Drinfeld_field = true := by kernel_rfl
theorem ok_impl_Drinfeld_letterAction : okAt Go.Proofs.Tryz.prog numF (numF F_impl_Drinfeld_letterAction) ir_impl_Drinfeld_letterAction = true := by kernel_rfl
theorem ok_impl_IsDrinfeld : okAt Go.Proofs.Tryz.prog numF (numF F_impl_IsDrinfeld) ir_impl_IsDrinfeld = true := by kernel_rfl
theorem ok_impl_IsIsogeny : okAt Go.Proofs.Tryz.prog numF (numF F_impl_IsIsogeny) ir_impl_IsIsogeny = true := by kernel_rfl
theorem ok_impl_IsPoly : okAt Go.Proofs.Tryz.prog numF (numF F_impl_IsPoly) ir_impl_IsPoly = true := by kernel_rfl
theorem ok_impl_areAll_byte : okAt Go.Proofs.Tryz.prog numF (numF F_impl_areAll_byte) ir_impl_areAll_byte = true := by kernel_rfl
theorem ok_impl_areAll_byte_1 : okAt Go.Proofs.Tryz.prog numF (numF F_impl_areAll_byte_1) ir_impl_areAll_byte_1 = true := by kernel_rfl
theorem ok_impl_areAll_impl_Poly : okAt Go.Proofs.Tryz.prog numF (numF F_impl_areAll_impl_Poly) ir_impl_areAll_impl_Poly = true := by kernel_rfl
theorem ok_impl_areAll_impl_Poly_1 : okAt Go.Proofs.Tryz.prog numF (numF F_impl_areAll_impl_Poly_1) ir_impl_areAll_impl_Poly_1 = true := by kernel_rfl
theorem ok_impl_compare : okAt Go.Proofs.Tryz.prog numF (numF F_impl_compare) ir_impl_compare = true := by kernel_rfl
theorem ok_impl_drinfeldCode : okAt Go.Proofs.Tryz.prog numF (numF F_impl_drinfeldCode) ir_impl_drinfeldCode = true := by kernel_rfl
theorem ok_impl_drinfeldCode_1 : okAt Go.Proofs.Tryz.prog numF (numF F_impl_drinfeldCode_1) ir_impl_drinfeldCode_1 = true := by kernel_rfl
theorem ok_impl_fieldOf : okAt Go.Proofs.Tryz.prog numF (numF F_impl_fieldOf) ir_impl_fieldOf = true := by kernel_rfl
theorem ok_impl_field_by : okAt Go.Proofs.Tryz.prog numF (numF F_impl_field_by) ir_impl_field_by = true := by kernel_rfl
theorem ok_impl_field_frobenius : okAt Go.Proofs.Tryz.prog numF (numF F_impl_field_frobenius) ir_impl_field_frobenius = true := by kernel_rfl
theorem ok_impl_field_isResidue : okAt Go.Proofs.Tryz.prog numF (numF F_impl_field_isResidue) ir_impl_field_isResidue = true := by kernel_rfl
theorem ok_impl_field_plus : okAt Go.Proofs.Tryz.prog numF (numF F_impl_field_plus) ir_impl_field_plus = true := by kernel_rfl
theorem ok_impl_field_product : okAt Go.Proofs.Tryz.prog numF (numF F_impl_field_product) ir_impl_field_product = true := by kernel_rfl
theorem ok_impl_isField : okAt Go.Proofs.Tryz.prog numF (numF F_impl_isField) ir_impl_isField = true := by kernel_rfl
theorem ok_impl_isPoly : okAt Go.Proofs.Tryz.prog numF (numF F_impl_isPoly) ir_impl_isPoly = true := by kernel_rfl
theorem ok_impl_isPoly_1 : okAt Go.Proofs.Tryz.prog numF (numF F_impl_isPoly_1) ir_impl_isPoly_1 = true := by kernel_rfl
theorem ok_impl_isPrime : okAt Go.Proofs.Tryz.prog numF (numF F_impl_isPrime) ir_impl_isPrime = true := by kernel_rfl
theorem ok_impl_letter : okAt Go.Proofs.Tryz.prog numF (numF F_impl_letter) ir_impl_letter = true := by kernel_rfl
theorem ok_impl_pairCode : okAt Go.Proofs.Tryz.prog numF (numF F_impl_pairCode) ir_impl_pairCode = true := by kernel_rfl
theorem ok_impl_prime_bezout : okAt Go.Proofs.Tryz.prog numF (numF F_impl_prime_bezout) ir_impl_prime_bezout = true := by kernel_rfl
theorem ok_impl_prime_combine : okAt Go.Proofs.Tryz.prog numF (numF F_impl_prime_combine) ir_impl_prime_combine = true := by kernel_rfl
theorem ok_impl_prime_divide : okAt Go.Proofs.Tryz.prog numF (numF F_impl_prime_divide) ir_impl_prime_divide = true := by kernel_rfl
theorem ok_impl_prime_factors : okAt Go.Proofs.Tryz.prog numF (numF F_impl_prime_factors) ir_impl_prime_factors = true := by kernel_rfl
theorem ok_impl_prime_factors_1 : okAt Go.Proofs.Tryz.prog numF (numF F_impl_prime_factors_1) ir_impl_prime_factors_1 = true := by kernel_rfl
theorem ok_impl_prime_gcd : okAt Go.Proofs.Tryz.prog numF (numF F_impl_prime_gcd) ir_impl_prime_gcd = true := by kernel_rfl
theorem ok_impl_prime_inverse : okAt Go.Proofs.Tryz.prog numF (numF F_impl_prime_inverse) ir_impl_prime_inverse = true := by kernel_rfl
theorem ok_impl_prime_isIrreducible : okAt Go.Proofs.Tryz.prog numF (numF F_impl_prime_isIrreducible) ir_impl_prime_isIrreducible = true := by kernel_rfl
theorem ok_impl_prime_norm : okAt Go.Proofs.Tryz.prog numF (numF F_impl_prime_norm) ir_impl_prime_norm = true := by kernel_rfl
theorem ok_impl_prime_numbered : okAt Go.Proofs.Tryz.prog numF (numF F_impl_prime_numbered) ir_impl_prime_numbered = true := by kernel_rfl
theorem ok_impl_prime_power : okAt Go.Proofs.Tryz.prog numF (numF F_impl_prime_power) ir_impl_prime_power = true := by kernel_rfl
theorem ok_impl_prime_reduce : okAt Go.Proofs.Tryz.prog numF (numF F_impl_prime_reduce) ir_impl_prime_reduce = true := by kernel_rfl
theorem ok_impl_prime_rest : okAt Go.Proofs.Tryz.prog numF (numF F_impl_prime_rest) ir_impl_prime_rest = true := by kernel_rfl
theorem ok_impl_prime_scale : okAt Go.Proofs.Tryz.prog numF (numF F_impl_prime_scale) ir_impl_prime_scale = true := by kernel_rfl
theorem ok_impl_prime_strip : okAt Go.Proofs.Tryz.prog numF (numF F_impl_prime_strip) ir_impl_prime_strip = true := by kernel_rfl
theorem ok_impl_prime_times : okAt Go.Proofs.Tryz.prog numF (numF F_impl_prime_times) ir_impl_prime_times = true := by kernel_rfl
theorem ok_impl_prime_withDegree : okAt Go.Proofs.Tryz.prog numF (numF F_impl_prime_withDegree) ir_impl_prime_withDegree = true := by kernel_rfl
theorem ok_impl_rowOf : okAt Go.Proofs.Tryz.prog numF (numF F_impl_rowOf) ir_impl_rowOf = true := by kernel_rfl
theorem ok_impl_row_at : okAt Go.Proofs.Tryz.prog numF (numF F_impl_row_at) ir_impl_row_at = true := by kernel_rfl
theorem ok_impl_row_degree : okAt Go.Proofs.Tryz.prog numF (numF F_impl_row_degree) ir_impl_row_degree = true := by kernel_rfl
theorem ok_impl_row_lead : okAt Go.Proofs.Tryz.prog numF (numF F_impl_row_lead) ir_impl_row_lead = true := by kernel_rfl
theorem ok_impl_row_trimmed : okAt Go.Proofs.Tryz.prog numF (numF F_impl_row_trimmed) ir_impl_row_trimmed = true := by kernel_rfl
theorem ok_impl_rows : okAt Go.Proofs.Tryz.prog numF (numF F_impl_rows) ir_impl_rows = true := by kernel_rfl
theorem ok_impl_skew_at : okAt Go.Proofs.Tryz.prog numF (numF F_impl_skew_at) ir_impl_skew_at = true := by kernel_rfl
theorem ok_impl_skew_trimmed : okAt Go.Proofs.Tryz.prog numF (numF F_impl_skew_trimmed) ir_impl_skew_trimmed = true := by kernel_rfl
theorem ok_impl_within : okAt Go.Proofs.Tryz.prog numF (numF F_impl_within) ir_impl_within = true := by kernel_rfl
theorem ok_laws_FnExactIsIsogeny : okAt Go.Proofs.Tryz.prog numF (numF F_laws_FnExactIsIsogeny) ir_laws_FnExactIsIsogeny = true := by kernel_rfl
theorem ok_laws_eqPoly : okAt Go.Proofs.Tryz.prog numF (numF F_laws_eqPoly) ir_laws_eqPoly = true := by kernel_rfl
theorem ok_laws_eqPolyS : okAt Go.Proofs.Tryz.prog numF (numF F_laws_eqPolyS) ir_laws_eqPolyS = true := by kernel_rfl
theorem ok_laws_szPolyS : okAt Go.Proofs.Tryz.prog numF (numF F_laws_szPolyS) ir_laws_szPolyS = true := by kernel_rfl
theorem ok_laws_toDrinfeld : okAt Go.Proofs.Tryz.prog numF (numF F_laws_toDrinfeld) ir_laws_toDrinfeld = true := by kernel_rfl
theorem ok_laws_toPoly : okAt Go.Proofs.Tryz.prog numF (numF F_laws_toPoly) ir_laws_toPoly = true := by kernel_rfl
theorem ok_laws_toPolyS : okAt Go.Proofs.Tryz.prog numF (numF F_laws_toPolyS) ir_laws_toPolyS = true := by kernel_rfl
theorem ok_math_bits_Len : okAt Go.Proofs.Tryz.prog numF (numF F_math_bits_Len) ir_math_bits_Len = true := by kernel_rfl
theorem ok_math_bits_Len64 : okAt Go.Proofs.Tryz.prog numF (numF F_math_bits_Len64) ir_math_bits_Len64 = true := by kernel_rfl
theorem ok_slices_ContainsFunc_byte_byte : okAt Go.Proofs.Tryz.prog numF (numF F_slices_ContainsFunc_byte_byte) ir_slices_ContainsFunc_byte_byte = true := by kernel_rfl
theorem ok_slices_ContainsFunc_impl_Poly_impl_Poly : okAt Go.Proofs.Tryz.prog numF (numF F_slices_ContainsFunc_impl_Poly_impl_Poly) ir_slices_ContainsFunc_impl_Poly_impl_Poly = true := by kernel_rfl
theorem ok_slices_IndexFunc_byte_byte : okAt Go.Proofs.Tryz.prog numF (numF F_slices_IndexFunc_byte_byte) ir_slices_IndexFunc_byte_byte = true := by kernel_rfl
theorem ok_slices_IndexFunc_impl_Poly_impl_Poly : okAt Go.Proofs.Tryz.prog numF (numF F_slices_IndexFunc_impl_Poly_impl_Poly) ir_slices_IndexFunc_impl_Poly_impl_Poly = true := by kernel_rfl
theorem ok_slices_SortFunc_impl_factor_impl_factor : okAt Go.Proofs.Tryz.prog numF (numF F_slices_SortFunc_impl_factor_impl_factor) ir_slices_SortFunc_impl_factor_impl_factor = true := by kernel_rfl
theorem ok_slices_insertionSortCmpFunc_impl_factor : okAt Go.Proofs.Tryz.prog numF (numF F_slices_insertionSortCmpFunc_impl_factor) ir_slices_insertionSortCmpFunc_impl_factor = true := by kernel_rfl
theorem ok_slices_pdqsortCmpFunc_impl_factor : okAt Go.Proofs.Tryz.prog numF (numF F_slices_pdqsortCmpFunc_impl_factor) ir_slices_pdqsortCmpFunc_impl_factor = true := by kernel_rfl
theorem ok_spec_IsIsogeny : okAt Go.Proofs.Tryz.prog numF (numF F_spec_IsIsogeny) ir_spec_IsIsogeny = true := by kernel_rfl
theorem ok_spec_l01Add : okAt Go.Proofs.Tryz.prog numF (numF F_spec_l01Add) ir_spec_l01Add = true := by kernel_rfl
theorem ok_spec_l01Bezout : okAt Go.Proofs.Tryz.prog numF (numF F_spec_l01Bezout) ir_spec_l01Bezout = true := by kernel_rfl
theorem ok_spec_l01Code : okAt Go.Proofs.Tryz.prog numF (numF F_spec_l01Code) ir_spec_l01Code = true := by kernel_rfl
theorem ok_spec_l01Deg : okAt Go.Proofs.Tryz.prog numF (numF F_spec_l01Deg) ir_spec_l01Deg = true := by kernel_rfl
theorem ok_spec_l01Divide : okAt Go.Proofs.Tryz.prog numF (numF F_spec_l01Divide) ir_spec_l01Divide = true := by kernel_rfl
theorem ok_spec_l01Gcd : okAt Go.Proofs.Tryz.prog numF (numF F_spec_l01Gcd) ir_spec_l01Gcd = true := by kernel_rfl
theorem ok_spec_l01In : okAt Go.Proofs.Tryz.prog numF (numF F_spec_l01In) ir_spec_l01In = true := by kernel_rfl
theorem ok_spec_l01Inverse : okAt Go.Proofs.Tryz.prog numF (numF F_spec_l01Inverse) ir_spec_l01Inverse = true := by kernel_rfl
theorem ok_spec_l01Irreducible : okAt Go.Proofs.Tryz.prog numF (numF F_spec_l01Irreducible) ir_spec_l01Irreducible = true := by kernel_rfl
theorem ok_spec_l01Is : okAt Go.Proofs.Tryz.prog numF (numF F_spec_l01Is) ir_spec_l01Is = true := by kernel_rfl
theorem ok_spec_l01Mod : okAt Go.Proofs.Tryz.prog numF (numF F_spec_l01Mod) ir_spec_l01Mod = true := by kernel_rfl
theorem ok_spec_l01Monic : okAt Go.Proofs.Tryz.prog numF (numF F_spec_l01Monic) ir_spec_l01Monic = true := by kernel_rfl
theorem ok_spec_l01MulMod : okAt Go.Proofs.Tryz.prog numF (numF F_spec_l01MulMod) ir_spec_l01MulMod = true := by kernel_rfl
theorem ok_spec_l01One : okAt Go.Proofs.Tryz.prog numF (numF F_spec_l01One) ir_spec_l01One = true := by kernel_rfl
theorem ok_spec_l01PowMod : okAt Go.Proofs.Tryz.prog numF (numF F_spec_l01PowMod) ir_spec_l01PowMod = true := by kernel_rfl
theorem ok_spec_l01Prime : okAt Go.Proofs.Tryz.prog numF (numF F_spec_l01Prime) ir_spec_l01Prime = true := by kernel_rfl
theorem ok_spec_l01T : okAt Go.Proofs.Tryz.prog numF (numF F_spec_l01T) ir_spec_l01T = true := by kernel_rfl
theorem ok_spec_l01Times : okAt Go.Proofs.Tryz.prog numF (numF F_spec_l01Times) ir_spec_l01Times = true := by kernel_rfl
theorem ok_spec_l01Up : okAt Go.Proofs.Tryz.prog numF (numF F_spec_l01Up) ir_spec_l01Up = true := by kernel_rfl
theorem ok_spec_l04Trim : okAt Go.Proofs.Tryz.prog numF (numF F_spec_l04Trim) ir_spec_l04Trim = true := by kernel_rfl
theorem ok_spec_l06Both : okAt Go.Proofs.Tryz.prog numF (numF F_spec_l06Both) ir_spec_l06Both = true := by kernel_rfl
theorem ok_spec_l06Compose : okAt Go.Proofs.Tryz.prog numF (numF F_spec_l06Compose) ir_spec_l06Compose = true := by kernel_rfl
theorem ok_spec_l06Is : okAt Go.Proofs.Tryz.prog numF (numF F_spec_l06Is) ir_spec_l06Is = true := by kernel_rfl
theorem ok_spec_l06T : okAt Go.Proofs.Tryz.prog numF (numF F_spec_l06T) ir_spec_l06T = true := by kernel_rfl
theorem ok_spec_l06Times : okAt Go.Proofs.Tryz.prog numF (numF F_spec_l06Times) ir_spec_l06Times = true := by kernel_rfl
theorem ok_spec_l06Up : okAt Go.Proofs.Tryz.prog numF (numF F_spec_l06Up) ir_spec_l06Up = true := by kernel_rfl
theorem tab_ok : ∀ f fn, tabF f = some fn → ∃ g, Go.Proofs.Tryz.prog.funcs[numF f]? = some g ∧ fnOk Go.Proofs.Tryz.prog numF fn g = true := tab_sound (l := tab) ⟨ok_cmp_Compare_int, ok_cmp_Compare_int64, ok_cmp_isNaN_int, ok_cmp_isNaN_int64, ok_impl_Drinfeld_field, ok_impl_Drinfeld_letterAction, ok_impl_IsDrinfeld, ok_impl_IsIsogeny, ok_impl_IsPoly, ok_impl_areAll_byte, ok_impl_areAll_byte_1, ok_impl_areAll_impl_Poly, ok_impl_areAll_impl_Poly_1, ok_impl_compare, ok_impl_drinfeldCode, ok_impl_drinfeldCode_1, ok_impl_fieldOf, ok_impl_field_by, ok_impl_field_frobenius, ok_impl_field_isResidue, ok_impl_field_plus, ok_impl_field_product, ok_impl_isField, ok_impl_isPoly, ok_impl_isPoly_1, ok_impl_isPrime, ok_impl_letter, ok_impl_pairCode, ok_impl_prime_bezout, ok_impl_prime_combine, ok_impl_prime_divide, ok_impl_prime_factors, ok_impl_prime_factors_1, ok_impl_prime_gcd, ok_impl_prime_inverse, ok_impl_prime_isIrreducible, ok_impl_prime_norm, ok_impl_prime_numbered, ok_impl_prime_power, ok_impl_prime_reduce, ok_impl_prime_rest, ok_impl_prime_scale, ok_impl_prime_strip, ok_impl_prime_times, ok_impl_prime_withDegree, ok_impl_rowOf, ok_impl_row_at, ok_impl_row_degree, ok_impl_row_lead, ok_impl_row_trimmed, ok_impl_rows, ok_impl_skew_at, ok_impl_skew_trimmed, ok_impl_within, ok_laws_FnExactIsIsogeny, ok_laws_eqPoly, ok_laws_eqPolyS, ok_laws_szPolyS, ok_laws_toDrinfeld, ok_laws_toPoly, ok_laws_toPolyS, ok_math_bits_Len, ok_math_bits_Len64, ok_slices_ContainsFunc_byte_byte, ok_slices_ContainsFunc_impl_Poly_impl_Poly, ok_slices_IndexFunc_byte_byte, ok_slices_IndexFunc_impl_Poly_impl_Poly, ok_slices_SortFunc_impl_factor_impl_factor, ok_slices_insertionSortCmpFunc_impl_factor, ok_slices_pdqsortCmpFunc_impl_factor, ok_spec_IsIsogeny, ok_spec_l01Add, ok_spec_l01Bezout, ok_spec_l01Code, ok_spec_l01Deg, ok_spec_l01Divide, ok_spec_l01Gcd, ok_spec_l01In, ok_spec_l01Inverse, ok_spec_l01Irreducible, ok_spec_l01Is, ok_spec_l01Mod, ok_spec_l01Monic, ok_spec_l01MulMod, ok_spec_l01One, ok_spec_l01PowMod, ok_spec_l01Prime, ok_spec_l01T, ok_spec_l01Times, ok_spec_l01Up, ok_spec_l04Trim, ok_spec_l06Both, ok_spec_l06Compose, ok_spec_l06Is, ok_spec_l06T, ok_spec_l06Times, ok_spec_l06Up, trivial⟩
def cloneIds (f : Nat) : Option (Sh × D × Nat) := if f = F_slices_Clone_impl_row_int64_h then some (.leaf, .int .i64 0, 8) else none
theorem mixed : Go.Proofs.Tryz.prog.follows .mixedOrders = true := by kernel_rfl
theorem clones_ok : ∀ f s z bytes, cloneIds f = some (s, z, bytes) → Sh.beq s s = true ∧ ∃ g, Go.Proofs.Tryz.prog.funcs[numF f]? = some g ∧ fnOk Go.Proofs.Tryz.prog numF (cloneFn s z bytes) g = true ∧ (match g.body with | some x => cloneShape x | none => false) = true := by
  intro f s z bytes h
  unfold cloneIds at h
  split at h
  · rename_i hf
    subst hf
    obtain ⟨rfl, rfl, rfl⟩ : Sh.leaf = s ∧ D.int .i64 0 = z ∧ 8 = bytes := by simpa using h
    refine ⟨rfl, ?_⟩
    have h1 : (match Go.Proofs.Tryz.prog.funcs[numF F_slices_Clone_impl_row_int64_h]? with | some g => fnOk Go.Proofs.Tryz.prog numF (cloneFn .leaf (.int .i64 0) 8) g && (match g.body with | some x => cloneShape x | none => false) | none => false) = true := by kernel_rfl
    split at h1
    · rename_i g hg
      simp only [Bool.and_eq_true] at h1
      exact ⟨g, hg, h1.1, h1.2⟩
    · cases h1
  · cases h
theorem sound : CallOk Go.Proofs.Tryz.prog numF (den tabF (cloneA cloneIds)) := den_sound tab_ok (cloneA_sound mixed clones_ok) mixed
end Pe
