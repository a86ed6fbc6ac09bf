/-
  A part of the proof: an evaluator for a small form of the code, its soundness, and contracts of functions over it.
-/
import Derived.Test.YtgheoodlbeihkaaGreatProg
import Derived.KernelRfl
import Derived.Test.YtgheoodlbeihkaaGreatW1
import Derived.Test.YtgheoodlbeihkaaGreatW2
import Derived.Test.YtgheoodlbeihkaaGreatW3
import Derived.Test.YtgheoodlbeihkaaGreatW4
import Derived.Test.YtgheoodlbeihkaaGreatW5
import Derived.Test.YtgheoodlbeihkaaGreatW6

namespace Pe
open Go
def tab : List (Nat × Fn) := [(F_cmp_Compare_int, ir_cmp_Compare_int), (F_cmp_Compare_int64, ir_cmp_Compare_int64), (F_cmp_isNaN_int, ir_cmp_isNaN_int), (F_cmp_isNaN_int64, ir_cmp_isNaN_int64), (F_impl_IsPoly, ir_impl_IsPoly), (F_impl_KernelOfSkew, ir_impl_KernelOfSkew), (F_impl_KernelOfSkew_h, ir_impl_KernelOfSkew_h), (F_impl_areAll_byte, ir_impl_areAll_byte), (F_impl_areAll_byte_1, ir_impl_areAll_byte_1), (F_impl_areAll_impl_Poly, ir_impl_areAll_impl_Poly), (F_impl_areAll_impl_Poly_1, ir_impl_areAll_impl_Poly_1), (F_impl_areAll_impl_Skew, ir_impl_areAll_impl_Skew), (F_impl_areAll_impl_Skew_1, ir_impl_areAll_impl_Skew_1), (F_impl_compare, ir_impl_compare), (F_impl_fieldOf, ir_impl_fieldOf), (F_impl_field_frobenius, ir_impl_field_frobenius), (F_impl_field_isResidue, ir_impl_field_isResidue), (F_impl_field_isSkew, ir_impl_field_isSkew), (F_impl_field_product, ir_impl_field_product), (F_impl_field_value, ir_impl_field_value), (F_impl_isField, ir_impl_isField), (F_impl_isPoly, ir_impl_isPoly), (F_impl_isPoly_1, ir_impl_isPoly_1), (F_impl_isPrime, ir_impl_isPrime), (F_impl_letter, ir_impl_letter), (F_impl_polys, ir_impl_polys), (F_impl_polys_h, ir_impl_polys_h), (F_impl_prime_bezout, ir_impl_prime_bezout), (F_impl_prime_combine, ir_impl_prime_combine), (F_impl_prime_divide, ir_impl_prime_divide), (F_impl_prime_factors, ir_impl_prime_factors), (F_impl_prime_factors_1, ir_impl_prime_factors_1), (F_impl_prime_gcd, ir_impl_prime_gcd), (F_impl_prime_inverse, ir_impl_prime_inverse), (F_impl_prime_isIrreducible, ir_impl_prime_isIrreducible), (F_impl_prime_norm, ir_impl_prime_norm), (F_impl_prime_numbered, ir_impl_prime_numbered), (F_impl_prime_power, ir_impl_prime_power), (F_impl_prime_reduce, ir_impl_prime_reduce), (F_impl_prime_reducedList, ir_impl_prime_reducedList), (F_impl_prime_reducedList_1, ir_impl_prime_reducedList_1), (F_impl_prime_rest, ir_impl_prime_rest), (F_impl_prime_scale, ir_impl_prime_scale), (F_impl_prime_strip, ir_impl_prime_strip), (F_impl_prime_times, ir_impl_prime_times), (F_impl_prime_withDegree, ir_impl_prime_withDegree), (F_impl_rowOf, ir_impl_rowOf), (F_impl_row_at, ir_impl_row_at), (F_impl_row_degree, ir_impl_row_degree), (F_impl_row_lead, ir_impl_row_lead), (F_impl_row_poly, ir_impl_row_poly), (F_impl_row_trimmed, ir_impl_row_trimmed), (F_impl_skewOf, ir_impl_skewOf), (F_impl_skew_trimmed, ir_impl_skew_trimmed), (F_impl_skewsCode, ir_impl_skewsCode), (F_impl_within, ir_impl_within), (F_laws_FnExactKernelOfSkew, ir_laws_FnExactKernelOfSkew), (F_laws_eqPoly, ir_laws_eqPoly), (F_laws_eqPolyS, ir_laws_eqPolyS), (F_laws_heldPolyS, ir_laws_heldPolyS), (F_laws_markPolyS, ir_laws_markPolyS), (F_laws_toPoly, ir_laws_toPoly), (F_laws_toSkew, ir_laws_toSkew), (F_math_bits_Len, ir_math_bits_Len), (F_math_bits_Len64, ir_math_bits_Len64), (F_slices_ContainsFunc_byte_byte, ir_slices_ContainsFunc_byte_byte), (F_slices_ContainsFunc_impl_Poly_impl_Poly, ir_slices_ContainsFunc_impl_Poly_impl_Poly), (F_slices_ContainsFunc_impl_Skew_impl_Skew, ir_slices_ContainsFunc_impl_Skew_impl_Skew), (F_slices_IndexFunc_byte_byte, ir_slices_IndexFunc_byte_byte), (F_slices_IndexFunc_impl_Poly_impl_Poly, ir_slices_IndexFunc_impl_Poly_impl_Poly), (F_slices_IndexFunc_impl_Skew_impl_Skew, ir_slices_IndexFunc_impl_Skew_impl_Skew), (F_slices_SortFunc_impl_factor_impl_factor, ir_slices_SortFunc_impl_factor_impl_factor), (F_slices_SortFunc_impl_row_impl_row, ir_slices_SortFunc_impl_row_impl_row), (F_slices_insertionSortCmpFunc_impl_factor, ir_slices_insertionSortCmpFunc_impl_factor), (F_slices_insertionSortCmpFunc_impl_row, ir_slices_insertionSortCmpFunc_impl_row), (F_slices_pdqsortCmpFunc_impl_factor, ir_slices_pdqsortCmpFunc_impl_factor), (F_slices_pdqsortCmpFunc_impl_row, ir_slices_pdqsortCmpFunc_impl_row), (F_spec_KernelOfSkew, ir_spec_KernelOfSkew), (F_spec_l01Add, ir_spec_l01Add), (F_spec_l01Bezout, ir_spec_l01Bezout), (F_spec_l01Deg, ir_spec_l01Deg), (F_spec_l01Divide, ir_spec_l01Divide), (F_spec_l01Gcd, ir_spec_l01Gcd), (F_spec_l01In, ir_spec_l01In), (F_spec_l01Inverse, ir_spec_l01Inverse), (F_spec_l01Irreducible, ir_spec_l01Irreducible), (F_spec_l01Is, ir_spec_l01Is), (F_spec_l01Mod, ir_spec_l01Mod), (F_spec_l01Monic, ir_spec_l01Monic), (F_spec_l01MulMod, ir_spec_l01MulMod), (F_spec_l01One, ir_spec_l01One), (F_spec_l01PowMod, ir_spec_l01PowMod), (F_spec_l01Prime, ir_spec_l01Prime), (F_spec_l01T, ir_spec_l01T), (F_spec_l01Times, ir_spec_l01Times), (F_spec_l01Up, ir_spec_l01Up), (F_spec_l03Code, ir_spec_l03Code), (F_spec_l03Field, ir_spec_l03Field), (F_spec_l03Frobenius, ir_spec_l03Frobenius), (F_spec_l03Is, ir_spec_l03Is), (F_spec_l03Kernel, ir_spec_l03Kernel), (F_spec_l03Put, ir_spec_l03Put), (F_spec_l03Residue, ir_spec_l03Residue), (F_spec_l03Value, ir_spec_l03Value)]
def nums : List (Nat × Nat) := [(F_laws_toPoly, 17), (F_laws_toSkew, 22), (F_laws_eqPoly, 32), (F_laws_eqPolyS, 20), (F_laws_markPolyS, 42), (F_laws_heldPolyS, 43), (F_spec_l01Deg, 132), (F_spec_l01In, 60), (F_spec_l01Inverse, 134), (F_spec_l01Divide, 146), (F_spec_l01Mod, 79), (F_spec_l01One, 121), (F_spec_l01Add, 111), (F_spec_l01Up, 183), (F_spec_l01MulMod, 122), (F_spec_l01PowMod, 62), (F_spec_l01Times, 218), (F_spec_l01Bezout, 198), (F_spec_l01Gcd, 151), (F_spec_l01T, 190), (F_spec_l01Irreducible, 133), (F_spec_l01Monic, 131), (F_spec_l01Prime, 189), (F_spec_l01Is, 149), (F_spec_l03Field, 109), (F_spec_l03Residue, 110), (F_spec_l03Is, 120), (F_spec_l03Code, 58), (F_spec_l03Frobenius, 123), (F_spec_l03Value, 166), (F_spec_l03Put, 167), (F_spec_l03Kernel, 92), (F_spec_KernelOfSkew, 40), (F_impl_row_trimmed, 182), (F_impl_prime_reduce, 181), (F_impl_row_at, 168), (F_impl_prime_combine, 117), (F_impl_prime_inverse, 141), (F_impl_row_lead, 169), (F_slices_Clone_impl_row_int64_h, 236), (F_impl_prime_divide, 214), (F_impl_prime_rest, 186), (F_impl_prime_times, 187), (F_impl_field_product, 127), (F_impl_row_degree, 94), (F_impl_prime_power, 188), (F_impl_field_frobenius, 128), (F_impl_field_value, 96), (F_impl_rowOf, 119), (F_impl_fieldOf, 68), (F_impl_prime_scale, 143), (F_impl_prime_bezout, 210), (F_impl_prime_gcd, 201), (F_impl_letter, 165), (F_impl_prime_numbered, 95), (F_impl_prime_norm, 93), (F_impl_prime_withDegree, 221), (F_impl_prime_strip, 222), (F_slices_insertionSortCmpFunc_impl_factor, 247), (F_slices_siftDownCmpFunc_impl_factor, 258), (F_slices_heapSortCmpFunc_impl_factor, 248), (F_math_bits_Len32, 234), (F_math_bits_Len64, 235), (F_math_bits_Len, 209), (F_slices_nextPowerOfTwo, 243), (F_slices_xorshift_Next, 244), (F_slices_breakPatternsCmpFunc_impl_factor, 249), (F_slices_order2CmpFunc_impl_factor, 261), (F_slices_medianCmpFunc_impl_factor, 260), (F_slices_medianAdjacentCmpFunc_impl_factor, 259), (F_slices_choosePivotCmpFunc_impl_factor, 250), (F_slices_reverseRangeCmpFunc_impl_factor, 251), (F_slices_partialInsertionSortCmpFunc_impl_factor, 252), (F_slices_partitionEqualCmpFunc_impl_factor, 253), (F_slices_partitionCmpFunc_impl_factor, 254), (F_slices_pdqsortCmpFunc_impl_factor, 239), (F_slices_SortFunc_impl_factor_impl_factor, 223), (F_cmp_isNaN_int, 255), (F_cmp_Compare_int, 240), (F_cmp_isNaN_int64, 256), (F_cmp_Compare_int64, 241), (F_impl_compare, 225), (F_impl_prime_factors_1, 224), (F_impl_prime_factors, 206), (F_impl_prime_isIrreducible, 163), (F_impl_within, 65), (F_impl_isPrime, 211), (F_slices_IndexFunc_byte_byte, 237), (F_slices_ContainsFunc_byte_byte, 216), (F_impl_areAll_byte_1, 217), (F_impl_areAll_byte, 195), (F_impl_isPoly_1, 196), (F_impl_isPoly, 139), (F_impl_IsPoly, 178), (F_impl_isField, 113), (F_impl_field_isResidue, 115), (F_slices_IndexFunc_impl_Poly_impl_Poly, 212), (F_slices_ContainsFunc_impl_Poly_impl_Poly, 179), (F_impl_areAll_impl_Poly_1, 180), (F_impl_areAll_impl_Poly, 114), (F_impl_field_isSkew, 125), (F_slices_IndexFunc_impl_Skew_impl_Skew, 213), (F_slices_ContainsFunc_impl_Skew_impl_Skew, 184), (F_impl_areAll_impl_Skew_1, 185), (F_impl_areAll_impl_Skew, 124), (F_impl_skewsCode, 64), (F_impl_skew_trimmed, 126), (F_impl_skewOf, 67), (F_impl_row_poly, 86), (F_impl_polys, 97), (F_slices_insertionSortCmpFunc_impl_row, 226), (F_slices_siftDownCmpFunc_impl_row, 242), (F_slices_heapSortCmpFunc_impl_row, 227), (F_slices_breakPatternsCmpFunc_impl_row, 228), (F_slices_order2CmpFunc_impl_row, 257), (F_slices_medianCmpFunc_impl_row, 246), (F_slices_medianAdjacentCmpFunc_impl_row, 245), (F_slices_choosePivotCmpFunc_impl_row, 229), (F_slices_reverseRangeCmpFunc_impl_row, 230), (F_slices_partialInsertionSortCmpFunc_impl_row, 231), (F_slices_partitionEqualCmpFunc_impl_row, 232), (F_slices_partitionCmpFunc_impl_row, 233), (F_slices_pdqsortCmpFunc_impl_row, 208), (F_slices_SortFunc_impl_row_impl_row, 170), (F_impl_prime_reducedList_1, 171), (F_impl_prime_reducedList, 98), (F_impl_KernelOfSkew, 41), (F_impl_polys_h, 97), (F_impl_KernelOfSkew_h, 41), (F_laws_FnExactKernelOfSkew, 10)]
def tabF (f : Nat) : Option Fn := tab.lookup f
def numF (f : Nat) : Nat := (nums.lookup f).getD 0
theorem ok_cmp_Compare_int : okAt Go.Proofs.Tryz.prog numF (numF F_cmp_Compare_int) ir_cmp_Compare_int = true := by kernel_rfl
theorem ok_cmp_Compare_int64 : okAt Go.Proofs.Tryz.prog numF (numF F_cmp_Compare_int64) ir_cmp_Compare_int64 = true := by kernel_rfl
theorem ok_cmp_isNaN_int : okAt Go.Proofs.Tryz.prog numF (numF F_cmp_isNaN_int) ir_cmp_isNaN_int = true := by kernel_rfl
theorem ok_cmp_isNaN_int64 : okAt Go.Proofs.Tryz.prog numF (numF F_cmp_isNaN_int64) ir_cmp_isNaN_int64 = true := by kernel_rfl
theorem ok_impl_IsPoly : okAt Go.Proofs.Tryz.prog numF (numF F_impl_IsPoly) ir_impl_IsPoly = true := by kernel_rfl
theorem ok_impl_KernelOfSkew : okAt Go.Proofs.Tryz.prog numF (numF F_impl_KernelOfSkew) ir_impl_KernelOfSkew = true := by kernel_rfl
theorem ok_impl_KernelOfSkew_h : okAt Go.Proofs.Tryz.prog numF (numF F_impl_KernelOfSkew_h) ir_impl_KernelOfSkew_h = true := by kernel_rfl
theorem ok_impl_areAll_byte : okAt Go.Proofs.Tryz.prog numF (numF F_impl_areAll_byte) ir_impl_areAll_byte = true := by kernel_rfl
theorem ok_impl_areAll_byte_1 : okAt Go.Proofs.Tryz.prog numF (numF F_impl_areAll_byte_1) ir_impl_areAll_byte_1 = true := by kernel_rfl
theorem ok_impl_areAll_impl_Poly : okAt Go.Proofs.Tryz.prog numF (numF F_impl_areAll_impl_Poly) ir_impl_areAll_impl_Poly = true := by kernel_rfl
theorem ok_impl_areAll_impl_Poly_1 : okAt Go.Proofs.Tryz.prog numF (numF F_impl_areAll_impl_Poly_1) ir_impl_areAll_impl_Poly_1 = true := by kernel_rfl
theorem ok_impl_areAll_impl_Skew : okAt Go.Proofs.Tryz.prog numF (numF F_impl_areAll_impl_Skew) ir_impl_areAll_impl_Skew = true := by kernel_rfl
theorem ok_impl_areAll_impl_Skew_1 : okAt Go.Proofs.Tryz.prog numF (numF F_impl_areAll_impl_Skew_1) ir_impl_areAll_impl_Skew_1 = true := by kernel_rfl
theorem ok_impl_compare : okAt Go.Proofs.Tryz.prog numF (numF F_impl_compare) ir_impl_compare = true := by kernel_rfl
theorem ok_impl_fieldOf : okAt Go.Proofs.Tryz.prog numF (numF F_impl_fieldOf) ir_impl_fieldOf = true := by kernel_rfl
theorem ok_impl_field_frobenius : okAt Go.Proofs.Tryz.prog numF (numF F_impl_field_frobenius) ir_impl_field_frobenius = true := by kernel_rfl
theorem ok_impl_field_isResidue : okAt Go.Proofs.Tryz.prog numF (numF F_impl_field_isResidue) ir_impl_field_isResidue = true := by kernel_rfl
theorem ok_impl_field_isSkew : okAt Go.Proofs.Tryz.prog numF (numF F_impl_field_isSkew) ir_impl_field_isSkew = true := by kernel_rfl
theorem ok_impl_field_product : okAt Go.Proofs.Tryz.prog numF (numF F_impl_field_product) ir_impl_field_product = true := by kernel_rfl
theorem ok_impl_field_value : okAt Go.Proofs.Tryz.prog numF (numF F_impl_field_value) ir_impl_field_value = true := by kernel_rfl
theorem ok_impl_isField : okAt Go.Proofs.Tryz.prog numF (numF F_impl_isField) ir_impl_isField = true := by kernel_rfl
theorem ok_impl_isPoly : okAt Go.Proofs.Tryz.prog numF (numF F_impl_isPoly) ir_impl_isPoly = true := by kernel_rfl
theorem ok_impl_isPoly_1 : okAt Go.Proofs.Tryz.prog numF (numF F_impl_isPoly_1) ir_impl_isPoly_1 = true := by kernel_rfl
theorem ok_impl_isPrime : okAt Go.Proofs.Tryz.prog numF (numF F_impl_isPrime) ir_impl_isPrime = true := by kernel_rfl
theorem ok_impl_letter : okAt Go.Proofs.Tryz.prog numF (numF F_impl_letter) ir_impl_letter = true := by kernel_rfl
theorem ok_impl_polys : okAt Go.Proofs.Tryz.prog numF (numF F_impl_polys) ir_impl_polys = true := by kernel_rfl
theorem ok_impl_polys_h : okAt Go.Proofs.Tryz.prog numF (numF F_impl_polys_h) ir_impl_polys_h = true := by kernel_rfl
theorem ok_impl_prime_bezout : okAt Go.Proofs.Tryz.prog numF (numF F_impl_prime_bezout) ir_impl_prime_bezout = true := by kernel_rfl
theorem ok_impl_prime_combine : okAt Go.Proofs.Tryz.prog numF (numF F_impl_prime_combine) ir_impl_prime_combine = true := by kernel_rfl
theorem ok_impl_prime_divide : okAt Go.Proofs.Tryz.prog numF (numF F_impl_prime_divide) ir_impl_prime_divide = true := by kernel_rfl
theorem ok_impl_prime_factors : okAt Go.Proofs.Tryz.prog numF (numF F_impl_prime_factors) ir_impl_prime_factors = true := by kernel_rfl
theorem ok_impl_prime_factors_1 : okAt Go.Proofs.Tryz.prog numF (numF F_impl_prime_factors_1) ir_impl_prime_factors_1 = true := by kernel_rfl
theorem ok_impl_prime_gcd : okAt Go.Proofs.Tryz.prog numF (numF F_impl_prime_gcd) ir_impl_prime_gcd = true := by kernel_rfl
theorem ok_impl_prime_inverse : okAt Go.Proofs.Tryz.prog numF (numF F_impl_prime_inverse) ir_impl_prime_inverse = true := by kernel_rfl
theorem ok_impl_prime_isIrreducible : okAt Go.Proofs.Tryz.prog numF (numF F_impl_prime_isIrreducible) ir_impl_prime_isIrreducible = true := by kernel_rfl
theorem ok_impl_prime_norm : okAt Go.Proofs.Tryz.prog numF (numF F_impl_prime_norm) ir_impl_prime_norm = true := by kernel_rfl
theorem ok_impl_prime_numbered : okAt Go.Proofs.Tryz.prog numF (numF F_impl_prime_numbered) ir_impl_prime_numbered = true := by kernel_rfl
theorem ok_impl_prime_power : okAt Go.Proofs.Tryz.prog numF (numF F_impl_prime_power) ir_impl_prime_power = true := by kernel_rfl
theorem ok_impl_prime_reduce : okAt Go.Proofs.Tryz.prog numF (numF F_impl_prime_reduce) ir_impl_prime_reduce = true := by kernel_rfl
theorem ok_impl_prime_reducedList : okAt Go.Proofs.Tryz.prog numF (numF F_impl_prime_reducedList) ir_impl_prime_reducedList = true := by kernel_rfl
theorem ok_impl_prime_reducedList_1 : okAt Go.Proofs.Tryz.prog numF (numF F_impl_prime_reducedList_1) ir_impl_prime_reducedList_1 = true := by kernel_rfl
theorem ok_impl_prime_rest : okAt Go.Proofs.Tryz.prog numF (numF F_impl_prime_rest) ir_impl_prime_rest = true := by kernel_rfl
theorem ok_impl_prime_scale : okAt Go.Proofs.Tryz.prog numF (numF F_impl_prime_scale) ir_impl_prime_scale = true := by kernel_rfl
theorem ok_impl_prime_strip : okAt Go.Proofs.Tryz.prog numF (numF F_impl_prime_strip) ir_impl_prime_strip = true := by kernel_rfl
theorem ok_impl_prime_times : okAt Go.Proofs.Tryz.prog numF (numF F_impl_prime_times) ir_impl_prime_times = true := by kernel_rfl
theorem ok_impl_prime_withDegree : okAt Go.Proofs.Tryz.prog numF (numF F_impl_prime_withDegree) ir_impl_prime_withDegree = true := by kernel_rfl
theorem ok_impl_rowOf : okAt Go.Proofs.Tryz.prog numF (numF F_impl_rowOf) ir_impl_rowOf = true := by kernel_rfl
theorem ok_impl_row_at : okAt Go.Proofs.Tryz.prog numF (numF F_impl_row_at) ir_impl_row_at = true := by kernel_rfl
theorem ok_impl_row_degree : okAt Go.Proofs.Tryz.prog numF (numF F_impl_row_degree) ir_impl_row_degree = true := by kernel_rfl
theorem ok_impl_row_lead : okAt Go.Proofs.Tryz.prog numF (numF F_impl_row_lead) ir_impl_row_lead = true := by kernel_rfl
theorem ok_impl_row_poly : okAt Go.Proofs.Tryz.prog numF (numF F_impl_row_poly) ir_impl_row_poly = true := by kernel_rfl
theorem ok_impl_row_trimmed : okAt Go.Proofs.Tryz.prog numF (numF F_impl_row_trimmed) ir_impl_row_trimmed = true := by kernel_rfl
theorem ok_impl_skewOf : okAt Go.Proofs.Tryz.prog numF (numF F_impl_skewOf) ir_impl_skewOf = true := by kernel_rfl
theorem ok_impl_skew_trimmed : okAt Go.Proofs.Tryz.prog numF (numF F_impl_skew_trimmed) ir_impl_skew_trimmed = true := by kernel_rfl
theorem ok_impl_skewsCode : okAt Go.Proofs.Tryz.prog numF (numF F_impl_skewsCode) ir_impl_skewsCode = true := by kernel_rfl
theorem ok_impl_within : okAt Go.Proofs.Tryz.prog numF (numF F_impl_within) ir_impl_within = true := by kernel_rfl
theorem ok_laws_FnExactKernelOfSkew : okAt Go.Proofs.Tryz.prog numF (numF F_laws_FnExactKernelOfSkew) ir_laws_FnExactKernelOfSkew = true := by kernel_rfl
theorem ok_laws_eqPoly : okAt Go.Proofs.Tryz.prog numF (numF F_laws_eqPoly) ir_laws_eqPoly = true := by kernel_rfl
theorem ok_laws_eqPolyS : okAt Go.Proofs.Tryz.prog numF (numF F_laws_eqPolyS) ir_laws_eqPolyS = true := by kernel_rfl
theorem ok_laws_heldPolyS : okAt Go.Proofs.Tryz.prog numF (numF F_laws_heldPolyS) ir_laws_heldPolyS = true := by kernel_rfl
theorem ok_laws_markPolyS : okAt Go.Proofs.Tryz.prog numF (numF F_laws_markPolyS) ir_laws_markPolyS = true := by kernel_rfl
theorem ok_laws_toPoly : okAt Go.Proofs.Tryz.prog numF (numF F_laws_toPoly) ir_laws_toPoly = true := by kernel_rfl
theorem ok_laws_toSkew : okAt Go.Proofs.Tryz.prog numF (numF F_laws_toSkew) ir_laws_toSkew = true := by kernel_rfl
theorem ok_math_bits_Len : okAt Go.Proofs.Tryz.prog numF (numF F_math_bits_Len) ir_math_bits_Len = true := by kernel_rfl
theorem ok_math_bits_Len64 : okAt Go.Proofs.Tryz.prog numF (numF F_math_bits_Len64) ir_math_bits_Len64 = true := by kernel_rfl
theorem ok_slices_ContainsFunc_byte_byte : okAt Go.Proofs.Tryz.prog numF (numF F_slices_ContainsFunc_byte_byte) ir_slices_ContainsFunc_byte_byte = true := by kernel_rfl
theorem ok_slices_ContainsFunc_impl_Poly_impl_Poly : okAt Go.Proofs.Tryz.prog numF (numF F_slices_ContainsFunc_impl_Poly_impl_Poly) ir_slices_ContainsFunc_impl_Poly_impl_Poly = true := by kernel_rfl
theorem ok_slices_ContainsFunc_impl_Skew_impl_Skew : okAt Go.Proofs.Tryz.prog numF (numF F_slices_ContainsFunc_impl_Skew_impl_Skew) ir_slices_ContainsFunc_impl_Skew_impl_Skew = true := by kernel_rfl
theorem ok_slices_IndexFunc_byte_byte : okAt Go.Proofs.Tryz.prog numF (numF F_slices_IndexFunc_byte_byte) ir_slices_IndexFunc_byte_byte = true := by kernel_rfl
theorem ok_slices_IndexFunc_impl_Poly_impl_Poly : okAt Go.Proofs.Tryz.prog numF (numF F_slices_IndexFunc_impl_Poly_impl_Poly) ir_slices_IndexFunc_impl_Poly_impl_Poly = true := by kernel_rfl
theorem ok_slices_IndexFunc_impl_Skew_impl_Skew : okAt Go.Proofs.Tryz.prog numF (numF F_slices_IndexFunc_impl_Skew_impl_Skew) ir_slices_IndexFunc_impl_Skew_impl_Skew = true := by kernel_rfl
theorem ok_slices_SortFunc_impl_factor_impl_factor : okAt Go.Proofs.Tryz.prog numF (numF F_slices_SortFunc_impl_factor_impl_factor) ir_slices_SortFunc_impl_factor_impl_factor = true := by kernel_rfl
theorem ok_slices_SortFunc_impl_row_impl_row : okAt Go.Proofs.Tryz.prog numF (numF F_slices_SortFunc_impl_row_impl_row) ir_slices_SortFunc_impl_row_impl_row = true := by kernel_rfl
theorem ok_slices_insertionSortCmpFunc_impl_factor : okAt Go.Proofs.Tryz.prog numF (numF F_slices_insertionSortCmpFunc_impl_factor) ir_slices_insertionSortCmpFunc_impl_factor = true := by kernel_rfl
theorem ok_slices_insertionSortCmpFunc_impl_row : okAt Go.Proofs.Tryz.prog numF (numF F_slices_insertionSortCmpFunc_impl_row) ir_slices_insertionSortCmpFunc_impl_row = true := by kernel_rfl
theorem ok_slices_pdqsortCmpFunc_impl_factor : okAt Go.Proofs.Tryz.prog numF (numF F_slices_pdqsortCmpFunc_impl_factor) ir_slices_pdqsortCmpFunc_impl_factor = true := by kernel_rfl
theorem ok_slices_pdqsortCmpFunc_impl_row : okAt Go.Proofs.Tryz.prog numF (numF F_slices_pdqsortCmpFunc_impl_row) ir_slices_pdqsortCmpFunc_impl_row = true := by kernel_rfl
theorem ok_spec_KernelOfSkew : okAt Go.Proofs.Tryz.prog numF (numF F_spec_KernelOfSkew) ir_spec_KernelOfSkew = true := by kernel_rfl
theorem ok_spec_l01Add : okAt Go.Proofs.Tryz.prog numF (numF F_spec_l01Add) ir_spec_l01Add = true := by kernel_rfl
theorem ok_spec_l01Bezout : okAt Go.Proofs.Tryz.prog numF (numF F_spec_l01Bezout) ir_spec_l01Bezout = true := by kernel_rfl
theorem ok_spec_l01Deg : okAt Go.Proofs.Tryz.prog numF (numF F_spec_l01Deg) ir_spec_l01Deg = true := by kernel_rfl
theorem ok_spec_l01Divide : okAt Go.Proofs.Tryz.prog numF (numF F_spec_l01Divide) ir_spec_l01Divide = true := by kernel_rfl
theorem ok_spec_l01Gcd : okAt Go.Proofs.Tryz.prog numF (numF F_spec_l01Gcd) ir_spec_l01Gcd = true := by kernel_rfl
theorem ok_spec_l01In : okAt Go.Proofs.Tryz.prog numF (numF F_spec_l01In) ir_spec_l01In = true := by kernel_rfl
theorem ok_spec_l01Inverse : okAt Go.Proofs.Tryz.prog numF (numF F_spec_l01Inverse) ir_spec_l01Inverse = true := by kernel_rfl
theorem ok_spec_l01Irreducible : okAt Go.Proofs.Tryz.prog numF (numF F_spec_l01Irreducible) ir_spec_l01Irreducible = true := by kernel_rfl
theorem ok_spec_l01Is : okAt Go.Proofs.Tryz.prog numF (numF F_spec_l01Is) ir_spec_l01Is = true := by kernel_rfl
theorem ok_spec_l01Mod : okAt Go.Proofs.Tryz.prog numF (numF F_spec_l01Mod) ir_spec_l01Mod = true := by kernel_rfl
theorem ok_spec_l01Monic : okAt Go.Proofs.Tryz.prog numF (numF F_spec_l01Monic) ir_spec_l01Monic = true := by kernel_rfl
theorem ok_spec_l01MulMod : okAt Go.Proofs.Tryz.prog numF (numF F_spec_l01MulMod) ir_spec_l01MulMod = true := by kernel_rfl
theorem ok_spec_l01One : okAt Go.Proofs.Tryz.prog numF (numF F_spec_l01One) ir_spec_l01One = true := by kernel_rfl
theorem ok_spec_l01PowMod : okAt Go.Proofs.Tryz.prog numF (numF F_spec_l01PowMod) ir_spec_l01PowMod = true := by kernel_rfl
theorem ok_spec_l01Prime : okAt Go.Proofs.Tryz.prog numF (numF F_spec_l01Prime) ir_spec_l01Prime = true := by kernel_rfl
theorem ok_spec_l01T : okAt Go.Proofs.Tryz.prog numF (numF F_spec_l01T) ir_spec_l01T = true := by kernel_rfl
theorem ok_spec_l01Times : okAt Go.Proofs.Tryz.prog numF (numF F_spec_l01Times) ir_spec_l01Times = true := by kernel_rfl
theorem ok_spec_l01Up : okAt Go.Proofs.Tryz.prog numF (numF F_spec_l01Up) ir_spec_l01Up = true := by kernel_rfl
theorem ok_spec_l03Code : okAt Go.Proofs.Tryz.prog numF (numF F_spec_l03Code) ir_spec_l03Code = true := by kernel_rfl
theorem ok_spec_l03Field : okAt Go.Proofs.Tryz.prog numF (numF F_spec_l03Field) ir_spec_l03Field = true := by kernel_rfl
theorem ok_spec_l03Frobenius : okAt Go.Proofs.Tryz.prog numF (numF F_spec_l03Frobenius) ir_spec_l03Frobenius = true := by kernel_rfl
theorem ok_spec_l03Is : okAt Go.Proofs.Tryz.prog numF (numF F_spec_l03Is) ir_spec_l03Is = true := by kernel_rfl
theorem ok_spec_l03Kernel : okAt Go.Proofs.Tryz.prog numF (numF F_spec_l03Kernel) ir_spec_l03Kernel = true := by kernel_rfl
theorem ok_spec_l03Put : okAt Go.Proofs.Tryz.prog numF (numF F_spec_l03Put) ir_spec_l03Put = true := by kernel_rfl
theorem ok_spec_l03Residue : okAt Go.Proofs.Tryz.prog numF (numF F_spec_l03Residue) ir_spec_l03Residue = true := by kernel_rfl
theorem ok_spec_l03Value : okAt Go.Proofs.Tryz.prog numF (numF F_spec_l03Value) ir_spec_l03Value = true := by kernel_rfl
theorem tab_ok : ∀ f fn, tabF f = some fn → ∃ g, Go.Proofs.Tryz.prog.funcs[numF f]? = some g ∧ fnOk Go.Proofs.Tryz.prog numF fn g = true := tab_sound (l := tab) ⟨ok_cmp_Compare_int, ok_cmp_Compare_int64, ok_cmp_isNaN_int, ok_cmp_isNaN_int64, ok_impl_IsPoly, ok_impl_KernelOfSkew, ok_impl_KernelOfSkew_h, ok_impl_areAll_byte, ok_impl_areAll_byte_1, ok_impl_areAll_impl_Poly, ok_impl_areAll_impl_Poly_1, ok_impl_areAll_impl_Skew, ok_impl_areAll_impl_Skew_1, ok_impl_compare, ok_impl_fieldOf, ok_impl_field_frobenius, ok_impl_field_isResidue, ok_impl_field_isSkew, ok_impl_field_product, ok_impl_field_value, ok_impl_isField, ok_impl_isPoly, ok_impl_isPoly_1, ok_impl_isPrime, ok_impl_letter, ok_impl_polys, ok_impl_polys_h, ok_impl_prime_bezout, ok_impl_prime_combine, ok_impl_prime_divide, ok_impl_prime_factors, ok_impl_prime_factors_1, ok_impl_prime_gcd, ok_impl_prime_inverse, ok_impl_prime_isIrreducible, ok_impl_prime_norm, ok_impl_prime_numbered, ok_impl_prime_power, ok_impl_prime_reduce, ok_impl_prime_reducedList, ok_impl_prime_reducedList_1, ok_impl_prime_rest, ok_impl_prime_scale, ok_impl_prime_strip, ok_impl_prime_times, ok_impl_prime_withDegree, ok_impl_rowOf, ok_impl_row_at, ok_impl_row_degree, ok_impl_row_lead, ok_impl_row_poly, ok_impl_row_trimmed, ok_impl_skewOf, ok_impl_skew_trimmed, ok_impl_skewsCode, ok_impl_within, ok_laws_FnExactKernelOfSkew, ok_laws_eqPoly, ok_laws_eqPolyS, ok_laws_heldPolyS, ok_laws_markPolyS, ok_laws_toPoly, ok_laws_toSkew, ok_math_bits_Len, ok_math_bits_Len64, ok_slices_ContainsFunc_byte_byte, ok_slices_ContainsFunc_impl_Poly_impl_Poly, ok_slices_ContainsFunc_impl_Skew_impl_Skew, ok_slices_IndexFunc_byte_byte, ok_slices_IndexFunc_impl_Poly_impl_Poly, ok_slices_IndexFunc_impl_Skew_impl_Skew, ok_slices_SortFunc_impl_factor_impl_factor, ok_slices_SortFunc_impl_row_impl_row, ok_slices_insertionSortCmpFunc_impl_factor, ok_slices_insertionSortCmpFunc_impl_row, ok_slices_pdqsortCmpFunc_impl_factor, ok_slices_pdqsortCmpFunc_impl_row, ok_spec_KernelOfSkew, ok_spec_l01Add, ok_spec_l01Bezout, ok_spec_l01Deg, ok_spec_l01Divide, ok_spec_l01Gcd, ok_spec_l01In, ok_spec_l01Inverse, ok_spec_l01Irreducible, ok_spec_l01Is, ok_spec_l01Mod, ok_spec_l01Monic, ok_spec_l01MulMod, ok_spec_l01One, ok_spec_l01PowMod, ok_spec_l01Prime, ok_spec_l01T, ok_spec_l01Times, ok_spec_l01Up, ok_spec_l03Code, ok_spec_l03Field, ok_spec_l03Frobenius, ok_spec_l03Is, ok_spec_l03Kernel, ok_spec_l03Put, ok_spec_l03Residue, ok_spec_l03Value, trivial⟩
def cloneIds (f : Nat) : Option (Sh × D × Nat) := if f = F_slices_Clone_impl_row_int64_h then some (.leaf, .int .i64 0, 8) else none
theorem mixed : Go.Proofs.Tryz.prog.follows .mixedOrders = true := by kernel_rfl
theorem clones_ok : ∀ f s z bytes, cloneIds f = some (s, z, bytes) → Sh.beq s s = true ∧ ∃ g, Go.Proofs.Tryz.prog.funcs[numF f]? = some g ∧ fnOk Go.Proofs.Tryz.prog numF (cloneFn s z bytes) g = true ∧ (match g.body with | some x => cloneShape x | none => false) = true := by
  intro f s z bytes h
  unfold cloneIds at h
  split at h
  · rename_i hf
    subst hf
    obtain ⟨rfl, rfl, rfl⟩ : Sh.leaf = s ∧ D.int .i64 0 = z ∧ 8 = bytes := by simpa using h
    refine ⟨rfl, ?_⟩
    have h1 : (match Go.Proofs.Tryz.prog.funcs[numF F_slices_Clone_impl_row_int64_h]? with | some g => fnOk Go.Proofs.Tryz.prog numF (cloneFn .leaf (.int .i64 0) 8) g && (match g.body with | some x => cloneShape x | none => false) | none => false) = true := by kernel_rfl
    split at h1
    · rename_i g hg
      simp only [Bool.and_eq_true] at h1
      exact ⟨g, hg, h1.1, h1.2⟩
    · cases h1
  · cases h
theorem sound : CallOk Go.Proofs.Tryz.prog numF (den tabF (cloneA cloneIds)) := den_sound tab_ok (cloneA_sound mixed clones_ok) mixed
end Pe
