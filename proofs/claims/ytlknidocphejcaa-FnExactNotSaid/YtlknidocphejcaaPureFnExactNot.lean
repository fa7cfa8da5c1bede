/- The law FnExactNot answers true at every number: the program's Not answers as the reference's does. No condition beyond the number being an int64. -/
import Derived.Test.YtlknidocphejcaaPFnExactNotx1
import Derived.Laws.Bits64
namespace Go.Proofs.Ytlknidocphejcaa.Pure
open Go.RowKit Go.Proofs.Ytlknidocphejcaa.PFnExactNot Go.Proofs.YtlknidocphejcaaW.PrintWords Go.Proofs.YtlknidocphejcaaW.PrintLast
set_option linter.unusedVariables false
set_option linter.unusedSimpArgs false

/-! plain lemmas -/
theorem w64 {x : Int} (h0 : -9223372036854775808 ≤ x) (h1 : x ≤ 9223372036854775807) : wrap64 x = x := by unfold wrap64; omega
theorem u64w {x : Int} (h0 : 0 ≤ x) (h1 : x < 18446744073709551616) : IntKind.u64.wrap x = x := by rw [IntKind.wrap_u64]; omega
theorem son_append (xs ys : List Int) : strOfNums (xs ++ ys) = strOfNums xs ++ strOfNums ys := by
  unfold strOfNums
  apply ByteArray.ext
  simp
theorem ba_append_size (a b : ByteArray) : (a ++ b).size = a.size + b.size := by simp
theorem ba_append_assoc (a b c : ByteArray) : (a ++ b) ++ c = a ++ (b ++ c) := by
  apply ByteArray.ext
  simp
/-- The comparison at the end of a law. -/
theorem law_end {A B : Option ByteArray} {r : ByteArray} (hA : A = some r) (hB : B = some r) :
    (A.bind fun t => B.bind fun t' => if t'.toList = t.toList then some true else some false) = some true := by
  rw [hA, hB]; simp
theorem wf_i64 {n : Int} (h : (Lit.int .i64 n).wf = true) : -9223372036854775808 ≤ n ∧ n ≤ 9223372036854775807 := by
  simpa [Lit.wf, IntKind.min, IntKind.max, IntKind.bits, IntKind.signed] using h

theorem FnExactNot : laws_FnExactNot.Pure := by
  intro a _
  unfold laws_FnExactNot.f spec_Not.f impl_Not.f
  by_cases h : a = 0
  · simp [h]
  · by_cases h1 : a = 1 <;> simp [h, h1]

end Go.Proofs.Ytlknidocphejcaa.Pure
