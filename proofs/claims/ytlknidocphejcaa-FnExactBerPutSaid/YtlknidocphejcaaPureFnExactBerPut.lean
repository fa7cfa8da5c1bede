/- The law FnExactBerPut answers true at every tag and every string: the program's BerPut gives the bytes that the reference's gives. No condition beyond the tag being an int64. -/
import Derived.Test.YtlknidocphejcaaPFnExactBerPutx1
import Derived.Laws.Bits64
namespace Go.Proofs.Ytlknidocphejcaa.Pure
open Go.RowKit Go.Proofs.Ytlknidocphejcaa.PFnExactBerPut Go.Proofs.YtlknidocphejcaaW.PrintWords Go.Proofs.YtlknidocphejcaaW.PrintLast
set_option linter.unusedVariables false
set_option linter.unusedSimpArgs false

/-! plain lemmas -/
theorem w64 {x : Int} (h0 : -9223372036854775808 ≤ x) (h1 : x ≤ 9223372036854775807) : wrap64 x = x := by unfold wrap64; omega
theorem u64w {x : Int} (h0 : 0 ≤ x) (h1 : x < 18446744073709551616) : IntKind.u64.wrap x = x := by rw [IntKind.wrap_u64]; omega
theorem son_append (xs ys : List Int) : strOfNums (xs ++ ys) = strOfNums xs ++ strOfNums ys := by
  unfold strOfNums
  apply ByteArray.ext
  simp
theorem ba_append_size (a b : ByteArray) : (a ++ b).size = a.size + b.size := by simp
theorem ba_append_assoc (a b c : ByteArray) : (a ++ b) ++ c = a ++ (b ++ c) := by
  apply ByteArray.ext
  simp
/-- The comparison at the end of a law. -/
theorem law_end {A B : Option ByteArray} {r : ByteArray} (hA : A = some r) (hB : B = some r) :
    (A.bind fun t => B.bind fun t' => if t'.toList = t.toList then some true else some false) = some true := by
  rw [hA, hB]; simp
theorem wf_i64 {n : Int} (h : (Lit.int .i64 n).wf = true) : -9223372036854775808 ≤ n ∧ n ≤ 9223372036854775807 := by
  simpa [Lit.wf, IntKind.min, IntKind.max, IntKind.bits, IntKind.signed] using h

/-! BerPut -/
/-- Is it a tag? -/
def isTagP (a : Int) : Bool := decide (0 ≤ a) && (decide (a ≤ 255) && decide (a % 32 ≠ 31))
/-- The bytes of a length. -/
def blen (n : Int) : List Int := if n < 128 then [n % 256] else if n < 256 then [129, n % 256] else [130, n / 256 % 256, n % 256]
def BP (a : Int) (s : ByteArray) : ByteArray := strOfNums (a % 256 :: blen s.size) ++ s
theorem i64_and_31 {a : Int} (h0 : 0 ≤ a) (h1 : a ≤ 255) : Go.bits .and .i64 a 31 = a % 32 := by
  have key : ∀ z : Fin 256, Go.bits .and .i64 (z.val : Int) 31 = (z.val : Int) % 32 := by decide +kernel
  have := key ⟨a.toNat, by omega⟩
  simpa [Int.toNat_of_nonneg h0] using this
theorem spec_l09Tag_f (a : Int) : spec_l09Tag.f a = some (isTagP a) := by
  unfold spec_l09Tag.f spec_l09Is.f isTagP
  by_cases h : a ≥ 0
  · rw [if_pos h]
    simp only [Option.bind_some, decide_eq_true_eq]
    by_cases h2 : a ≤ 255
    · rw [if_pos h2, Int.tmod_eq_emod_of_nonneg h]
      simp [h, h2, bne, BEq.beq]
    · rw [if_neg h2]; simp [h2]
  · rw [if_neg h]; simp [h]
theorem impl_isTag_f (a : Int) : impl_isTag.f a = some (isTagP a) := by
  unfold impl_isTag.f impl_between.f isTagP
  by_cases h : a ≥ 0
  · rw [if_pos h]
    simp only [Option.bind_some, decide_eq_true_eq]
    by_cases h2 : a ≤ 255
    · rw [if_pos h2, i64_and_31 h h2]
      simp [h, h2, bne, BEq.beq]
    · rw [if_neg h2]; simp [h2]
  · rw [if_neg h]; simp [h]
theorem blen_length (n : Int) : 1 ≤ (blen n).length ∧ (blen n).length ≤ 3 := by
  unfold blen; split
  · simp
  · split <;> simp
theorem impl_berLength_f (n : Int) : impl_berLength.f n = some (strOfNums (blen n)) := by
  unfold impl_berLength.f blen
  split
  · rfl
  · split <;> rfl
theorem spec_l09Put_f (a : Int) (s : ByteArray) (hs : s.size ≤ 4000) : spec_l09Put.f a s = some (BP a s) := by
  unfold spec_l09Put.f BP blen
  simp only [Option.bind_some, strOfNums_size]
  by_cases h : (s.size : Int) ≥ 256
  · rw [if_pos h, if_pos (by simp; omega), if_neg (by omega), if_neg (by omega)]
  · rw [if_neg h]
    by_cases h2 : (s.size : Int) ≥ 128
    · rw [if_pos h2, if_pos (by simp; omega), if_neg (by omega), if_pos (by omega)]
    · rw [if_neg h2, if_pos (by simp; omega), if_pos (by omega)]
theorem impl_BerPut_f (a : Int) (s : ByteArray) : impl_BerPut.f a s = some (if isTagP a = true ∧ s.size ≤ 4000 then BP a s else ⟨#[]⟩) := by
  unfold impl_BerPut.f
  rw [impl_isTag_f]
  simp only [Option.bind_some]
  by_cases h : isTagP a = true
  · rw [if_pos h]
    by_cases h2 : s.size ≤ 4000
    · have := blen_length s.size
      rw [if_neg (by omega), if_pos ⟨h, h2⟩, impl_berLength_f]
      simp only [Option.bind_some, strOfNums_size, ba_append_size]
      rw [if_pos (show ([a % 256] : List Int).length + (blen s.size).length ≤ 9223372036854775807 by rw [List.length_singleton]; omega), if_pos (show ([a % 256] : List Int).length + (blen s.size).length + s.size ≤ 9223372036854775807 by rw [List.length_singleton]; omega)]
      unfold BP
      rw [← son_append, List.singleton_append]
    · rw [if_pos (by omega), if_neg (by omega)]
  · rw [if_neg h, if_neg (fun x => h x.1)]

theorem spec_BerPut_f (a : Int) (s : ByteArray) : spec_BerPut.f a s = some (if isTagP a = true ∧ s.size ≤ 4000 then BP a s else ⟨#[]⟩) := by
  unfold spec_BerPut.f
  rw [spec_l09Tag_f]
  simp only [Option.bind_some]
  by_cases h : isTagP a = true
  · rw [if_pos h]
    by_cases h2 : s.size ≤ 4000
    · rw [if_neg (by omega), if_pos ⟨h, h2⟩, spec_l09Put_f a s h2]; rfl
    · rw [if_pos (by omega), if_neg (by omega)]
  · rw [if_neg h, if_neg (fun x => h x.1)]

theorem FnExactBerPut : laws_FnExactBerPut.Pure := by
  intro a s ha hs
  unfold laws_FnExactBerPut.f
  by_cases h : (s.size : Int) > 1048576
  · rw [if_pos h]
  · rw [if_neg h]
    exact law_end (spec_BerPut_f a s) (impl_BerPut_f a s)

end Go.Proofs.Ytlknidocphejcaa.Pure
