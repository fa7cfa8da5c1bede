/- The law FnExactBerInt answers true at every tag and every number: the program's BerInt gives the bytes that the reference's gives. No condition beyond both being int64. -/
import Derived.Test.YtlknidocphejcaaPFnExactBerIntx2
import Derived.Laws.Bits64
namespace Go.Proofs.Ytlknidocphejcaa.Pure
open Go.RowKit Go.Proofs.Ytlknidocphejcaa.PFnExactBerInt Go.Proofs.YtlknidocphejcaaW.PrintWords Go.Proofs.YtlknidocphejcaaW.PrintLast
set_option linter.unusedVariables false
set_option linter.unusedSimpArgs false

/-! plain lemmas -/
theorem w64 {x : Int} (h0 : -9223372036854775808 ≤ x) (h1 : x ≤ 9223372036854775807) : wrap64 x = x := by unfold wrap64; omega
theorem u64w {x : Int} (h0 : 0 ≤ x) (h1 : x < 18446744073709551616) : IntKind.u64.wrap x = x := by rw [IntKind.wrap_u64]; omega
theorem son_append (xs ys : List Int) : strOfNums (xs ++ ys) = strOfNums xs ++ strOfNums ys := by
  unfold strOfNums
  apply ByteArray.ext
  simp
theorem ba_append_size (a b : ByteArray) : (a ++ b).size = a.size + b.size := by simp
theorem ba_append_assoc (a b c : ByteArray) : (a ++ b) ++ c = a ++ (b ++ c) := by
  apply ByteArray.ext
  simp
/-- The comparison at the end of a law. -/
theorem law_end {A B : Option ByteArray} {r : ByteArray} (hA : A = some r) (hB : B = some r) :
    (A.bind fun t => B.bind fun t' => if t'.toList = t.toList then some true else some false) = some true := by
  rw [hA, hB]; simp
theorem wf_i64 {n : Int} (h : (Lit.int .i64 n).wf = true) : -9223372036854775808 ≤ n ∧ n ≤ 9223372036854775807 := by
  simpa [Lit.wf, IntKind.min, IntKind.max, IntKind.bits, IntKind.signed] using h

/-! BerPut -/
/-- Is it a tag? -/
def isTagP (a : Int) : Bool := decide (0 ≤ a) && (decide (a ≤ 255) && decide (a % 32 ≠ 31))
/-- The bytes of a length. -/
def blen (n : Int) : List Int := if n < 128 then [n % 256] else if n < 256 then [129, n % 256] else [130, n / 256 % 256, n % 256]
def BP (a : Int) (s : ByteArray) : ByteArray := strOfNums (a % 256 :: blen s.size) ++ s
theorem i64_and_31 {a : Int} (h0 : 0 ≤ a) (h1 : a ≤ 255) : Go.bits .and .i64 a 31 = a % 32 := by
  have key : ∀ z : Fin 256, Go.bits .and .i64 (z.val : Int) 31 = (z.val : Int) % 32 := by decide +kernel
  have := key ⟨a.toNat, by omega⟩
  simpa [Int.toNat_of_nonneg h0] using this
theorem spec_l09Tag_f (a : Int) : spec_l09Tag.f a = some (isTagP a) := by
  unfold spec_l09Tag.f spec_l09Is.f isTagP
  by_cases h : a ≥ 0
  · rw [if_pos h]
    simp only [Option.bind_some, decide_eq_true_eq]
    by_cases h2 : a ≤ 255
    · rw [if_pos h2, Int.tmod_eq_emod_of_nonneg h]
      simp [h, h2, bne, BEq.beq]
    · rw [if_neg h2]; simp [h2]
  · rw [if_neg h]; simp [h]
theorem impl_isTag_f (a : Int) : impl_isTag.f a = some (isTagP a) := by
  unfold impl_isTag.f impl_between.f isTagP
  by_cases h : a ≥ 0
  · rw [if_pos h]
    simp only [Option.bind_some, decide_eq_true_eq]
    by_cases h2 : a ≤ 255
    · rw [if_pos h2, i64_and_31 h h2]
      simp [h, h2, bne, BEq.beq]
    · rw [if_neg h2]; simp [h2]
  · rw [if_neg h]; simp [h]
theorem blen_length (n : Int) : 1 ≤ (blen n).length ∧ (blen n).length ≤ 3 := by
  unfold blen; split
  · simp
  · split <;> simp
theorem impl_berLength_f (n : Int) : impl_berLength.f n = some (strOfNums (blen n)) := by
  unfold impl_berLength.f blen
  split
  · rfl
  · split <;> rfl
theorem spec_l09Put_f (a : Int) (s : ByteArray) (hs : s.size ≤ 4000) : spec_l09Put.f a s = some (BP a s) := by
  unfold spec_l09Put.f BP blen
  simp only [Option.bind_some, strOfNums_size]
  by_cases h : (s.size : Int) ≥ 256
  · rw [if_pos h, if_pos (by simp; omega), if_neg (by omega), if_neg (by omega)]
  · rw [if_neg h]
    by_cases h2 : (s.size : Int) ≥ 128
    · rw [if_pos h2, if_pos (by simp; omega), if_neg (by omega), if_pos (by omega)]
    · rw [if_neg h2, if_pos (by simp; omega), if_pos (by omega)]
theorem impl_BerPut_f (a : Int) (s : ByteArray) : impl_BerPut.f a s = some (if isTagP a = true ∧ s.size ≤ 4000 then BP a s else ⟨#[]⟩) := by
  unfold impl_BerPut.f
  rw [impl_isTag_f]
  simp only [Option.bind_some]
  by_cases h : isTagP a = true
  · rw [if_pos h]
    by_cases h2 : s.size ≤ 4000
    · have := blen_length s.size
      rw [if_neg (by omega), if_pos ⟨h, h2⟩, impl_berLength_f]
      simp only [Option.bind_some, strOfNums_size, ba_append_size]
      rw [if_pos (show ([a % 256] : List Int).length + (blen s.size).length ≤ 9223372036854775807 by rw [List.length_singleton]; omega), if_pos (show ([a % 256] : List Int).length + (blen s.size).length + s.size ≤ 9223372036854775807 by rw [List.length_singleton]; omega)]
      unfold BP
      rw [← son_append, List.singleton_append]
    · rw [if_pos (by omega), if_neg (by omega)]
  · rw [if_neg h, if_neg (fun x => h x.1)]

/-! BerInt -/
/-- The bytes of a number's body ahead of l. -/
def ib : Nat → Int → List Int → List Int
  | 0, _, l => l
  | j + 1, x, l => if -128 ≤ x ∧ x < 128 then l else ib j (x / 256) ((x / 256) % 256 :: l)
def ibfits : Nat → Int → Prop
  | 0, x => -128 ≤ x ∧ x < 128
  | j + 1, x => ibfits j (x / 256)
/-- The body of a number. -/
def IB (n : Int) : ByteArray := strOfNums (ib 8 n [n % 256])
theorem ibfits_i64 {n : Int} (h0 : -9223372036854775808 ≤ n) (h1 : n ≤ 9223372036854775807) : ibfits 7 n := by
  simp only [ibfits]; omega
theorem ib_length : ∀ j x l, l.length ≤ (ib j x l).length ∧ (ib j x l).length ≤ l.length + j
  | 0, x, l => by simp [ib]
  | j + 1, x, l => by
    simp only [ib]
    split
    · omega
    · have := ib_length j (x / 256) ((x / 256) % 256 :: l)
      simp at this; omega
theorem IB_size (n : Int) : 1 ≤ (IB n).size ∧ (IB n).size ≤ 9 := by
  unfold IB; rw [strOfNums_size]; have := ib_length 8 n [n % 256]; simpa using this
theorem i8w {x : Int} (h0 : 0 ≤ x) (h1 : x < 256) : IntKind.i8.wrap x = if x < 128 then x else x - 256 := by
  have key : ∀ z : Fin 256, IntKind.i8.wrap (z.val : Int) = if (z.val : Int) < 128 then (z.val : Int) else (z.val : Int) - 256 := by decide +kernel
  have := key ⟨x.toNat, by omega⟩
  simpa [Int.toNat_of_nonneg h0] using this
theorem spec_l09Bytes_l0 : ∀ (j k : Nat) (x : Int) (l : List Int), ibfits j x → l.length + j < 100 → j < k →
    spec_l09Bytes.l0 k (x % 256 :: l) (x / 256) = some (strOfNums (ib (j + 1) x (x % 256 :: l)))
  | j, k, x, l, hf, hl, hk => by
    obtain ⟨k, rfl⟩ : ∃ m, k = m + 1 := ⟨k - 1, by omega⟩
    have hrd : rd (x % 256 :: l) 0 = x % 256 := rfl
    have hdone : -128 ≤ x ∧ x < 128 → ib (j + 1) x (x % 256 :: l) = x % 256 :: l := fun h => by simp only [ib]; rw [if_pos h]
    have hgo : ¬ (-128 ≤ x ∧ x < 128) → spec_l09Bytes.l0 k ([(x / 256) % 256] ++ (x % 256 :: l)) (x / 256 / 256) = some (strOfNums (ib (j + 1) x (x % 256 :: l))) := fun h => by
      cases j with
      | zero => exact absurd hf h
      | succ j =>
        have hf' : ibfits j (x / 256) := hf
        have := spec_l09Bytes_l0 j k (x / 256) (x % 256 :: l) hf' (by simp only [List.length_cons, List.length_nil]; omega) (by omega)
        rw [show [(x / 256) % 256] ++ (x % 256 :: l) = (x / 256) % 256 :: (x % 256 :: l) from rfl, this]
        simp only [ib]; rw [if_neg h]
    have hlen : ([(x / 256) % 256] : List Int).length + (x % 256 :: l).length < 140737488355328 := by simp only [List.length_cons, List.length_nil]; omega
    simp only [spec_l09Bytes.l0, hrd, Option.bind_some]
    by_cases h0 : x / 256 = 0
    · rw [if_pos h0, if_pos (by simp only [List.length_cons, List.length_nil]; omega)]
      by_cases h1 : x % 256 < 128
      · rw [if_pos h1, hdone (by omega)]
      · rw [if_neg h1, if_neg (by omega), if_pos hlen, hgo (by omega)]
    · rw [if_neg h0]
      by_cases h2 : x / 256 = -1
      · rw [if_pos h2, if_pos (by simp only [List.length_cons, List.length_nil]; omega)]
        by_cases h3 : x % 256 ≥ 128
        · rw [if_pos h3, hdone (by omega)]
        · rw [if_neg h3, if_pos hlen, hgo (by omega)]
      · rw [if_neg h2, if_pos hlen, hgo (by omega)]
theorem impl_intBody_l0 : ∀ (j k : Nat) (x : Int) (l : List Int), ibfits j x → l.length + j < 100 → j < k →
    impl_intBody.l0 k x (x % 256 :: l) = some (strOfNums (ib (j + 1) x (x % 256 :: l)))
  | j, k, x, l, hf, hl, hk => by
    obtain ⟨k, rfl⟩ : ∃ m, k = m + 1 := ⟨k - 1, by omega⟩
    have hrd : rd (x % 256 :: l) 0 = x % 256 := rfl
    have hlen : ([(x / 256) % 256] : List Int).length + (x % 256 :: l).length < 140737488355328 := by simp only [List.length_cons, List.length_nil]; omega
    simp only [impl_intBody.l0, hrd, Option.bind_some]
    rw [if_pos (by simp only [List.length_cons, List.length_nil]; omega), i8w (by omega) (by omega)]
    have hw : wrap64 (if x % 256 < 128 then x % 256 else x % 256 - 256) = if x % 256 < 128 then x % 256 else x % 256 - 256 := w64 (by split <;> omega) (by split <;> omega)
    rw [hw]
    by_cases h : -128 ≤ x ∧ x < 128
    · rw [if_pos (by split <;> omega)]; simp only [ib]; rw [if_pos h]
    · rw [if_neg (by split <;> omega), if_pos hlen]
      cases j with
      | zero => exact absurd hf h
      | succ j =>
        have hf' : ibfits j (x / 256) := hf
        have := impl_intBody_l0 j k (x / 256) (x % 256 :: l) hf' (by simp only [List.length_cons, List.length_nil]; omega) (by omega)
        rw [show [(x / 256) % 256] ++ (x % 256 :: l) = (x / 256) % 256 :: (x % 256 :: l) from rfl, this]
        simp only [ib]; rw [if_neg h]
theorem spec_l09Bytes_f (k : Nat) (n : Int) (h0 : -9223372036854775808 ≤ n) (h1 : n ≤ 9223372036854775807) (hk : 8 ≤ k) : spec_l09Bytes.f k n = some (IB n) := by
  unfold spec_l09Bytes.f
  rw [show ([(n) % 256] : List Int) = n % 256 :: [] from rfl, spec_l09Bytes_l0 7 k n [] (ibfits_i64 h0 h1) (by simp) (by omega)]; rfl
theorem impl_intBody_f (k : Nat) (n : Int) (h0 : -9223372036854775808 ≤ n) (h1 : n ≤ 9223372036854775807) (hk : 8 ≤ k) : impl_intBody.f k n = some (IB n) := by
  unfold impl_intBody.f
  rw [show ([(n) % 256] : List Int) = n % 256 :: [] from rfl, impl_intBody_l0 7 k n [] (ibfits_i64 h0 h1) (by simp) (by omega)]; rfl

theorem FnExactBerInt : laws_FnExactBerInt.Pure := by
  intro a n ha hn
  have hb := wf_i64 hn
  have hz := IB_size n
  refine ⟨8, ?_⟩
  unfold laws_FnExactBerInt.f
  refine law_end (r := if isTagP a = true then BP a (IB n) else ⟨#[]⟩) ?_ ?_
  · unfold spec_BerInt.f
    rw [spec_l09Tag_f]
    simp only [Option.bind_some]
    by_cases h : isTagP a = true
    · rw [if_pos h, if_pos h, spec_l09Bytes_f 8 n hb.1 hb.2 (by omega)]
      simp only [Option.bind_some]
      rw [spec_l09Put_f a _ (by omega)]; rfl
    · rw [if_neg h, if_neg h]
  · unfold impl_BerInt.f
    rw [impl_intBody_f 8 n hb.1 hb.2 (by omega)]
    simp only [Option.bind_some]
    rw [impl_BerPut_f]
    simp only [Option.bind_some]
    by_cases h : isTagP a = true
    · rw [if_pos h, if_pos ⟨h, by omega⟩]
    · rw [if_neg h, if_neg (fun x => h x.1)]

end Go.Proofs.Ytlknidocphejcaa.Pure
