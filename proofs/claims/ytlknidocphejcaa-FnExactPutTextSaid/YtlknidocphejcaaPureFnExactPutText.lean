/- The law FnExactPutText answers true at every string: the program's PutText gives the bytes that the reference's gives. No condition. -/
import Derived.Test.YtlknidocphejcaaPFnExactPutTextx1
import Derived.Laws.Bits64
namespace Go.Proofs.Ytlknidocphejcaa.Pure
open Go.RowKit Go.Proofs.Ytlknidocphejcaa.PFnExactPutText Go.Proofs.YtlknidocphejcaaW.PrintWords Go.Proofs.YtlknidocphejcaaW.PrintLast
set_option linter.unusedVariables false
set_option linter.unusedSimpArgs false

/-! plain lemmas -/
theorem w64 {x : Int} (h0 : -9223372036854775808 ≤ x) (h1 : x ≤ 9223372036854775807) : wrap64 x = x := by unfold wrap64; omega
theorem u64w {x : Int} (h0 : 0 ≤ x) (h1 : x < 18446744073709551616) : IntKind.u64.wrap x = x := by rw [IntKind.wrap_u64]; omega
theorem son_append (xs ys : List Int) : strOfNums (xs ++ ys) = strOfNums xs ++ strOfNums ys := by
  unfold strOfNums
  apply ByteArray.ext
  simp
theorem ba_append_size (a b : ByteArray) : (a ++ b).size = a.size + b.size := by simp
theorem ba_append_assoc (a b c : ByteArray) : (a ++ b) ++ c = a ++ (b ++ c) := by
  apply ByteArray.ext
  simp
/-- The comparison at the end of a law. -/
theorem law_end {A B : Option ByteArray} {r : ByteArray} (hA : A = some r) (hB : B = some r) :
    (A.bind fun t => B.bind fun t' => if t'.toList = t.toList then some true else some false) = some true := by
  rw [hA, hB]; simp
theorem wf_i64 {n : Int} (h : (Lit.int .i64 n).wf = true) : -9223372036854775808 ≤ n ∧ n ≤ 9223372036854775807 := by
  simpa [Lit.wf, IntKind.min, IntKind.max, IntKind.bits, IntKind.signed] using h

/-! PutNum -/
/-- The zigzag of a number. -/
def zz (n : Int) : Int := if n < 0 then -2 * n - 1 else 2 * n
/-- The varint of a number, in at most j + 1 bytes. -/
def vl : Nat → Int → List Int
  | 0, u => [u % 256]
  | j + 1, u => if u ≥ 128 then (u % 128 + 128) :: vl j (u / 128) else [u % 256]
/-- j + 1 bytes are enough. -/
def vfits : Nat → Int → Prop
  | 0, x => x < 128
  | j + 1, x => vfits j (x / 128)
def PN (n : Int) : ByteArray := strOfNums (vl 9 (zz n))
theorem zz_fits {n : Int} (h0 : -9223372036854775808 ≤ n) (h1 : n ≤ 9223372036854775807) : 0 ≤ zz n ∧ zz n < 18446744073709551616 ∧ vfits 9 (zz n) := by
  have a : 0 ≤ zz n := by unfold zz; split <;> omega
  have b : zz n < 18446744073709551616 := by unfold zz; split <;> omega
  refine ⟨a, b, ?_⟩
  simp only [vfits]
  omega
theorem vl_length : ∀ j u, 1 ≤ (vl j u).length ∧ (vl j u).length ≤ j + 1
  | 0, u => by simp [vl]
  | j + 1, u => by
    have := vl_length j (u / 128)
    simp only [vl]
    split <;> simp <;> omega
theorem PN_size (n : Int) : 1 ≤ (PN n).size ∧ (PN n).size ≤ 10 := by
  unfold PN; rw [strOfNums_size]; exact vl_length 9 _
theorem xor_ones (x : Int) (h0 : 0 ≤ x) (h1 : x < 18446744073709551616) : Go.bits .xor .u64 x 18446744073709551615 = 18446744073709551615 - x := by
  obtain ⟨a, rfl⟩ := Int.eq_ofNat_of_zero_le h0
  have ha : a < 18446744073709551616 := by omega
  have e := bits_xor_u64_nat a 18446744073709551615 ha (by decide)
  rw [show ((18446744073709551615 : Nat) : Int) = 18446744073709551615 from rfl] at e
  rw [e]
  have h2 : a ^^^ 18446744073709551615 = 18446744073709551615 - a := by
    have h3 : (BitVec.ofNat 64 a ^^^ BitVec.allOnes 64).toNat = 2 ^ 64 - 1 - (BitVec.ofNat 64 a).toNat := by
      rw [BitVec.xor_allOnes, BitVec.toNat_not]
    rw [BitVec.toNat_xor, BitVec.toNat_ofNat, BitVec.toNat_allOnes, Nat.mod_eq_of_lt (by omega)] at h3
    exact h3
  rw [h2]; omega
theorem xor_zero (x : Int) (h0 : 0 ≤ x) (h1 : x < 18446744073709551616) : Go.bits .xor .u64 x 0 = x := by
  obtain ⟨a, rfl⟩ := Int.eq_ofNat_of_zero_le h0
  have e := bits_xor_u64_nat a 0 (by omega) (by decide)
  rw [show ((0 : Nat) : Int) = 0 from rfl] at e
  rw [e, Nat.xor_zero]
theorem u8_or_128 {y : Int} (h0 : 0 ≤ y) (h1 : y < 256) : Go.bits .or .u8 y 128 = y % 128 + 128 := by
  have key : ∀ z : Fin 256, Go.bits .or .u8 (z.val : Int) 128 = (z.val : Int) % 128 + 128 := by decide +kernel
  have := key ⟨y.toNat, by omega⟩
  simpa [Int.toNat_of_nonneg h0] using this
theorem spec_fold (n : Int) (h0 : -9223372036854775808 ≤ n) (h1 : n ≤ 9223372036854775807) : spec_l01Fold.f n = some (zz n) := by
  unfold spec_l01Fold.f zz
  simp only [IntKind.wrap_u64]
  unfold wrap64
  by_cases h : n < 0
  · rw [if_pos h, if_pos h]; congr 1; omega
  · rw [if_neg h, if_neg h]; congr 1; omega
theorem impl_fold (n : Int) (h0 : -9223372036854775808 ≤ n) (h1 : n ≤ 9223372036854775807) :
    Go.bits .xor .u64 (IntKind.u64.wrap ((IntKind.u64.wrap (n)) * 2)) (IntKind.u64.wrap (n / 9223372036854775808)) = zz n := by
  simp only [IntKind.wrap_u64]
  unfold zz
  by_cases h : n < 0
  · rw [if_pos h, show n / 9223372036854775808 % 18446744073709551616 = 18446744073709551615 by omega, xor_ones _ (by omega) (by omega)]
    omega
  · rw [if_neg h, show n / 9223372036854775808 % 18446744073709551616 = 0 by omega, xor_zero _ (by omega) (by omega)]
    omega
theorem spec_PutNum_l0 : ∀ (j k : Nat) (x : Int) (l : List Int), 0 ≤ x → x < 18446744073709551616 → vfits j x → l.length + j < 140737488355328 → j < k →
    spec_PutNum.l0 k x l = some (strOfNums (l ++ vl j x))
  | 0, k, x, l, h0, h1, hf, hl, hk => by
    obtain ⟨k, rfl⟩ : ∃ m, k = m + 1 := ⟨k - 1, by omega⟩
    have hf : x < 128 := hf
    simp only [spec_PutNum.l0]
    rw [if_neg (by omega), if_pos (by omega)]; rfl
  | j + 1, k, x, l, h0, h1, hf, hl, hk => by
    obtain ⟨k, rfl⟩ : ∃ m, k = m + 1 := ⟨k - 1, by omega⟩
    have hf : vfits j (x / 128) := hf
    simp only [spec_PutNum.l0]
    by_cases h : x ≥ 128
    · rw [if_pos h, if_pos (by omega), Int.tdiv_eq_ediv_of_nonneg h0, Int.tmod_eq_emod_of_nonneg h0, u64w (by omega) (by omega), u64w (by omega) (by omega),
        spec_PutNum_l0 j k (x / 128) _ (by omega) (by omega) hf (by simp; omega) (by omega)]
      simp only [vl]; rw [if_pos h, List.append_assoc, show (x % 128 + 128) % 256 = x % 128 + 128 by omega]; rfl
    · rw [if_neg h, if_pos (by omega)]; simp only [vl]; rw [if_neg h]
theorem impl_PutNum_l0 : ∀ (j k : Nat) (x : Int) (l : List Int), 0 ≤ x → x < 18446744073709551616 → vfits j x → l.length + j < 140737488355328 → j < k →
    impl_PutNum.l0 k x l = some (strOfNums (l ++ vl j x))
  | 0, k, x, l, h0, h1, hf, hl, hk => by
    obtain ⟨k, rfl⟩ : ∃ m, k = m + 1 := ⟨k - 1, by omega⟩
    have hf : x < 128 := hf
    simp only [impl_PutNum.l0]
    rw [if_neg (by omega), if_pos (by omega)]; rfl
  | j + 1, k, x, l, h0, h1, hf, hl, hk => by
    obtain ⟨k, rfl⟩ : ∃ m, k = m + 1 := ⟨k - 1, by omega⟩
    have hf : vfits j (x / 128) := hf
    simp only [impl_PutNum.l0]
    by_cases h : x ≥ 128
    · rw [if_pos h, if_pos (by omega), u8_or_128 (by omega) (by omega),
        impl_PutNum_l0 j k (x / 128) _ (by omega) (by omega) hf (by simp; omega) (by omega)]
      simp only [vl]; rw [if_pos h, List.append_assoc, show x % 256 % 128 + 128 = x % 128 + 128 by omega]; rfl
    · rw [if_neg h, if_pos (by omega)]; simp only [vl]; rw [if_neg h]
theorem spec_PutNum_f (k : Nat) (n : Int) (h0 : -9223372036854775808 ≤ n) (h1 : n ≤ 9223372036854775807) (hk : 10 ≤ k) : spec_PutNum.f k n = some (PN n) := by
  obtain ⟨a, b, c⟩ := zz_fits h0 h1
  unfold spec_PutNum.f
  rw [spec_fold n h0 h1]
  simp only [Option.bind_some]
  rw [spec_PutNum_l0 9 k (zz n) [] a b c (by simp) (by omega)]; rfl
theorem impl_PutNum_f (k : Nat) (n : Int) (h0 : -9223372036854775808 ≤ n) (h1 : n ≤ 9223372036854775807) (hk : 10 ≤ k) : impl_PutNum.f k n = some (PN n) := by
  obtain ⟨a, b, c⟩ := zz_fits h0 h1
  unfold impl_PutNum.f
  rw [impl_fold n h0 h1, impl_PutNum_l0 9 k (zz n) [] a b c (by simp) (by omega)]; rfl

/-! isLong -/
theorem impl_isLong_l0 (l : List ByteArray) (hl : l.length ≤ 4611686018427387904) : ∀ (d k : Nat) (i : Int), 0 ≤ i → i + d = l.length → d < k →
    impl_isLong.l0 k l (l.length : Int) i = some ((l.drop i.toNat).any fun t => decide (t.size > 8000))
  | 0, k, i, h0, hd, hk => by
    obtain ⟨k, rfl⟩ : ∃ m, k = m + 1 := ⟨k - 1, by omega⟩
    simp only [impl_isLong.l0]
    rw [if_neg (by omega), List.drop_of_length_le (by omega)]; rfl
  | d + 1, k, i, h0, hd, hk => by
    obtain ⟨k, rfl⟩ : ∃ m, k = m + 1 := ⟨k - 1, by omega⟩
    have hlt : i.toNat < l.length := by omega
    simp only [impl_isLong.l0]
    rw [if_pos (by omega), if_pos h0, if_pos (by omega), List.drop_eq_getElem_cons hlt, List.any_cons]
    have e : rdOf ByteArray.empty l i = l[i.toNat] := by unfold rdOf; rw [List.getD_eq_getElem?_getD, List.getElem?_eq_getElem hlt]; rfl
    rw [e]
    by_cases h : (l[i.toNat].size : Int) > 8000
    · rw [if_pos h, decide_eq_true (by omega)]; rfl
    · rw [if_neg h, decide_eq_false (by omega), w64 (by omega) (by omega), impl_isLong_l0 l hl d k (i + 1) (by omega) (by omega) (by omega), show (i + 1).toNat = i.toNat + 1 by omega]; rfl
theorem impl_isLong_f (l : List ByteArray) (hl : l.length ≤ 4611686018427387904) (k : Nat) (hk : l.length < k) : impl_isLong.f k l = some (l.any fun t => decide (t.size > 8000)) := by
  unfold impl_isLong.f
  rw [impl_isLong_l0 l hl l.length k 0 (by omega) (by omega) hk]; rfl

/-! PutText -/
def PT (s : ByteArray) : ByteArray := if s.size > 8000 then ⟨#[]⟩ else PN s.size ++ s
theorem spec_PutText_f (k : Nat) (s : ByteArray) (hk : 10 ≤ k) : spec_PutText.f k s = some (PT s) := by
  unfold spec_PutText.f PT
  by_cases h : s.size > 8000
  · rw [if_pos h, if_pos (by omega)]
  · have := PN_size s.size
    rw [if_neg h, if_neg (by omega), spec_PutNum_f k _ (by omega) (by omega) hk]
    simp only [Option.bind_some]
    rw [if_pos (by omega)]
theorem impl_PutText_f (k : Nat) (s : ByteArray) (hk : 10 ≤ k) : impl_PutText.f k s = some (PT s) := by
  unfold impl_PutText.f PT
  rw [impl_isLong_f [s] (by simp) k (by simp; omega)]
  simp only [Option.bind_some, List.any_cons, List.any_nil, Bool.or_false]
  by_cases h : s.size > 8000
  · rw [if_pos h, if_pos (by simpa using h)]
  · have := PN_size s.size
    rw [if_neg h, if_neg (by simpa using h), impl_PutNum_f k _ (by omega) (by omega) hk]
    simp only [Option.bind_some]
    rw [if_pos (by omega)]

theorem FnExactPutText : laws_FnExactPutText.Pure := by
  intro a ha
  refine ⟨10, ?_⟩
  unfold laws_FnExactPutText.f
  by_cases h : (a.size : Int) > 1048576
  · rw [if_pos h]
  · rw [if_neg h]
    exact law_end (spec_PutText_f 10 a (by omega)) (impl_PutText_f 10 a (by omega))

end Go.Proofs.Ytlknidocphejcaa.Pure
