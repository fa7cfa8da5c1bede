/- The law FnNums answers true at every two codes: the drawn integer and the drawn string are decoded from their encodings, with the offset behind them, and a truncated encoding is rejected. No condition. -/
import Derived.Test.YticbafilcicdjaaPFnNumsx6
import Derived.Laws.Bits64
import Derived.Lib.Strings
import Derived.Laws.BitsAllLaws
namespace Go.Proofs.Yticbafilcicdjaa.Pure
open Go.RowKit Go.Proofs.Yticbafilcicdjaa.PFnNums Go.Proofs.YticbafilcicdjaaW.PrintWords Go.Proofs.YticbafilcicdjaaW.PrintLast
set_option linter.unusedVariables false
set_option linter.unusedSimpArgs false

/-! plain lemmas -/
theorem w64 {x : Int} (h0 : -9223372036854775808 ≤ x) (h1 : x ≤ 9223372036854775807) : wrap64 x = x := by unfold wrap64; omega
theorem u64w {x : Int} (h0 : 0 ≤ x) (h1 : x < 18446744073709551616) : IntKind.u64.wrap x = x := by rw [IntKind.wrap_u64]; omega
theorem son_append (xs ys : List Int) : strOfNums (xs ++ ys) = strOfNums xs ++ strOfNums ys := by
  unfold strOfNums
  apply ByteArray.ext
  simp
theorem ba_append_size (a b : ByteArray) : (a ++ b).size = a.size + b.size := by simp
theorem ba_append_assoc (a b c : ByteArray) : (a ++ b) ++ c = a ++ (b ++ c) := by
  apply ByteArray.ext
  simp
/-- The comparison at the end of a law. -/
theorem law_end {A B : Option ByteArray} {r : ByteArray} (hA : A = some r) (hB : B = some r) :
    (A.bind fun t => B.bind fun t' => if t'.toList = t.toList then some true else some false) = some true := by
  rw [hA, hB]; simp
theorem wf_i64 {n : Int} (h : (Lit.int .i64 n).wf = true) : -9223372036854775808 ≤ n ∧ n ≤ 9223372036854775807 := by
  simpa [Lit.wf, IntKind.min, IntKind.max, IntKind.bits, IntKind.signed] using h
/-- The same of two numbers. -/
theorem law_endI {A B : Option Int} {r : Int} (hA : A = some r) (hB : B = some r) :
    (A.bind fun t => B.bind fun t' => if t' = t then some true else some false) = some true := by
  rw [hA, hB]; simp

/-! strings of bytes -/
theorem ba_ext {a b : ByteArray} (h : a.data.toList = b.data.toList) : a = b := ByteArray.ext (Array.toList_inj.1 h)
theorem ba_inj {a b : ByteArray} : a.toList = b.toList ↔ a = b :=
  ⟨fun h => ba_ext (by rwa [Go.Lib.toList_data, Go.Lib.toList_data] at h), fun h => by rw [h]⟩
theorem ba_data_append (a b : ByteArray) : (a ++ b).data.toList = a.data.toList ++ b.data.toList := by simp
theorem ba_data_extract (s : ByteArray) (i j : Nat) : (s.extract i j).data.toList = (s.data.toList.drop i).take (j - i) := Go.Lib.extract_data s i j
theorem ba_split (s : ByteArray) (m : Nat) : s.extract 0 m ++ s.extract m s.size = s := by
  apply ba_ext
  rw [ba_data_append, ba_data_extract, ba_data_extract, Nat.sub_zero, List.drop_zero]
  rw [List.take_of_length_le (l := s.data.toList.drop m) (by rw [List.length_drop, data_length]; omega), List.take_append_drop]
theorem ba_append_inj {a b c : ByteArray} : a ++ b = a ++ c ↔ b = c := by
  constructor
  · intro h
    have h2 := congrArg (fun x : ByteArray => x.data.toList) h
    simp only [ba_data_append] at h2
    exact ba_ext (List.append_cancel_left h2)
  · intro h; rw [h]
theorem son_bytesOf (s : ByteArray) : strOfNums (bytesOf s) = s := by
  apply ba_ext
  rw [strOfNums_data, bytesOf, List.map_map]
  conv => rhs; rw [← List.map_id s.data.toList]
  apply List.map_congr_left
  intro b _
  simp
theorem ext_son (s : ByteArray) (i j : Nat) : s.extract i j = strOfNums (((bytesOf s).drop i).take (j - i)) := by
  apply ba_ext
  rw [ba_data_extract, strOfNums_data, List.map_take, List.map_drop]
  congr 2
  have := congrArg (fun x : ByteArray => x.data.toList) (son_bytesOf s)
  simp only [strOfNums_data] at this
  exact this.symm
theorem ba_extract_size (s : ByteArray) (i j : Nat) (hj : j ≤ s.size) : (s.extract i j).size = j - i := by
  rw [ByteArray.size_extract]; omega
theorem ba_nil_data : (⟨#[]⟩ : ByteArray).data.toList = [] := rfl
theorem ba_size0 {s : ByteArray} (h : s.size = 0) : s = ⟨#[]⟩ := by
  apply ba_ext
  rw [ba_nil_data]
  exact List.eq_nil_of_length_eq_zero (by rw [data_length]; exact h)
theorem bytesOf_son (l : List Int) (h : ∀ x ∈ l, 0 ≤ x ∧ x ≤ 255) : bytesOf (strOfNums l) = l := by
  unfold bytesOf
  rw [strOfNums_data, List.map_map]
  conv => rhs; rw [← List.map_id l]
  apply List.map_congr_left
  intro x hx
  have := h x hx
  simp only [Function.comp, id]
  rw [UInt8.toNat_ofNat']
  omega

theorem drop_bt (s : ByteArray) (i : Int) (h0 : 0 ≤ i) (h1 : i < s.size) : (bytesOf s).drop i.toNat = bt s i :: (bytesOf s).drop (i + 1).toNat := by
  have hl : i.toNat < (bytesOf s).length := by rw [bytesOf_length]; omega
  rw [List.drop_eq_getElem_cons hl, ← rd_bytesOf, show (i + 1).toNat = i.toNat + 1 by omega]
  congr 1
  unfold rd
  rw [List.getD_eq_getElem?_getD, List.getElem?_eq_getElem hl]; rfl

/-! PutNum -/
/-- The zigzag of a number. -/
def zz (n : Int) : Int := if n < 0 then -2 * n - 1 else 2 * n
/-- The varint of a number, in at most j + 1 bytes. -/
def vl : Nat → Int → List Int
  | 0, u => [u % 256]
  | j + 1, u => if u ≥ 128 then (u % 128 + 128) :: vl j (u / 128) else [u % 256]
/-- j + 1 bytes are enough. -/
def vfits : Nat → Int → Prop
  | 0, x => x < 128
  | j + 1, x => vfits j (x / 128)
def PN (n : Int) : ByteArray := strOfNums (vl 9 (zz n))
theorem zz_fits {n : Int} (h0 : -9223372036854775808 ≤ n) (h1 : n ≤ 9223372036854775807) : 0 ≤ zz n ∧ zz n < 18446744073709551616 ∧ vfits 9 (zz n) := by
  have a : 0 ≤ zz n := by unfold zz; split <;> omega
  have b : zz n < 18446744073709551616 := by unfold zz; split <;> omega
  refine ⟨a, b, ?_⟩
  simp only [vfits]
  omega
theorem vl_length : ∀ j u, 1 ≤ (vl j u).length ∧ (vl j u).length ≤ j + 1
  | 0, u => by simp [vl]
  | j + 1, u => by
    have := vl_length j (u / 128)
    simp only [vl]
    split <;> simp <;> omega
theorem PN_size (n : Int) : 1 ≤ (PN n).size ∧ (PN n).size ≤ 10 := by
  unfold PN; rw [strOfNums_size]; exact vl_length 9 _
theorem xor_ones (x : Int) (h0 : 0 ≤ x) (h1 : x < 18446744073709551616) : Go.bits .xor .u64 x 18446744073709551615 = 18446744073709551615 - x := by
  obtain ⟨a, rfl⟩ := Int.eq_ofNat_of_zero_le h0
  have ha : a < 18446744073709551616 := by omega
  have e := bits_xor_u64_nat a 18446744073709551615 ha (by decide)
  rw [show ((18446744073709551615 : Nat) : Int) = 18446744073709551615 from rfl] at e
  rw [e]
  have h2 : a ^^^ 18446744073709551615 = 18446744073709551615 - a := by
    have h3 : (BitVec.ofNat 64 a ^^^ BitVec.allOnes 64).toNat = 2 ^ 64 - 1 - (BitVec.ofNat 64 a).toNat := by
      rw [BitVec.xor_allOnes, BitVec.toNat_not]
    rw [BitVec.toNat_xor, BitVec.toNat_ofNat, BitVec.toNat_allOnes, Nat.mod_eq_of_lt (by omega)] at h3
    exact h3
  rw [h2]; omega
theorem xor_zero (x : Int) (h0 : 0 ≤ x) (h1 : x < 18446744073709551616) : Go.bits .xor .u64 x 0 = x := by
  obtain ⟨a, rfl⟩ := Int.eq_ofNat_of_zero_le h0
  have e := bits_xor_u64_nat a 0 (by omega) (by decide)
  rw [show ((0 : Nat) : Int) = 0 from rfl] at e
  rw [e, Nat.xor_zero]
theorem u8_or_128 {y : Int} (h0 : 0 ≤ y) (h1 : y < 256) : Go.bits .or .u8 y 128 = y % 128 + 128 := by
  have key : ∀ z : Fin 256, Go.bits .or .u8 (z.val : Int) 128 = (z.val : Int) % 128 + 128 := by decide +kernel
  have := key ⟨y.toNat, by omega⟩
  simpa [Int.toNat_of_nonneg h0] using this
theorem spec_fold (n : Int) (h0 : -9223372036854775808 ≤ n) (h1 : n ≤ 9223372036854775807) : spec_l01Fold.f n = some (zz n) := by
  unfold spec_l01Fold.f zz
  simp only [IntKind.wrap_u64]
  unfold wrap64
  by_cases h : n < 0
  · rw [if_pos h, if_pos h]; congr 1; omega
  · rw [if_neg h, if_neg h]; congr 1; omega
theorem impl_fold (n : Int) (h0 : -9223372036854775808 ≤ n) (h1 : n ≤ 9223372036854775807) :
    Go.bits .xor .u64 (IntKind.u64.wrap ((IntKind.u64.wrap (n)) * 2)) (IntKind.u64.wrap (n / 9223372036854775808)) = zz n := by
  simp only [IntKind.wrap_u64]
  unfold zz
  by_cases h : n < 0
  · rw [if_pos h, show n / 9223372036854775808 % 18446744073709551616 = 18446744073709551615 by omega, xor_ones _ (by omega) (by omega)]
    omega
  · rw [if_neg h, show n / 9223372036854775808 % 18446744073709551616 = 0 by omega, xor_zero _ (by omega) (by omega)]
    omega
theorem spec_PutNum_l0 : ∀ (j k : Nat) (x : Int) (l : List Int), 0 ≤ x → x < 18446744073709551616 → vfits j x → l.length + j < 140737488355328 → j < k →
    spec_PutNum.l0 k x l = some (strOfNums (l ++ vl j x))
  | 0, k, x, l, h0, h1, hf, hl, hk => by
    obtain ⟨k, rfl⟩ : ∃ m, k = m + 1 := ⟨k - 1, by omega⟩
    have hf : x < 128 := hf
    simp only [spec_PutNum.l0]
    rw [if_neg (by omega), if_pos (by omega)]; rfl
  | j + 1, k, x, l, h0, h1, hf, hl, hk => by
    obtain ⟨k, rfl⟩ : ∃ m, k = m + 1 := ⟨k - 1, by omega⟩
    have hf : vfits j (x / 128) := hf
    simp only [spec_PutNum.l0]
    by_cases h : x ≥ 128
    · rw [if_pos h, if_pos (by omega), Int.tdiv_eq_ediv_of_nonneg h0, Int.tmod_eq_emod_of_nonneg h0, u64w (by omega) (by omega), u64w (by omega) (by omega),
        spec_PutNum_l0 j k (x / 128) _ (by omega) (by omega) hf (by simp; omega) (by omega)]
      simp only [vl]; rw [if_pos h, List.append_assoc, show (x % 128 + 128) % 256 = x % 128 + 128 by omega]; rfl
    · rw [if_neg h, if_pos (by omega)]; simp only [vl]; rw [if_neg h]
theorem impl_PutNum_l0 : ∀ (j k : Nat) (x : Int) (l : List Int), 0 ≤ x → x < 18446744073709551616 → vfits j x → l.length + j < 140737488355328 → j < k →
    impl_PutNum.l0 k x l = some (strOfNums (l ++ vl j x))
  | 0, k, x, l, h0, h1, hf, hl, hk => by
    obtain ⟨k, rfl⟩ : ∃ m, k = m + 1 := ⟨k - 1, by omega⟩
    have hf : x < 128 := hf
    simp only [impl_PutNum.l0]
    rw [if_neg (by omega), if_pos (by omega)]; rfl
  | j + 1, k, x, l, h0, h1, hf, hl, hk => by
    obtain ⟨k, rfl⟩ : ∃ m, k = m + 1 := ⟨k - 1, by omega⟩
    have hf : vfits j (x / 128) := hf
    simp only [impl_PutNum.l0]
    by_cases h : x ≥ 128
    · rw [if_pos h, if_pos (by omega), u8_or_128 (by omega) (by omega),
        impl_PutNum_l0 j k (x / 128) _ (by omega) (by omega) hf (by simp; omega) (by omega)]
      simp only [vl]; rw [if_pos h, List.append_assoc, show x % 256 % 128 + 128 = x % 128 + 128 by omega]; rfl
    · rw [if_neg h, if_pos (by omega)]; simp only [vl]; rw [if_neg h]
theorem spec_PutNum_f (k : Nat) (n : Int) (h0 : -9223372036854775808 ≤ n) (h1 : n ≤ 9223372036854775807) (hk : 10 ≤ k) : spec_PutNum.f k n = some (PN n) := by
  obtain ⟨a, b, c⟩ := zz_fits h0 h1
  unfold spec_PutNum.f
  rw [spec_fold n h0 h1]
  simp only [Option.bind_some]
  rw [spec_PutNum_l0 9 k (zz n) [] a b c (by simp) (by omega)]; rfl
theorem impl_PutNum_f (k : Nat) (n : Int) (h0 : -9223372036854775808 ≤ n) (h1 : n ≤ 9223372036854775807) (hk : 10 ≤ k) : impl_PutNum.f k n = some (PN n) := by
  obtain ⟨a, b, c⟩ := zz_fits h0 h1
  unfold impl_PutNum.f
  rw [impl_fold n h0 h1, impl_PutNum_l0 9 k (zz n) [] a b c (by simp) (by omega)]; rfl

/-! isLong -/
theorem impl_isLong_l0 (l : List ByteArray) (hl : l.length ≤ 4611686018427387904) : ∀ (d k : Nat) (i : Int), 0 ≤ i → i + d = l.length → d < k →
    impl_isLong.l0 k l (l.length : Int) i = some ((l.drop i.toNat).any fun t => decide (t.size > 8000))
  | 0, k, i, h0, hd, hk => by
    obtain ⟨k, rfl⟩ : ∃ m, k = m + 1 := ⟨k - 1, by omega⟩
    simp only [impl_isLong.l0]
    rw [if_neg (by omega), List.drop_of_length_le (by omega)]; rfl
  | d + 1, k, i, h0, hd, hk => by
    obtain ⟨k, rfl⟩ : ∃ m, k = m + 1 := ⟨k - 1, by omega⟩
    have hlt : i.toNat < l.length := by omega
    simp only [impl_isLong.l0]
    rw [if_pos (by omega), if_pos h0, if_pos (by omega), List.drop_eq_getElem_cons hlt, List.any_cons]
    have e : rdOf ByteArray.empty l i = l[i.toNat] := by unfold rdOf; rw [List.getD_eq_getElem?_getD, List.getElem?_eq_getElem hlt]; rfl
    rw [e]
    by_cases h : (l[i.toNat].size : Int) > 8000
    · rw [if_pos h, decide_eq_true (by omega)]; rfl
    · rw [if_neg h, decide_eq_false (by omega), w64 (by omega) (by omega), impl_isLong_l0 l hl d k (i + 1) (by omega) (by omega) (by omega), show (i + 1).toNat = i.toNat + 1 by omega]; rfl
theorem impl_isLong_f (l : List ByteArray) (hl : l.length ≤ 4611686018427387904) (k : Nat) (hk : l.length < k) : impl_isLong.f k l = some (l.any fun t => decide (t.size > 8000)) := by
  unfold impl_isLong.f
  rw [impl_isLong_l0 l hl l.length k 0 (by omega) (by omega) hk]; rfl

/-! PutText -/
def PT (s : ByteArray) : ByteArray := if s.size > 8000 then ⟨#[]⟩ else PN s.size ++ s
theorem spec_PutText_f (k : Nat) (s : ByteArray) (hk : 10 ≤ k) : spec_PutText.f k s = some (PT s) := by
  unfold spec_PutText.f PT
  by_cases h : s.size > 8000
  · rw [if_pos h, if_pos (by omega)]
  · have := PN_size s.size
    rw [if_neg h, if_neg (by omega), spec_PutNum_f k _ (by omega) (by omega) hk]
    simp only [Option.bind_some]
    rw [if_pos (by omega)]
theorem impl_PutText_f (k : Nat) (s : ByteArray) (hk : 10 ≤ k) : impl_PutText.f k s = some (PT s) := by
  unfold impl_PutText.f PT
  rw [impl_isLong_f [s] (by simp) k (by simp; omega)]
  simp only [Option.bind_some, List.any_cons, List.any_nil, Bool.or_false]
  by_cases h : s.size > 8000
  · rw [if_pos h, if_pos (by simpa using h)]
  · have := PN_size s.size
    rw [if_neg h, if_neg (by simpa using h), impl_PutNum_f k _ (by omega) (by omega) hk]
    simp only [Option.bind_some]
    rw [if_pos (by omega)]

/-! getNum, getText -/
/-- The number that a zigzag stands for. -/
def uz (u : Int) : Int := if u % 2 = 0 then u / 2 else -(u / 2) - 1
theorem uz_zz (n : Int) : uz (zz n) = n := by
  unfold uz zz
  by_cases h : n < 0
  · rw [if_pos h, if_neg (by omega)]; omega
  · rw [if_neg h, if_pos (by omega)]; omega
theorem bits_or_comm (k : IntKind) (x y : Int) : Go.bits .or k x y = Go.bits .or k y x := by
  unfold Go.bits
  show k.wrap _ = k.wrap _
  rw [BitVec.or_comm]
theorem wraps_u64 (n : Int) (h0 : 0 ≤ n) (h1 : n < 2 ^ 64) : IntKind.u64.wrap n = n := by rw [IntKind.wrap_u64]; omega
theorem u64_or_shift (acc x : Int) (i : Nat) (hi : 7 * i ≤ 63) (h0 : 0 ≤ acc) (h1 : acc < 2 ^ (7 * i)) (hx0 : 0 ≤ x) (hx1 : x * 2 ^ (7 * i) < 18446744073709551616) :
    Go.bits .or .u64 acc (shl .u64 x (7 * (i : Int))) = acc + x * 2 ^ (7 * i) := by
  have hP : (0 : Int) < 2 ^ (7 * i) := Int.pow_pos (by decide)
  have hxP : 0 ≤ x * 2 ^ (7 * i) := Int.mul_nonneg hx0 (by omega)
  have e : shl .u64 x (7 * (i : Int)) = x * 2 ^ (7 * i) := by
    unfold shl
    rw [show (7 * (i : Int)).toNat = 7 * i by omega, show min (7 * i) IntKind.u64.bits = 7 * i from Nat.min_eq_left (by show 7 * i ≤ 64; omega)]
    exact wraps_u64 _ hxP (by omega)
  have hPle : (2 : Int) ^ (7 * i) ≤ 2 ^ 63 := by
    have := Nat.pow_le_pow_right (n := 2) (by decide) hi
    exact_mod_cast this
  rw [e, bits_or_comm, bits_join .u64 64 (by decide) wraps_u64 (7 * i) (x * 2 ^ (7 * i)) acc hxP (Int.mul_emod_left _ _) (by omega) h0 h1 (by omega)]
  omega
theorem u8_and127 {b : Int} (h0 : 0 ≤ b) (h1 : b ≤ 255) : Go.bits .and .u8 b 127 = b % 128 := by
  have key : ∀ z : Fin 256, Go.bits .and .u8 (z.val : Int) 127 = (z.val : Int) % 128 := by decide +kernel
  have := key ⟨b.toNat, by omega⟩
  simpa [Int.toNat_of_nonneg h0] using this
theorem u64_and1 (u : Int) (h0 : 0 ≤ u) (h1 : u < 18446744073709551616) : Go.bits .and .u64 u 1 = u % 2 := by
  have := bits_mask .u64 64 (by decide) wraps_u64 1 (by decide) u h0 (by omega)
  simpa using this
theorem i64_xor_0 (x : Int) (h0 : -9223372036854775808 ≤ x) (h1 : x ≤ 9223372036854775807) : Go.bits .xor .i64 x 0 = x := by
  unfold Go.bits
  show IntKind.i64.wrap ((BitVec.ofInt 64 x ^^^ BitVec.ofInt 64 0).toNat : Int) = x
  rw [show BitVec.ofInt 64 0 = 0#64 from rfl, BitVec.xor_zero, BitVec.toNat_ofInt, IntKind.wrap_i64]
  omega
theorem i64_xor_ones (x : Int) (h0 : -9223372036854775808 ≤ x) (h1 : x ≤ 9223372036854775807) : Go.bits .xor .i64 x (-1) = -x - 1 := by
  unfold Go.bits
  show IntKind.i64.wrap ((BitVec.ofInt 64 x ^^^ BitVec.ofInt 64 (-1)).toNat : Int) = -x - 1
  rw [show BitVec.ofInt 64 (-1) = BitVec.allOnes 64 from rfl, BitVec.xor_allOnes, BitVec.toNat_not, BitVec.toNat_ofInt, IntKind.wrap_i64]
  omega
theorem unzig (u : Int) (h0 : 0 ≤ u) (h1 : u < 18446744073709551616) : Go.bits .xor .i64 (wrap64 (u / 2)) (wrap64 (-(wrap64 (Go.bits .and .u64 u 1)))) = uz u := by
  rw [u64_and1 u h0 h1, w64 (x := u / 2) (by omega) (by omega), w64 (x := u % 2) (by omega) (by omega), w64 (x := -(u % 2)) (by omega) (by omega)]
  unfold uz
  by_cases h : u % 2 = 0
  · rw [if_pos h, h, show (-0 : Int) = 0 from rfl, i64_xor_0 _ (by omega) (by omega)]
  · rw [if_neg h, show -(u % 2) = -1 by omega, i64_xor_ones _ (by omega) (by omega)]
theorem bt_head (s : ByteArray) (a : Int) (h0 : 0 ≤ a) {b : Int} {rest : List Int} (h : (bytesOf s).drop a.toNat = b :: rest) : a < s.size ∧ bt s a = b := by
  have hl : a.toNat < (bytesOf s).length := by
    rcases Nat.lt_or_ge a.toNat (bytesOf s).length with h2 | h2
    · exact h2
    · rw [List.drop_of_length_le h2] at h; cases h
  rw [bytesOf_length] at hl
  have h2 : a < s.size := by omega
  refine ⟨h2, ?_⟩
  rw [drop_bt s a h0 h2] at h
  exact (List.cons.inj h).1
theorem impl_getNum_step (k : Nat) (s : ByteArray) (a acc b : Int) (i : Nat) (hs : s.size ≤ 1099511627776) (ha : 0 ≤ a) (hi : i ≤ 9) (h : a + i < s.size) (hb : bt s (a + i) = b) (hb9 : i = 9 → b ≤ 1) (hnz : ¬ (b = 0 ∧ 0 < i))
    (h0 : 0 ≤ acc) (h1 : acc < 2 ^ (7 * i)) (hx : acc + (b % 128) * 2 ^ (7 * i) < 18446744073709551616) :
    impl_getNum.l0 (k + 3) s a acc i = if b ≥ 128 then impl_getNum.l0 k s a (acc + (b % 128) * 2 ^ (7 * i)) ((i + 1 : Nat) : Int) else some (uz (acc + (b % 128) * 2 ^ (7 * i)), a + i + 1, 0) := by
  have hbr := bt_range s (a + i)
  rw [hb] at hbr
  have hP : (0 : Int) < 2 ^ (7 * i) := Int.pow_pos (by decide)
  have hxP : 0 ≤ (b % 128) * 2 ^ (7 * i) := Int.mul_nonneg (by omega) (by omega)
  have hsum : Go.bits .or .u64 acc (shl .u64 (IntKind.u64.wrap (Go.bits .and .u8 b 127)) (wrap64 (7 * (i : Int)))) = acc + (b % 128) * 2 ^ (7 * i) := by
    rw [u8_and127 hbr.1 hbr.2, wraps_u64 _ (by omega) (by omega), w64 (x := 7 * (i : Int)) (by omega) (by omega), u64_or_shift acc _ i (by omega) h0 h1 (by omega) (by omega)]
  have key : impl_getNum.j2 (k + 1) s a acc i b false = if b ≥ 128 then impl_getNum.l0 k s a (acc + (b % 128) * 2 ^ (7 * i)) ((i + 1 : Nat) : Int) else some (uz (acc + (b % 128) * 2 ^ (7 * i)), a + i + 1, 0) := by
    rw [impl_getNum.j2, if_neg (by simp), hsum, w64 (x := 7 * (i : Int)) (by omega) (by omega), if_pos (by omega), w64 (x := (i : Int) + 1) (by omega) (by omega), unzig _ (by omega) hx, w64 (x := a + i) (by omega) (by omega), w64 (x := a + i + 1) (by omega) (by omega)]
    by_cases h128 : b ≥ 128
    · rw [if_pos h128, if_pos h128, Int.natCast_add]; rfl
    · rw [if_neg h128, if_neg h128]
      by_cases hb0 : b = 0
      · rw [if_pos hb0, if_neg (by omega)]
      · rw [if_neg hb0]
  rw [impl_getNum.l0, w64 (x := a + i) (by omega) (by omega), if_neg (by omega), decide_eq_false (by omega), impl_getNum.j1, if_neg (by simp), w64 (x := a + i) (by omega) (by omega), if_pos (by omega), if_pos (by omega), hb]
  by_cases h9 : (i : Int) = 9
  · rw [if_pos h9, decide_eq_false (by have := hb9 (by omega); omega)]; exact key
  · rw [if_neg h9]; exact key
theorem impl_getNum_l0 (s : ByteArray) (hs : s.size ≤ 1099511627776) (a : Int) (ha : 0 ≤ a) : ∀ (j k i : Nat) (acc v : Int) (rest : List Int), i + j = 9 → (bytesOf s).drop (a + i).toNat = vl j v ++ rest → 0 ≤ v → vfits j v → (0 < i → 1 ≤ v) →
    0 ≤ acc → acc < 2 ^ (7 * i) → acc + v * 2 ^ (7 * i) < 18446744073709551616 → 3 * (j + 1) ≤ k → impl_getNum.l0 k s a acc i = some (uz (acc + v * 2 ^ (7 * i)), a + i + (vl j v).length, 0)
  | j, k, i, acc, v, rest, hij, hd, hv0, hf, hv1, h0, h1, hx, hk => by
    obtain ⟨k, rfl⟩ : ∃ m, k = m + 3 := ⟨k - 3, by omega⟩
    have hP : (0 : Int) < 2 ^ (7 * i) := Int.pow_pos (by decide)
    have hvP : v ≤ v * 2 ^ (7 * i) := by
      have := Int.mul_le_mul_of_nonneg_left (show (1 : Int) ≤ 2 ^ (7 * i) by omega) hv0
      omega
    have last : ∀ j : Nat, v < 128 → i + j = 9 → vl j v = [v] → (bytesOf s).drop (a + i).toNat = vl j v ++ rest → impl_getNum.l0 (k + 3) s a acc i = some (uz (acc + v * 2 ^ (7 * i)), a + i + (vl j v).length, 0) := by
      intro j hlt hij hvl hd
      rw [hvl] at hd
      obtain ⟨hsz, hb⟩ := bt_head s (a + i) (by omega) hd
      have hb9 : i = 9 → v ≤ 1 := by
        intro h9
        subst h9
        have e : (2 : Int) ^ (7 * 9) = 9223372036854775808 := by decide
        rw [e] at hx
        omega
      rw [impl_getNum_step k s a acc v i hs ha (by omega) hsz hb hb9 (by omega) h0 h1 (by rw [Int.emod_eq_of_lt hv0 hlt]; exact hx), if_neg (by omega), Int.emod_eq_of_lt hv0 hlt, hvl]
      rfl
    match j, hij, hd, hf, hk with
    | 0, hij, hd, hf, hk =>
      have hf : v < 128 := hf
      exact last 0 hf hij (by simp only [vl]; rw [show v % 256 = v by omega]) hd
    | j + 1, hij, hd, hf, hk =>
      by_cases h128 : v ≥ 128
      · have hf : vfits j (v / 128) := hf
        have hvl : vl (j + 1) v = (v % 128 + 128) :: vl j (v / 128) := by simp only [vl]; rw [if_pos h128]
        rw [hvl] at hd
        obtain ⟨hsz, hb⟩ := bt_head s (a + i) (by omega) hd
        have hmod : (v % 128 + 128) % 128 = v % 128 := by omega
        have hmul : (v % 128) * 2 ^ (7 * i) ≤ 127 * 2 ^ (7 * i) := Int.mul_le_mul_of_nonneg_right (by omega) (by omega)
        have hsplit : v * 2 ^ (7 * i) = (v % 128) * 2 ^ (7 * i) + (v / 128) * (128 * 2 ^ (7 * i)) := by
          rw [← Int.mul_assoc, ← Int.add_mul]
          congr 1
          omega
        have hpow : (2 : Int) ^ (7 * (i + 1)) = 128 * 2 ^ (7 * i) := by
          rw [show 7 * (i + 1) = 7 * i + 7 by omega, Int.pow_add, Int.mul_comm]; rfl
        have hq : 0 ≤ (v / 128) * (128 * 2 ^ (7 * i)) := Int.mul_nonneg (by omega) (by omega)
        have hm0 : 0 ≤ (v % 128) * 2 ^ (7 * i) := Int.mul_nonneg (by omega) (by omega)
        rw [impl_getNum_step k s a acc _ i hs ha (by omega) hsz hb (by omega) (by omega) h0 h1 (by rw [hmod]; omega), if_pos (by omega), hmod,
          impl_getNum_l0 s hs a ha j k (i + 1) (acc + (v % 128) * 2 ^ (7 * i)) (v / 128) rest (by omega) (by
            have := congrArg List.tail hd
            rw [List.tail_drop, List.cons_append, List.tail_cons] at this
            rw [show (a + ((i + 1 : Nat) : Int)).toNat = (a + i).toNat + 1 by omega]; exact this) (by omega) hf (by omega) (by omega) (by rw [hpow]; omega) (by rw [hpow]; omega) (by omega),
          hpow, hvl, List.length_cons]
        rw [show acc + (v % 128) * 2 ^ (7 * i) + (v / 128) * (128 * 2 ^ (7 * i)) = acc + v * 2 ^ (7 * i) by omega,
          show a + ((i + 1 : Nat) : Int) + ((vl j (v / 128)).length : Int) = a + (i : Int) + (((vl j (v / 128)).length + 1 : Nat) : Int) by omega]
      · exact last (j + 1) (by omega) hij (by simp only [vl]; rw [if_neg h128, show v % 256 = v by omega]) hd
/-- What PutNum gives is read again. -/
theorem impl_getNum_f (s : ByteArray) (hs : s.size ≤ 1099511627776) (a : Int) (ha : 0 ≤ a) (n : Int) (hn0 : -9223372036854775808 ≤ n) (hn1 : n ≤ 9223372036854775807) (rest : List Int) (h : (bytesOf s).drop a.toNat = vl 9 (zz n) ++ rest) (k : Nat) (hk : 30 ≤ k) :
    impl_getNum.f k s a = some (n, a + (vl 9 (zz n)).length, 0) := by
  obtain ⟨z0, z1, zf⟩ := zz_fits hn0 hn1
  unfold impl_getNum.f
  have := impl_getNum_l0 s hs a ha 9 k 0 0 (zz n) rest rfl (by rw [show (a + ((0 : Nat) : Int)).toNat = a.toNat by omega]; exact h) z0 zf (by omega) (by omega) (by decide) (by rw [show (2 : Int) ^ (7 * 0) = 1 from rfl]; omega) (by omega)
  rw [show (2 : Int) ^ (7 * 0) = 1 from rfl, Int.mul_one, Int.zero_add, uz_zz, show a + ((0 : Nat) : Int) = a by omega] at this
  exact this
/-- Bytes that all say 'more' end too early. -/
theorem impl_getNum_short (s : ByteArray) (hs : s.size ≤ 1099511627776) (a : Int) (ha : 0 ≤ a) : ∀ (d k i : Nat) (acc : Int), i + d ≤ 9 → (s.size : Int) = a + i + d → (∀ x ∈ (bytesOf s).drop (a + i).toNat, 128 ≤ x) → 0 ≤ acc → acc < 2 ^ (7 * i) → 3 * (d + 1) ≤ k →
    impl_getNum.l0 k s a acc i = some (0, 0, 4)
  | 0, k, i, acc, hid, hsz, hall, h0, h1, hk => by
    obtain ⟨k, rfl⟩ : ∃ m, k = m + 2 := ⟨k - 2, by omega⟩
    rw [impl_getNum.l0, w64 (x := a + i) (by omega) (by omega), if_neg (by omega), decide_eq_true (by omega), impl_getNum.j1, if_pos rfl]
  | d + 1, k, i, acc, hid, hsz, hall, h0, h1, hk => by
    obtain ⟨k, rfl⟩ : ∃ m, k = m + 3 := ⟨k - 3, by omega⟩
    have hP : (0 : Int) < 2 ^ (7 * i) := Int.pow_pos (by decide)
    have hd := drop_bt s (a + i) (by omega) (by omega)
    have hb := hall (bt s (a + i)) (by rw [hd]; simp)
    have hbr := bt_range s (a + i)
    have hmul : (bt s (a + i) % 128) * 2 ^ (7 * i) ≤ 127 * 2 ^ (7 * i) := Int.mul_le_mul_of_nonneg_right (by omega) (by omega)
    have hm0 : 0 ≤ (bt s (a + i) % 128) * 2 ^ (7 * i) := Int.mul_nonneg (by omega) (by omega)
    have hpow : (2 : Int) ^ (7 * (i + 1)) = 128 * 2 ^ (7 * i) := by
      rw [show 7 * (i + 1) = 7 * i + 7 by omega, Int.pow_add, Int.mul_comm]; rfl
    have hPle : (2 : Int) ^ (7 * i) ≤ 2 ^ 56 := by
      have := Nat.pow_le_pow_right (n := 2) (by decide) (show 7 * i ≤ 56 by omega)
      exact_mod_cast this
    have e56 : (2 : Int) ^ 56 = 72057594037927936 := by decide
    rw [impl_getNum_step k s a acc _ i hs ha (by omega) (by omega) rfl (by omega) (by omega) h0 h1 (by omega), if_pos (by omega)]
    exact impl_getNum_short s hs a ha d k (i + 1) _ (by omega) (by omega) (by
      intro x hx
      refine hall x ?_
      rw [hd, show (a + (i : Int) + 1).toNat = (a + ((i + 1 : Nat) : Int)).toNat by omega]
      exact List.mem_cons_of_mem _ hx) (by omega) (by rw [hpow]; omega) (by omega)
theorem vl_range : ∀ (j : Nat) (u : Int), 0 ≤ u → ∀ x ∈ vl j u, 0 ≤ x ∧ x ≤ 255
  | 0, u, h, x, hx => by simp only [vl, List.mem_singleton] at hx; omega
  | j + 1, u, h, x, hx => by
    simp only [vl] at hx
    split at hx
    · rcases List.mem_cons.1 hx with e | e
      · omega
      · exact vl_range j (u / 128) (by omega) x e
    · simp only [List.mem_singleton] at hx; omega
theorem vl_more : ∀ (j : Nat) (u : Int), 0 ≤ u → ∀ x ∈ (vl j u).take ((vl j u).length - 1), 128 ≤ x
  | 0, u, h, x, hx => by simp [vl] at hx
  | j + 1, u, h, x, hx => by
    simp only [vl] at hx
    split at hx
    · have hl := vl_length j (u / 128)
      rw [List.length_cons, Nat.add_sub_cancel, show (vl j (u / 128)).length = ((vl j (u / 128)).length - 1) + 1 by omega, List.take_succ_cons] at hx
      rcases List.mem_cons.1 hx with e | e
      · omega
      · exact vl_more j (u / 128) (by omega) x e
    · simp at hx
theorem zz_nonneg (n : Int) : 0 ≤ zz n := by unfold zz; split <;> omega
theorem PN_bytes (n : Int) : bytesOf (PN n) = vl 9 (zz n) := bytesOf_son _ (vl_range 9 _ (zz_nonneg n))
theorem bytesOf_append (a b : ByteArray) : bytesOf (a ++ b) = bytesOf a ++ bytesOf b := by
  unfold bytesOf
  rw [ba_data_append, List.map_append]

/-! the draws -/
def SrcOK (b : List Int) (a m : Int) : Prop := b.length ≤ 140737488351232 ∧ (∀ x ∈ b, 0 ≤ x ∧ x ≤ 255) ∧ 0 ≤ a ∧ a ≤ b.length ∧ 0 ≤ m ∧ m < 18446744073709551616
theorem u64_bits_range (op : BinOp) (x y : Int) : 0 ≤ Go.bits op .u64 x y ∧ Go.bits op .u64 x y < 18446744073709551616 := by
  unfold Go.bits
  rw [IntKind.wrap_u64]
  omega
theorem wf_u8 {n : Int} (h : (Lit.int .u8 n).wf = true) : 0 ≤ n ∧ n ≤ 255 := by
  simpa [Lit.wf, IntKind.min, IntKind.max, IntKind.bits, IntKind.signed] using h
theorem draw_n (b : List Int) (a m z most : Int) (h : SrcOK b a m) (h1 : most ≤ 9223372036854775807) :
    ∃ r a' m', spec_l01Src_n.f b a m z most = some (r, a', m', z) ∧ 0 ≤ r ∧ (1 ≤ most → r < most) ∧ SrcOK b a' m' := by
  obtain ⟨hb, hr, ha0, ha1, hm0, hm1⟩ := h
  unfold spec_l01Src_n.f
  by_cases hm : most ≤ 1
  · rw [if_pos hm]
    exact ⟨0, a, m, rfl, by omega, by omega, hb, hr, ha0, ha1, hm0, hm1⟩
  · rw [if_neg hm]
    have hw : IntKind.u64.wrap most = most := u64w (by omega) (by omega)
    have fin : ∀ X : Int, 0 ≤ X → wrap64 (Int.tmod X most) = X % most ∧ 0 ≤ X % most ∧ X % most < most := by
      intro X hX
      have h3 : 0 ≤ X % most := Int.emod_nonneg _ (by omega)
      have h4 : X % most < most := Int.emod_lt_of_pos _ (by omega)
      rw [Int.tmod_eq_emod_of_nonneg hX]
      exact ⟨w64 (by omega) (by omega), h3, h4⟩
    have uw : ∀ x : Int, 0 ≤ IntKind.u64.wrap x := fun x => by rw [IntKind.wrap_u64]; omega
    generalize hM : Go.bits .xor .u64 (Go.bits .xor .u64 (Go.bits .xor .u64 m (IntKind.u64.wrap (m * 8192))) ((Go.bits .xor .u64 m (IntKind.u64.wrap (m * 8192))) / 128)) (IntKind.u64.wrap ((Go.bits .xor .u64 (Go.bits .xor .u64 m (IntKind.u64.wrap (m * 8192))) ((Go.bits .xor .u64 m (IntKind.u64.wrap (m * 8192))) / 128)) * 131072)) = M
    have hMr : 0 ≤ M ∧ M < 18446744073709551616 := by rw [← hM]; exact u64_bits_range _ _ _
    rw [hw, if_neg (show ¬ most = 0 by omega), if_neg (show ¬ most = 0 by omega)]
    by_cases hl : a < (b.length : Int)
    · rw [if_pos hl, if_pos ha0, w64 (x := a + 1) (by omega) (by omega)]
      obtain ⟨e, e0, e1⟩ := fin (IntKind.u64.wrap (IntKind.u64.wrap (rd b a) + M / 1048576)) (uw _)
      rw [e]
      exact ⟨_, _, _, rfl, e0, fun _ => e1, hb, hr, by omega, by omega, hMr.1, hMr.2⟩
    · rw [if_neg hl]
      obtain ⟨e, e0, e1⟩ := fin (IntKind.u64.wrap (0 + M / 1048576)) (uw _)
      rw [e]
      exact ⟨_, _, _, rfl, e0, fun _ => e1, hb, hr, ha0, ha1, hMr.1, hMr.2⟩
theorem draw_source_l0 (l : List Int) : ∀ (d k : Nat) (i m : Int), 0 ≤ i → i + d = 64 → d < k → 0 ≤ m → m < 18446744073709551616 →
    ∃ m' z', spec_l01Source.l0 k l i l 0 m 0 = some (l, 0, m', z') ∧ 0 ≤ m' ∧ m' < 18446744073709551616
  | d, k, i, m, h0, hd, hk, hm0, hm1 => by
    obtain ⟨k, rfl⟩ : ∃ q, k = q + 1 := ⟨k - 1, by omega⟩
    rw [spec_l01Source.l0]
    have fin : ∀ X : Int, ∃ m' z', (if X > 12 then some (l, (0 : Int), m, (12 : Int)) else some (l, (0 : Int), m, X)) = some (l, 0, m', z') ∧ 0 ≤ m' ∧ m' < 18446744073709551616 := by
      intro X
      split
      · exact ⟨m, _, rfl, hm0, hm1⟩
      · exact ⟨m, _, rfl, hm0, hm1⟩
    by_cases hl : i < (l.length : Int)
    · rw [if_pos hl]
      by_cases h64 : i < 64
      · rw [if_pos h64, if_pos h0, w64 (x := i + 1) (by omega) (by omega)]
        cases d with
        | zero => omega
        | succ d =>
          have hr : ∀ x : Int, 0 ≤ IntKind.u64.wrap x ∧ IntKind.u64.wrap x < 18446744073709551616 := fun x => by rw [IntKind.wrap_u64]; omega
          exact draw_source_l0 l d k (i + 1) _ (by omega) (by omega) (by omega) (hr _).1 (hr _).2
      · rw [if_neg h64]; exact fin _
    · rw [if_neg hl]; exact fin _
theorem draw_source (l : List Int) (hl : l.length ≤ 140737488351232) (hr : ∀ x ∈ l, 0 ≤ x ∧ x ≤ 255) (k : Nat) (hk : 65 ≤ k) :
    ∃ m z, spec_l01Source.f k l = some (l, 0, m, z) ∧ SrcOK l 0 m := by
  obtain ⟨m, z, e, h0, h1⟩ := draw_source_l0 l 64 k 0 88172645463325252 (by omega) (by omega) (by omega) (by omega) (by omega)
  exact ⟨m, z, e, hl, hr, by omega, by omega, h0, h1⟩
theorem draw_one (b : List Int) (a m z most : Int) (h : SrcOK b a m) (h1 : most ≤ 9223372036854775807) :
    ∃ r a' m', spec_l01Src_one.f b a m z most = some (r, a', m', z) ∧ SrcOK b a' m' := by
  obtain ⟨r, a', m', e, _, _, h'⟩ := draw_n b a m z most h h1
  unfold spec_l01Src_one.f
  rw [e]
  exact ⟨_, _, _, rfl, h'⟩

theorem draw_edge (b : List Int) (a m z : Int) (h : SrcOK b a m) : ∃ r a' m', spec_l01Src_edge.f b a m z = some (r, a', m', z) ∧ -9223372036854775808 ≤ r ∧ r ≤ 9223372036854775807 ∧ SrcOK b a' m' := by
  obtain ⟨r, a', m', e, r0, r1, h'⟩ := draw_n b a m z 14 h (by omega)
  have r1 := r1 (by omega)
  unfold spec_l01Src_edge.f
  simp only [Option.bind_some, e]
  rw [if_pos r0, if_pos (show r < ((List.length [(0 : Int), 1, -1, 2, 1000, 1001, 2147483648, 2147483647, -2147483648, 4611686018427387904, 9223372036854775807, -9223372036854775808, 1000000, 1000001] : Nat) : Int) from r1)]
  refine ⟨_, _, _, rfl, ?_⟩
  have key : ∀ i : Fin 14, -9223372036854775808 ≤ rd [0, 1, (-1), 2, 1000, 1001, 2147483648, 2147483647, (-2147483648), 4611686018427387904, 9223372036854775807, (-9223372036854775808), 1000000, 1000001] (i.val : Int) ∧ rd [0, 1, (-1), 2, 1000, 1001, 2147483648, 2147483647, (-2147483648), 4611686018427387904, 9223372036854775807, (-9223372036854775808), 1000000, 1000001] (i.val : Int) ≤ 9223372036854775807 := by decide +kernel
  have k2 := key ⟨r.toNat, by omega⟩
  simp only [Int.toNat_of_nonneg r0] at k2
  exact ⟨k2.1, k2.2, h'⟩
theorem draw_putnum (l : List Int) (hl : l.length ≤ 140737488351232) (hr : ∀ x ∈ l, 0 ≤ x ∧ x ≤ 255) (k : Nat) (hk : 65 ≤ k) : ∃ n, spec_DrawPutNum.f k l = some n ∧ -9223372036854775808 ≤ n ∧ n ≤ 9223372036854775807 := by
  obtain ⟨m, z, e, h⟩ := draw_source l hl hr k hk
  unfold spec_DrawPutNum.f spec_l01Src_l01Any.f
  rw [e]
  obtain ⟨r, a1, m1, e1, h1⟩ := draw_one l 0 m z 4 h (by omega)
  simp only [Option.bind_some, e1]
  cases r with
  | true =>
    obtain ⟨v, a2, m2, e2, v0, v1, h2⟩ := draw_edge l a1 m1 z h1
    rw [if_pos rfl, e2]
    exact ⟨v, rfl, v0, v1⟩
  | false =>
    obtain ⟨v, a2, m2, e2, v0, v1, h2⟩ := draw_n l a1 m1 z 1099511627776 h1 (by omega)
    have v1 := v1 (by omega)
    rw [if_neg (by simp), e2]
    simp only [Option.bind_some]
    rw [w64 (x := v - 1048576) (by omega) (by omega)]
    exact ⟨_, rfl, by omega, by omega⟩
theorem draw_bytes_l0 (b : List Int) (z n : Int) (hn : n ≤ 1000) : ∀ (d k : Nat) (g : List Int) (i a m : Int), SrcOK b a m → 0 ≤ i → i + d = n → d < k → g.length = i →
    ∃ t a' m', spec_l01Src_bytes.l0 k n g i b a m z = some (t, a', m', z) ∧ (t.size : Int) = n ∧ SrcOK b a' m'
  | 0, k, g, i, a, m, h, h0, hd, hk, hg => by
    obtain ⟨k, rfl⟩ : ∃ q, k = q + 1 := ⟨k - 1, by omega⟩
    rw [spec_l01Src_bytes.l0, if_neg (by omega)]
    exact ⟨_, _, _, rfl, by rw [strOfNums_size]; omega, h⟩
  | d + 1, k, g, i, a, m, h, h0, hd, hk, hg => by
    obtain ⟨k, rfl⟩ : ∃ q, k = q + 1 := ⟨k - 1, by omega⟩
    obtain ⟨r, a1, m1, e1, r0, r1, h1⟩ := draw_n b a m z 256 h (by omega)
    rw [spec_l01Src_bytes.l0, if_pos (by omega), e1]
    simp only [Option.bind_some]
    rw [if_pos (by omega), w64 (x := i + 1) (by omega) (by omega)]
    exact draw_bytes_l0 b z n hn d k _ (i + 1) a1 m1 h1 (by omega) (by omega) (by omega) (by rw [List.length_append, List.length_singleton]; omega)
theorem draw_puttext (l : List Int) (hl : l.length ≤ 140737488351232) (hr : ∀ x ∈ l, 0 ≤ x ∧ x ≤ 255) (k : Nat) (hk : 65 ≤ k) : ∃ t, spec_DrawPutText.f k l = some t ∧ t.size ≤ 30000 := by
  obtain ⟨m, z, e, h⟩ := draw_source l hl hr k hk
  unfold spec_DrawPutText.f
  rw [e]
  obtain ⟨r, a1, m1, e1, h1⟩ := draw_one l 0 m z 8 h (by omega)
  simp only [Option.bind_some, e1]
  cases r with
  | true =>
    obtain ⟨v, a2, m2, e2, v0, v1, h2⟩ := draw_n l a1 m1 z 3 h1 (by omega)
    have v1 := v1 (by omega)
    rw [if_pos rfl, e2]
    simp only [Option.bind_some]
    rw [w64 (x := 19999 + v) (by omega) (by omega), if_pos (by omega), if_pos (by omega)]
    exact ⟨_, rfl, by rw [strOfNums_size, List.length_replicate]; omega⟩
  | false =>
    obtain ⟨v, a2, m2, e2, v0, v1, h2⟩ := draw_n l a1 m1 z 20 h1 (by omega)
    have v1 := v1 (by omega)
    obtain ⟨t, a3, m3, e3, ht, h3⟩ := draw_bytes_l0 l z v (by omega) v.toNat k [] 0 a2 m2 h2 (by omega) (by omega) (by omega) rfl
    rw [if_neg (by simp), e2]
    simp only [Option.bind_some]
    unfold spec_l01Src_bytes.f
    rw [e3]
    exact ⟨t, rfl, by omega⟩
theorem FnNums_first (k : Nat) (hk : 60 ≤ k) (n : Int) (h0 : -9223372036854775808 ≤ n) (h1 : n ≤ 9223372036854775807) :
    impl_GetNum.f k (((⟨#[120, 121]⟩ : ByteArray) ++ PN n) ++ (⟨#[122]⟩ : ByteArray)) 2 = some (n, ((PN n).size : Int) + 2, 0) := by
  have hz := PN_size n
  have hsz : (((⟨#[120, 121]⟩ : ByteArray) ++ PN n) ++ (⟨#[122]⟩ : ByteArray)).size = 2 + (PN n).size + 1 := by rw [ba_append_size, ba_append_size]; rfl
  unfold impl_GetNum.f
  rw [impl_isLong_f _ (by simp) k (by simp only [List.length_cons, List.length_nil]; omega)]
  simp only [Option.bind_some, List.any_cons, List.any_nil, Bool.or_false]
  rw [if_neg (by rw [hsz]; simp; omega), if_neg (by omega), impl_getNum_f _ (by omega) 2 (by omega) n h0 h1 (bytesOf (⟨#[122]⟩ : ByteArray)) (by
    rw [bytesOf_append, bytesOf_append, PN_bytes]
    rfl) k (by omega)]
  simp only [Option.bind_some]
  rw [← PN_bytes n, bytesOf_length]
  congr 3
  omega
theorem FnNums_second (k : Nat) (hk : 60 ≤ k) (n : Int) : impl_GetNum.f k ((PN n).extract 0 ((PN n).size - 1)) 0 = some (0, 0, 4) := by
  have hz := PN_size n
  have e : (PN n).extract 0 ((PN n).size - 1) = strOfNums ((vl 9 (zz n)).take ((vl 9 (zz n)).length - 1)) := by
    rw [ext_son, PN_bytes, List.drop_zero, Nat.sub_zero]
    unfold PN; rw [strOfNums_size]
  have hvl := vl_length 9 (zz n)
  have hb : bytesOf (strOfNums ((vl 9 (zz n)).take ((vl 9 (zz n)).length - 1))) = (vl 9 (zz n)).take ((vl 9 (zz n)).length - 1) :=
    bytesOf_son _ (fun x hx => vl_range 9 _ (zz_nonneg n) x (List.mem_of_mem_take hx))
  have hs : (strOfNums ((vl 9 (zz n)).take ((vl 9 (zz n)).length - 1))).size = (vl 9 (zz n)).length - 1 := by rw [strOfNums_size, List.length_take]; omega
  rw [e]
  unfold impl_GetNum.f impl_getNum.f
  rw [impl_isLong_f _ (by simp) k (by simp only [List.length_cons, List.length_nil]; omega)]
  simp only [Option.bind_some, List.any_cons, List.any_nil, Bool.or_false]
  rw [if_neg (by rw [hs]; simp; omega), if_neg (by omega)]
  have := impl_getNum_short _ (by rw [hs]; omega) 0 (by omega) ((vl 9 (zz n)).length - 1) k 0 0 (by omega) (by rw [hs]; omega) (by
    rw [hb]; intro x hx; exact vl_more 9 _ (zz_nonneg n) x (List.mem_of_mem_drop hx)) (by omega) (by decide) (by omega)
  rw [show ((0 : Nat) : Int) = 0 from rfl] at this
  rw [this]; rfl
theorem between_f (n : Int) (h0 : 0 ≤ n) (h1 : n ≤ 8000) : impl_between.f n 0 8000 = some true := by
  unfold impl_between.f
  rw [if_pos h0, decide_eq_true h1]
theorem FnNums_third (k : Nat) (hk : 60 ≤ k) (u : ByteArray) (hu : u.size ≤ 8000) (hl : (PN u.size ++ u).size + 1 ≤ 8000) :
    impl_GetText.f k ((⟨#[120]⟩ : ByteArray) ++ (PN u.size ++ u)) 1 = some (u, ((PN u.size ++ u).size : Int) + 1, 0) := by
  have hz := PN_size u.size
  have hsz : ((⟨#[120]⟩ : ByteArray) ++ (PN u.size ++ u)).size = 1 + ((PN u.size).size + u.size) := by rw [ba_append_size, ba_append_size]; rfl
  have hp : (PN u.size ++ u).size = (PN u.size).size + u.size := ba_append_size _ _
  have hlv : (vl 9 (zz u.size)).length = (PN u.size).size := by rw [← PN_bytes, bytesOf_length]
  unfold impl_GetText.f impl_getText.f
  rw [impl_isLong_f _ (by simp) k (by simp only [List.length_cons, List.length_nil]; omega)]
  simp only [Option.bind_some, List.any_cons, List.any_nil, Bool.or_false]
  rw [if_neg (by rw [hsz]; simp; omega), if_neg (by omega), impl_getNum_f _ (by omega) 1 (by omega) u.size (by omega) (by omega) (bytesOf u) (by
    rw [bytesOf_append, bytesOf_append, PN_bytes]; rfl) k (by omega)]
  simp only [Option.bind_some, if_true]
  rw [between_f _ (by omega) (by omega), hlv]
  simp only [Option.bind_some, if_true]
  rw [hsz, w64 (x := ((1 + ((PN u.size).size + u.size) : Nat) : Int) - (1 + (PN u.size).size)) (by omega) (by omega), if_neg (by omega), w64 (x := (1 + (PN u.size).size : Int) + u.size) (by omega) (by omega), if_pos (by omega), if_pos (by omega), if_pos (by omega)]
  simp only [Option.bind_some]
  have e : ((⟨#[120]⟩ : ByteArray) ++ (PN u.size ++ u)).extract (1 + (PN u.size).size : Int).toNat ((1 + (PN u.size).size : Int) + u.size).toNat = u := by
    rw [ext_son, bytesOf_append, bytesOf_append, PN_bytes, show (1 + (PN u.size).size : Int).toNat = (1 + (vl 9 (zz u.size)).length) by omega, show bytesOf (⟨#[120]⟩ : ByteArray) = [120] from rfl, ← List.append_assoc,
      List.drop_left' (by simp; omega), List.take_of_length_le (by rw [bytesOf_length]; omega), son_bytesOf]
  rw [e, hp]
  congr 3
  omega
theorem FnNums_fourth (k : Nat) (hk : 60 ≤ k) (u : ByteArray) (hu : (PN u.size ++ u).size ≤ 7999) : ∃ t q, impl_GetText.f k ((PN u.size ++ u).extract 0 ((PN u.size ++ u).size - 1)) 0 = some (t, q, 4) := by
  have hz := PN_size u.size
  have hp : (PN u.size ++ u).size = (PN u.size).size + u.size := ba_append_size _ _
  rw [hp] at hu
  have hlv : (vl 9 (zz u.size)).length = (PN u.size).size := by rw [← PN_bytes, bytesOf_length]
  unfold impl_GetText.f impl_getText.f
  have hsz : ((PN u.size ++ u).extract 0 ((PN u.size ++ u).size - 1)).size = (PN u.size).size + u.size - 1 := by rw [ba_extract_size _ _ _ (by omega), hp]; omega
  rw [impl_isLong_f _ (by simp) k (by simp only [List.length_cons, List.length_nil]; omega)]
  simp only [Option.bind_some, List.any_cons, List.any_nil, Bool.or_false]
  rw [if_neg (by rw [hsz]; simp; omega), if_neg (by omega)]
  have hbb : bytesOf ((PN u.size ++ u).extract 0 ((PN u.size ++ u).size - 1)) = (vl 9 (zz u.size) ++ bytesOf u).take ((PN u.size).size + u.size - 1) := by
    rw [ext_son, bytesOf_append, PN_bytes, List.drop_zero, Nat.sub_zero, hp, bytesOf_son]
    intro x hx
    rcases List.mem_append.1 (List.mem_of_mem_take hx) with h | h
    · exact vl_range 9 _ (zz_nonneg _) x h
    · obtain ⟨b, _, rfl⟩ := List.mem_map.1 h
      have := b.toNat_lt; omega
  by_cases h0 : u.size = 0
  · have e := FnNums_second k hk u.size
    unfold impl_GetNum.f at e
    have hu0 : u = ⟨#[]⟩ := ba_size0 h0
    have hpe : (PN u.size ++ u) = PN u.size := by
      apply ba_ext
      rw [ba_data_append, hu0]; simp
    rw [hpe]
    have hs2 : ((PN u.size).extract 0 ((PN u.size).size - 1)).size = (PN u.size).size - 1 := by rw [ba_extract_size _ _ _ (by omega)]; omega
    rw [impl_isLong_f _ (by simp) k (by simp only [List.length_cons, List.length_nil]; omega)] at e
    simp only [Option.bind_some, List.any_cons, List.any_nil, Bool.or_false] at e
    rw [if_neg (by rw [hs2]; simp; omega), if_neg (by omega)] at e
    cases hg : impl_getNum.f k ((PN u.size).extract 0 ((PN u.size).size - 1)) 0 with
    | none => rw [hg] at e; cases e
    | some r =>
      rw [hg] at e
      simp only [Option.bind_some, Option.some.injEq, Prod.mk.injEq] at e
      simp only [Option.bind_some]
      rw [if_neg (by rw [e.2.2]; decide), e.2.2]
      exact ⟨_, _, rfl⟩
  · have hd : (bytesOf ((PN u.size ++ u).extract 0 ((PN u.size ++ u).size - 1))).drop (0 : Int).toNat = vl 9 (zz u.size) ++ (bytesOf u).take (u.size - 1) := by
      rw [hbb, show (0 : Int).toNat = 0 from rfl, List.drop_zero, List.take_append, List.take_of_length_le (l := vl 9 (zz u.size)) (by omega), hlv, show (PN u.size).size + u.size - 1 - (PN u.size).size = u.size - 1 by omega]
    rw [impl_getNum_f _ (by omega) 0 (by omega) u.size (by omega) (by omega) _ hd k (by omega)]
    simp only [Option.bind_some, if_true]
    rw [between_f _ (by omega) (by omega), hlv, hsz]
    simp only [Option.bind_some, if_true]
    rw [w64 (x := (((PN u.size).size + u.size - 1 : Nat) : Int) - (0 + (PN u.size).size)) (by omega) (by omega), if_pos (by omega)]
    exact ⟨_, _, rfl⟩
theorem FnNums : laws_FnNums.Pure := by
  intro l m _ hl hw _ hm hw2
  have hr : ∀ x ∈ l, 0 ≤ x ∧ x ≤ 255 := fun x hx => wf_u8 (hw x hx)
  have hr2 : ∀ x ∈ m, 0 ≤ x ∧ x ≤ 255 := fun x hx => wf_u8 (hw2 x hx)
  refine ⟨?_, ?_⟩
  · exact 100 + 4
  have big : ∀ k, laws_FnNums.j0 (k + 1) l m true = some true := fun k => by rw [laws_FnNums.j0, if_pos rfl]
  unfold laws_FnNums.f
  by_cases h : (l.length : Int) > 1048576
  · rw [if_pos h]; exact big 103
  rw [if_neg h]
  by_cases h2 : (m.length : Int) > 1048576
  · rw [decide_eq_true h2]; exact big 103
  rw [decide_eq_false h2]
  obtain ⟨n, en, n0, n1⟩ := draw_putnum l (by omega) hr 103 (by omega)
  obtain ⟨u, eu, hu⟩ := draw_puttext m (by omega) hr2 101 (by omega)
  have hz := PN_size n
  rw [show 100 + 4 = 103 + 1 from rfl, laws_FnNums.j0, if_neg (by simp), en]
  simp only [Option.bind_some]
  rw [impl_PutNum_f 103 n n0 n1 (by omega), spec_PutNum_f 103 n n0 n1 (by omega)]
  simp only [Option.bind_some, if_true]
  rw [if_neg (by omega), decide_eq_false (by omega), show 103 = 102 + 1 from rfl, laws_FnNums.j1, if_neg (by simp), if_pos (by omega),
    if_pos (by rw [ba_append_size]; have : (⟨#[120, 121]⟩ : ByteArray).size = 2 := rfl; omega), FnNums_first 102 (by omega) n n0 n1]
  simp only [Option.bind_some]
  rw [w64 (x := ((PN n).size : Int) + 2) (by omega) (by omega), w64 (x := ((PN n).size : Int) - 1) (by omega) (by omega), if_neg (by simp), if_pos (by omega), if_pos (by omega), show (((PN n).size : Int) - 1).toNat = (PN n).size - 1 by omega, FnNums_second 102 (by omega) n]
  simp only [Option.bind_some]
  rw [show ((4 : Int) != 4) = false from rfl, show 102 = 101 + 1 from rfl, laws_FnNums.j2, if_neg (by simp), eu]
  simp only [Option.bind_some]
  rw [impl_PutText_f 101 u (by omega), spec_PutText_f 101 u (by omega)]
  simp only [Option.bind_some, if_true]
  rw [show 101 = 100 + 1 from rfl]
  by_cases hbig : u.size > 8000
  · have e : PT u = ⟨#[]⟩ := by unfold PT; rw [if_pos hbig]
    rw [e, show ((⟨#[]⟩ : ByteArray).toList == ([] : List UInt8)) = true by rw [Go.Lib.toList_data]; rfl, laws_FnNums.j3, if_pos rfl, spec_PutText_f 100 u (by omega), e]
    simp
  · have hzu := PN_size u.size
    have e : PT u = PN u.size ++ u := by unfold PT; rw [if_neg hbig]
    have hp : (PN u.size ++ u).size = (PN u.size).size + u.size := ba_append_size _ _
    have hne : ((PN u.size ++ u).toList == ([] : List UInt8)) = false := by
      rw [Go.Lib.toList_data, beq_eq_false_iff_ne]
      intro e
      have := data_length (PN u.size ++ u)
      rw [e] at this
      simp only [List.length_nil] at this; omega
    rw [e, hne, laws_FnNums.j3, if_neg (by simp), w64 (x := ((PN u.size ++ u).size : Int) + 1) (by omega) (by omega)]
    by_cases h3 : ((PN u.size ++ u).size : Int) + 1 > 8000
    · rw [if_pos h3]
    · obtain ⟨t, q, e4⟩ := FnNums_fourth 100 (by omega) u (by omega)
      rw [if_neg h3, if_pos (by omega), FnNums_third 100 (by omega) u (by omega) (by omega)]
      simp only [Option.bind_some]
      rw [if_pos (by simp), w64 (x := ((PN u.size ++ u).size : Int) - 1) (by omega) (by omega), if_pos (by omega), if_pos (by omega), show (((PN u.size ++ u).size : Int) - 1).toNat = (PN u.size ++ u).size - 1 by omega, e4]
      rfl

end Go.Proofs.Yticbafilcicdjaa.Pure
