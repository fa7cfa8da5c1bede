/- The law FnExactBerGet answers true at every string and every place: the program's BerGet gives the element, the place and the code that the reference's gives. No condition beyond the place being an int64. -/
import Derived.Test.YticbafilcicdjaaPFnExactBerGetx5
import Derived.Laws.Bits64
import Derived.Lib.Strings
namespace Go.Proofs.Yticbafilcicdjaa.Pure
open Go.RowKit Go.Proofs.Yticbafilcicdjaa.PFnExactBerGet Go.Proofs.YticbafilcicdjaaW.PrintWords Go.Proofs.YticbafilcicdjaaW.PrintLast
set_option linter.unusedVariables false
set_option linter.unusedSimpArgs false

/-! plain lemmas -/
theorem w64 {x : Int} (h0 : -9223372036854775808 ≤ x) (h1 : x ≤ 9223372036854775807) : wrap64 x = x := by unfold wrap64; omega
theorem u64w {x : Int} (h0 : 0 ≤ x) (h1 : x < 18446744073709551616) : IntKind.u64.wrap x = x := by rw [IntKind.wrap_u64]; omega
theorem son_append (xs ys : List Int) : strOfNums (xs ++ ys) = strOfNums xs ++ strOfNums ys := by
  unfold strOfNums
  apply ByteArray.ext
  simp
theorem ba_append_size (a b : ByteArray) : (a ++ b).size = a.size + b.size := by simp
theorem ba_append_assoc (a b c : ByteArray) : (a ++ b) ++ c = a ++ (b ++ c) := by
  apply ByteArray.ext
  simp
/-- The comparison at the end of a law. -/
theorem law_end {A B : Option ByteArray} {r : ByteArray} (hA : A = some r) (hB : B = some r) :
    (A.bind fun t => B.bind fun t' => if t'.toList = t.toList then some true else some false) = some true := by
  rw [hA, hB]; simp
theorem wf_i64 {n : Int} (h : (Lit.int .i64 n).wf = true) : -9223372036854775808 ≤ n ∧ n ≤ 9223372036854775807 := by
  simpa [Lit.wf, IntKind.min, IntKind.max, IntKind.bits, IntKind.signed] using h
/-- The same of two numbers. -/
theorem law_endI {A B : Option Int} {r : Int} (hA : A = some r) (hB : B = some r) :
    (A.bind fun t => B.bind fun t' => if t' = t then some true else some false) = some true := by
  rw [hA, hB]; simp

/-! strings of bytes -/
theorem ba_ext {a b : ByteArray} (h : a.data.toList = b.data.toList) : a = b := ByteArray.ext (Array.toList_inj.1 h)
theorem ba_inj {a b : ByteArray} : a.toList = b.toList ↔ a = b :=
  ⟨fun h => ba_ext (by rwa [Go.Lib.toList_data, Go.Lib.toList_data] at h), fun h => by rw [h]⟩
theorem ba_data_append (a b : ByteArray) : (a ++ b).data.toList = a.data.toList ++ b.data.toList := by simp
theorem ba_data_extract (s : ByteArray) (i j : Nat) : (s.extract i j).data.toList = (s.data.toList.drop i).take (j - i) := Go.Lib.extract_data s i j
theorem ba_split (s : ByteArray) (m : Nat) : s.extract 0 m ++ s.extract m s.size = s := by
  apply ba_ext
  rw [ba_data_append, ba_data_extract, ba_data_extract, Nat.sub_zero, List.drop_zero]
  rw [List.take_of_length_le (l := s.data.toList.drop m) (by rw [List.length_drop, data_length]; omega), List.take_append_drop]
theorem ba_append_inj {a b c : ByteArray} : a ++ b = a ++ c ↔ b = c := by
  constructor
  · intro h
    have h2 := congrArg (fun x : ByteArray => x.data.toList) h
    simp only [ba_data_append] at h2
    exact ba_ext (List.append_cancel_left h2)
  · intro h; rw [h]
theorem son_bytesOf (s : ByteArray) : strOfNums (bytesOf s) = s := by
  apply ba_ext
  rw [strOfNums_data, bytesOf, List.map_map]
  conv => rhs; rw [← List.map_id s.data.toList]
  apply List.map_congr_left
  intro b _
  simp
theorem ext_son (s : ByteArray) (i j : Nat) : s.extract i j = strOfNums (((bytesOf s).drop i).take (j - i)) := by
  apply ba_ext
  rw [ba_data_extract, strOfNums_data, List.map_take, List.map_drop]
  congr 2
  have := congrArg (fun x : ByteArray => x.data.toList) (son_bytesOf s)
  simp only [strOfNums_data] at this
  exact this.symm
theorem ba_extract_size (s : ByteArray) (i j : Nat) (hj : j ≤ s.size) : (s.extract i j).size = j - i := by
  rw [ByteArray.size_extract]; omega
theorem ba_nil_data : (⟨#[]⟩ : ByteArray).data.toList = [] := rfl
theorem ba_size0 {s : ByteArray} (h : s.size = 0) : s = ⟨#[]⟩ := by
  apply ba_ext
  rw [ba_nil_data]
  exact List.eq_nil_of_length_eq_zero (by rw [data_length]; exact h)

theorem drop_bt (s : ByteArray) (i : Int) (h0 : 0 ≤ i) (h1 : i < s.size) : (bytesOf s).drop i.toNat = bt s i :: (bytesOf s).drop (i + 1).toNat := by
  have hl : i.toNat < (bytesOf s).length := by rw [bytesOf_length]; omega
  rw [List.drop_eq_getElem_cons hl, ← rd_bytesOf, show (i + 1).toNat = i.toNat + 1 by omega]
  congr 1
  unfold rd
  rw [List.getD_eq_getElem?_getD, List.getElem?_eq_getElem hl]; rfl

/-! BerPut -/
/-- Is it a tag? -/
def isTagP (a : Int) : Bool := decide (0 ≤ a) && (decide (a ≤ 255) && decide (a % 32 ≠ 31))
/-- The bytes of a length. -/
def blen (n : Int) : List Int := if n < 128 then [n % 256] else if n < 256 then [129, n % 256] else [130, n / 256 % 256, n % 256]
theorem i64_and_31 {a : Int} (h0 : 0 ≤ a) (h1 : a ≤ 255) : Go.bits .and .i64 a 31 = a % 32 := by
  have key : ∀ z : Fin 256, Go.bits .and .i64 (z.val : Int) 31 = (z.val : Int) % 32 := by decide +kernel
  have := key ⟨a.toNat, by omega⟩
  simpa [Int.toNat_of_nonneg h0] using this
theorem spec_l09Tag_f (a : Int) : spec_l09Tag.f a = some (isTagP a) := by
  unfold spec_l09Tag.f spec_l09Is.f isTagP
  by_cases h : a ≥ 0
  · rw [if_pos h]
    simp only [Option.bind_some, decide_eq_true_eq]
    by_cases h2 : a ≤ 255
    · rw [if_pos h2, Int.tmod_eq_emod_of_nonneg h]
      simp [h, h2, bne, BEq.beq]
    · rw [if_neg h2]; simp [h2]
  · rw [if_neg h]; simp [h]
theorem impl_isTag_f (a : Int) : impl_isTag.f a = some (isTagP a) := by
  unfold impl_isTag.f impl_between.f isTagP
  by_cases h : a ≥ 0
  · rw [if_pos h]
    simp only [Option.bind_some, decide_eq_true_eq]
    by_cases h2 : a ≤ 255
    · rw [if_pos h2, i64_and_31 h h2]
      simp [h, h2, bne, BEq.beq]
    · rw [if_neg h2]; simp [h2]
  · rw [if_neg h]; simp [h]
theorem blen_length (n : Int) : 1 ≤ (blen n).length ∧ (blen n).length ≤ 3 := by
  unfold blen; split
  · simp
  · split <;> simp
theorem impl_berLength_f (n : Int) : impl_berLength.f n = some (strOfNums (blen n)) := by
  unfold impl_berLength.f blen
  split
  · rfl
  · split <;> rfl

/-! isLong -/
theorem impl_isLong_l0 (l : List ByteArray) (hl : l.length ≤ 4611686018427387904) : ∀ (d k : Nat) (i : Int), 0 ≤ i → i + d = l.length → d < k →
    impl_isLong.l0 k l (l.length : Int) i = some ((l.drop i.toNat).any fun t => decide (t.size > 8000))
  | 0, k, i, h0, hd, hk => by
    obtain ⟨k, rfl⟩ : ∃ m, k = m + 1 := ⟨k - 1, by omega⟩
    simp only [impl_isLong.l0]
    rw [if_neg (by omega), List.drop_of_length_le (by omega)]; rfl
  | d + 1, k, i, h0, hd, hk => by
    obtain ⟨k, rfl⟩ : ∃ m, k = m + 1 := ⟨k - 1, by omega⟩
    have hlt : i.toNat < l.length := by omega
    simp only [impl_isLong.l0]
    rw [if_pos (by omega), if_pos h0, if_pos (by omega), List.drop_eq_getElem_cons hlt, List.any_cons]
    have e : rdOf ByteArray.empty l i = l[i.toNat] := by unfold rdOf; rw [List.getD_eq_getElem?_getD, List.getElem?_eq_getElem hlt]; rfl
    rw [e]
    by_cases h : (l[i.toNat].size : Int) > 8000
    · rw [if_pos h, decide_eq_true (by omega)]; rfl
    · rw [if_neg h, decide_eq_false (by omega), w64 (by omega) (by omega), impl_isLong_l0 l hl d k (i + 1) (by omega) (by omega) (by omega), show (i + 1).toNat = i.toNat + 1 by omega]; rfl
theorem impl_isLong_f (l : List ByteArray) (hl : l.length ≤ 4611686018427387904) (k : Nat) (hk : l.length < k) : impl_isLong.f k l = some (l.any fun t => decide (t.size > 8000)) := by
  unfold impl_isLong.f
  rw [impl_isLong_l0 l hl l.length k 0 (by omega) (by omega) hk]; rfl

abbrev TLV := Int × ByteArray × Int × Int
def tShort : TLV := (0, ⟨#[]⟩, 0, 4)
def tBad : TLV := (0, ⟨#[]⟩, 0, 3)
/-- The end: a body of l bytes from a place on. -/
def finP (s : ByteArray) (tag f l : Int) : TLV :=
  if l > 4000 then tBad else if f + l > s.size then tShort else (tag, s.extract f.toNat (f + l).toNat, f + l, 0)
def getP (s : ByteArray) (at' : Int) : TLV :=
  if at' ≥ s.size then tShort else if isTagP (bt s at') = true then
    (if at' + 1 ≥ s.size then tShort else if bt s (at' + 1) < 128 then finP s (bt s at') (at' + 2) (bt s (at' + 1))
      else if bt s (at' + 1) = 129 then (if at' + 3 > s.size then tShort else if bt s (at' + 2) < 128 then tBad else finP s (bt s at') (at' + 3) (bt s (at' + 2)))
      else if bt s (at' + 1) = 130 then (if at' + 4 > s.size then tShort else if 256 * bt s (at' + 2) + bt s (at' + 3) < 256 then tBad else finP s (bt s at') (at' + 4) (256 * bt s (at' + 2) + bt s (at' + 3)))
      else tBad)
    else tBad
theorem spec_j2 (k : Nat) (s : ByteArray) (hs : s.size ≤ 8000) (tag l f : Int) (hl0 : 0 ≤ l) (hl1 : l ≤ 65535) (hf0 : 0 ≤ f) (hf1 : f ≤ 10000) :
    spec_l09Get.j2 (k + 1) s (s.size : Int) tag l f 0 ⟨#[]⟩ 0 4 0 ⟨#[]⟩ 0 3 = some (finP s tag f l) := by
  rw [spec_l09Get.j2, w64 (x := f + l) (by omega) (by omega)]
  unfold finP
  by_cases h : l > 4000
  · rw [if_pos h, if_pos h]; rfl
  · rw [if_neg h, if_neg h]
    by_cases h2 : f + l > s.size
    · rw [if_pos h2, if_pos h2]; rfl
    · rw [if_neg h2, if_neg h2, if_pos hf0, if_pos (by omega), if_pos (by omega)]
theorem spec_j0_1 (k : Nat) (s : ByteArray) (hs : s.size ≤ 8000) (tag f : Int) (hf0 : 0 ≤ f) (hf1 : f ≤ 10000) :
    spec_l09Get.j0 (k + 4) s (s.size : Int) tag f 1 false 0 ⟨#[]⟩ 0 4 0 ⟨#[]⟩ 0 3 = some (if f + 1 > s.size then tShort else if bt s f < 128 then tBad else finP s tag (f + 1) (bt s f)) := by
  have hb := bt_range s f
  rw [spec_l09Get.j0, if_neg (by simp), w64 (x := f + 1) (by omega) (by omega)]
  by_cases h : f + 1 > s.size
  · rw [if_pos h, if_pos h]; rfl
  · rw [if_neg h, if_neg h, spec_l09Get.l0, if_pos (by omega), Int.add_zero, w64 (x := f) (by omega) (by omega), if_pos hf0, if_pos (by omega), w64 (x := bt s f) (by omega) (by omega),
      show wrap64 (256 * 0) = 0 by unfold wrap64; omega, Int.zero_add, w64 (x := bt s f) (by omega) (by omega), show wrap64 (0 + 1) = 1 by unfold wrap64; omega, spec_l09Get.l0, if_neg (by omega), if_pos rfl]
    by_cases h2 : bt s f < 128
    · rw [if_pos h2, if_pos h2]; rfl
    · rw [if_neg h2, if_neg h2, if_neg (by omega), w64 (x := f + 1) (by omega) (by omega)]
      exact spec_j2 k s hs tag (bt s f) (f + 1) hb.1 (by omega) (by omega) (by omega)
theorem spec_j0_2 (k : Nat) (s : ByteArray) (hs : s.size ≤ 8000) (tag f : Int) (hf0 : 0 ≤ f) (hf1 : f ≤ 10000) :
    spec_l09Get.j0 (k + 5) s (s.size : Int) tag f 2 false 0 ⟨#[]⟩ 0 4 0 ⟨#[]⟩ 0 3 = some (if f + 2 > s.size then tShort else if 256 * bt s f + bt s (f + 1) < 256 then tBad else finP s tag (f + 2) (256 * bt s f + bt s (f + 1))) := by
  have hb := bt_range s f
  have hb2 := bt_range s (f + 1)
  rw [spec_l09Get.j0, if_neg (by simp), w64 (x := f + 2) (by omega) (by omega)]
  by_cases h : f + 2 > s.size
  · rw [if_pos h, if_pos h]; rfl
  · rw [if_neg h, if_neg h, spec_l09Get.l0, if_pos (by omega), Int.add_zero, w64 (x := f) (by omega) (by omega), if_pos hf0, if_pos (by omega), w64 (x := bt s f) (by omega) (by omega),
      show wrap64 (256 * 0) = 0 by unfold wrap64; omega, Int.zero_add, w64 (x := bt s f) (by omega) (by omega), show wrap64 (0 + 1) = 1 by unfold wrap64; omega,
      spec_l09Get.l0, if_pos (by omega), w64 (x := f + 1) (by omega) (by omega), if_pos (by omega), if_pos (by omega), w64 (x := bt s (f + 1)) (by omega) (by omega),
      w64 (x := 256 * bt s f) (by omega) (by omega), w64 (x := 256 * bt s f + bt s (f + 1)) (by omega) (by omega), show wrap64 (1 + 1) = 2 by unfold wrap64; omega,
      spec_l09Get.l0, if_neg (by omega), if_neg (by omega), if_pos rfl]
    by_cases h2 : 256 * bt s f + bt s (f + 1) < 256
    · rw [if_pos h2, if_pos h2]; rfl
    · rw [if_neg h2, if_neg h2, w64 (x := f + 2) (by omega) (by omega)]
      exact spec_j2 k s hs tag _ (f + 2) (by omega) (by omega) (by omega) (by omega)
theorem spec_l09Get_f (s : ByteArray) (hs : s.size ≤ 8000) (a : Int) (h0 : 0 ≤ a) : spec_l09Get.f 9 s a = some (getP s a) := by
  unfold spec_l09Get.f getP
  by_cases h : a ≥ s.size
  · rw [if_pos h, if_pos h]; rfl
  · have hb := bt_range s a
    have hb1 := bt_range s (a + 1)
    rw [if_neg h, if_neg h, if_pos h0, if_pos (by omega), spec_l09Tag_f, w64 (x := bt s a) (by omega) (by omega), w64 (x := a + 1) (by omega) (by omega), w64 (x := a + 2) (by omega) (by omega), w64 (x := bt s (a + 1)) (by omega) (by omega)]
    simp only [Option.bind_some]
    by_cases ht : isTagP (bt s a) = true
    · rw [if_pos ht, if_pos ht]
      by_cases h1 : a + 1 ≥ s.size
      · rw [if_pos h1, if_pos h1]; rfl
      · rw [if_neg h1, if_neg h1, if_pos (by omega), if_pos (by omega)]
        by_cases h2 : bt s (a + 1) < 128
        · rw [if_neg (by omega), if_pos h2]
          exact spec_j2 8 s hs _ _ _ hb1.1 (by omega) (by omega) (by omega)
        · rw [if_pos (by omega), if_neg h2, w64 (x := bt s (a + 1) - 128) (by omega) (by omega)]
          by_cases h3 : bt s (a + 1) = 129
          · rw [if_pos (by omega), if_pos h3, h3, show (129 : Int) - 128 = 1 from rfl, spec_j0_1 5 s hs _ (a + 2) (by omega) (by omega), show a + 2 + 1 = a + 3 by omega]
          · rw [if_neg (by omega), if_neg h3]
            by_cases h4 : bt s (a + 1) = 130
            · rw [if_pos h4, h4, show (130 : Int) - 128 = 2 from rfl, show ((2 : Int) != 2) = false from rfl, spec_j0_2 4 s hs _ (a + 2) (by omega) (by omega), show a + 2 + 2 = a + 4 by omega, show a + 2 + 1 = a + 3 by omega]
            · rw [if_neg h4, show (bt s (a + 1) - 128 != 2) = true from by rw [bne_iff_ne]; omega, spec_l09Get.j0, if_pos rfl]; rfl
    · rw [if_neg ht, if_neg ht]; rfl
/-- What lies from a place on. -/
theorem bt_extract (s : ByteArray) (a : Nat) (i : Int) (h0 : 0 ≤ i) (h1 : (a : Int) + i < s.size) : bt (s.extract a s.size) i = bt s (a + i) := by
  rw [← rd_bytesOf, ← rd_bytesOf]
  have e : bytesOf (s.extract a s.size) = (bytesOf s).drop a := by
    unfold bytesOf
    rw [ba_data_extract, List.take_of_length_le (by rw [List.length_drop, data_length]; omega), List.map_drop]
  rw [e]
  unfold rd
  rw [List.getD_eq_getElem?_getD, List.getD_eq_getElem?_getD, List.getElem?_drop, show ((a : Int) + i).toNat = a + i.toNat by omega]
theorem ba_extract_extract (s : ByteArray) (a i j : Nat) : (s.extract a s.size).extract i j = s.extract (a + i) (a + j) := by
  apply ba_ext
  rw [ba_data_extract, ba_data_extract, ba_data_extract, List.take_of_length_le (l := s.data.toList.drop a) (by rw [List.length_drop, data_length]; omega), List.drop_drop, show a + j - (a + i) = j - i by omega]
theorem ext_cons (s : ByteArray) (i j : Nat) (h : i < j) (h2 : i < s.size) : s.extract i j = strOfNums (bt s i :: ((bytesOf s).drop (i + 1)).take (j - (i + 1))) := by
  have e := drop_bt s (i : Int) (by omega) (by omega)
  rw [show ((i : Int) + 1).toNat = i + 1 by omega, show (i : Int).toNat = i from rfl] at e
  rw [ext_son, e, show j - i = (j - (i + 1)) + 1 by omega, List.take_succ_cons]
theorem impl_j4 (k : Nat) (x s : ByteArray) (a : Nat) (ha : a < s.size) (hs : s.size ≤ 8000) (hx : x = s.extract a s.size) (h n : Int) (hh0 : 1 ≤ h) (hh1 : h ≤ 10) (hn0 : 0 ≤ n) (hn1 : n ≤ 4000) :
    impl_berGet.j4 (k + 1) a x h n false = some (finP s (bt s a) (a + h) n) := by
  have hz : x.size = s.size - a := by rw [hx, ba_extract_size s a s.size (by omega)]
  have hb := bt_range s a
  rw [impl_berGet.j4, if_neg (by simp), w64 (x := h + n) (by omega) (by omega), w64 (x := (a : Int) + (h + n)) (by omega) (by omega)]
  unfold finP
  rw [if_neg (show ¬ n > 4000 by omega)]
  by_cases h1 : (a : Int) + h + n > s.size
  · rw [if_pos (by omega), if_pos h1]; rfl
  · rw [if_neg (by omega), if_neg h1, if_pos (by omega), if_pos (by omega), if_pos (by omega), if_pos (by omega), hx, bt_extract s a 0 (by omega) (by omega), Int.add_zero,
      w64 (x := bt s a) (by omega) (by omega), ba_extract_extract, show a + h.toNat = ((a : Int) + h).toNat by omega, show a + (h + n).toNat = ((a : Int) + h + n).toNat by omega, show (a : Int) + (h + n) = (a : Int) + h + n by omega]
theorem impl_j3 (k : Nat) (x s : ByteArray) (a : Nat) (ha : a < s.size) (hs : s.size ≤ 8000) (hx : x = s.extract a s.size) (h n : Int) (hh0 : 1 ≤ h) (hh1 : h ≤ 10) (hn0 : 0 ≤ n) (hn1 : n ≤ 65535) (hhx : h ≤ x.size)
    (good : Bool) (hg : ((strOfNums (blen n)).toList != (x.extract 1 h.toNat).toList) = !good) :
    impl_berGet.j3 (k + 2) a x h n = some (if good = true then finP s (bt s a) (a + h) n else tBad) := by
  rw [impl_berGet.j3]
  by_cases h4 : n > 4000
  · rw [if_pos h4, impl_berGet.j4, if_pos rfl]
    unfold finP
    rw [if_pos h4, ite_self]; rfl
  · rw [if_neg h4, impl_berLength_f]
    simp only [Option.bind_some]
    rw [if_pos (by omega), if_pos hhx, hg]
    cases good
    · rw [impl_berGet.j4]; rfl
    · rw [if_pos rfl]
      exact impl_j4 k x s a ha hs hx h n hh0 hh1 hn0 (by omega)
theorem son_ne {l : List Int} {b : ByteArray} (h : l.length ≠ b.size) : ((strOfNums l).toList != b.toList) = true := by
  rw [bne_iff_ne]
  intro e
  have := congrArg ByteArray.size (ba_inj.1 e)
  rw [strOfNums_size] at this
  exact h this
theorem son_eq {l : List Int} {b : ByteArray} (h : b = strOfNums l) : ((strOfNums l).toList != b.toList) = false := by
  rw [h]; simp
theorem i64_or_8 {x y : Int} (hx0 : 0 ≤ x) (hx1 : x ≤ 255) (hy0 : 0 ≤ y) (hy1 : y ≤ 255) : Go.bits .or .i64 (x * 256) y = 256 * x + y := by
  have e := bits_join .i64 16 (by decide) (fun n h0 h1 => by rw [IntKind.wrap_i64]; omega) 8 (x * 256) y (by omega) (by omega) (by omega) hy0 (by omega) (by omega)
  rw [e]; omega
theorem i64_or_0 {y : Int} (hy0 : 0 ≤ y) (hy1 : y ≤ 255) : Go.bits .or .i64 0 y = y := by
  have := i64_or_8 (x := 0) (by omega) (by omega) hy0 hy1
  simpa using this
theorem impl_berGet_f (s : ByteArray) (hs : s.size ≤ 8000) (a : Int) (h0 : 0 ≤ a) : impl_berGet.f 12 s a = some (getP s a) := by
  unfold impl_berGet.f
  by_cases hgt : a > s.size
  · rw [if_pos hgt, impl_berGet.j0, if_pos (by omega), if_pos (by omega), if_pos]
    · unfold getP; rw [if_pos (by omega)]; rfl
    · rw [Go.Lib.toList_data, ba_data_extract]; simp
  · rw [if_neg hgt]
    obtain ⟨n, rfl⟩ := Int.eq_ofNat_of_zero_le h0
    rw [impl_berGet.j0, if_pos h0, if_pos (by omega), show ((n : Int)).toNat = n from rfl]
    have hz := ba_extract_size s n s.size (by omega)
    unfold getP
    by_cases h : (n : Int) ≥ s.size
    · rw [if_pos h, if_pos]; · rfl
      · rw [Go.Lib.toList_data, ba_data_extract, show s.size - n = 0 by omega]; simp
    · have hb := bt_range s n
      have hb1 := bt_range s (n + 1)
      generalize hx : s.extract n s.size = x at hz
      have hne : ¬ (x.toList = ([] : List UInt8)) := by
        intro e
        rw [Go.Lib.toList_data] at e
        have := data_length x
        rw [e] at this
        simp at this; omega
      have e0 : bt x 0 = bt s n := by rw [← hx, bt_extract s n 0 (by omega) (by omega), Int.add_zero]
      rw [if_neg h, if_neg hne, if_pos (by omega), e0, w64 (x := bt s n) (by omega) (by omega), impl_isTag_f]
      simp only [Option.bind_some]
      by_cases ht : isTagP (bt s n) = true
      · rw [if_pos ht, if_pos ht]
        by_cases h1 : (n : Int) + 1 ≥ s.size
        · rw [if_pos (by omega), if_pos h1]; rfl
        · have e1 : bt x 1 = bt s (n + 1) := by rw [← hx, bt_extract s n 1 (by omega) (by omega)]
          rw [if_neg (by omega), if_neg h1, if_pos (by omega), e1, w64 (x := bt s (n + 1)) (by omega) (by omega)]
          have c1 := ext_cons x 1
          by_cases h2 : bt s (n + 1) < 128
          · rw [if_neg (by omega), if_pos h2, impl_j3 9 x s n (by omega) hs hx.symm 2 _ (by omega) (by omega) hb1.1 (by omega) (by omega) true ?_, if_pos rfl]
            have e := c1 2 (by omega) (by omega)
            rw [show ((1 : Nat) : Int) = 1 from rfl, e1, show 2 - (1 + 1) = 0 from rfl, List.take_zero] at e
            rw [show ((2 : Int)).toNat = 2 from rfl, son_eq]
            · rfl
            · rw [e]; unfold blen; rw [if_pos h2, show bt s (n + 1) % 256 = bt s (n + 1) by omega]
          · rw [if_pos (by omega), if_neg h2]
            by_cases h3 : bt s (n + 1) = 129
            · have hb2 := bt_range s (n + 2)
              rw [if_pos h3, if_pos h3, h3, impl_berGet.j1, if_neg (by simp), show wrap64 (wrap64 (2 + 129) - 128) = 3 by unfold wrap64; omega]
              by_cases h5 : (n : Int) + 3 > s.size
              · rw [if_pos (by omega), if_pos h5]; rfl
              · have e2 : bt x 2 = bt s (n + 2) := by rw [← hx, bt_extract s n 2 (by omega) (by omega)]
                rw [if_neg (by omega), if_neg h5, impl_berGet.l0, if_pos (by omega), if_pos (by omega), if_pos (by omega), e2, w64 (x := bt s (n + 2)) (by omega) (by omega), show wrap64 (0 * 256) = 0 by unfold wrap64; omega,
                  i64_or_0 hb2.1 hb2.2, show wrap64 (2 + 1) = 3 by unfold wrap64; omega, impl_berGet.l0, if_neg (by omega)]
                have e := c1 3 (by omega) (by omega)
                have e' := drop_bt x 2 (by omega) (by omega)
                rw [show ((2 : Int)).toNat = 2 from rfl] at e'
                rw [show ((1 : Nat) : Int) = 1 from rfl, e1, h3, show 3 - (1 + 1) = 0 + 1 from rfl, show 1 + 1 = 2 from rfl, e', List.take_succ_cons, List.take_zero, e2] at e
                have hsz : (x.extract 1 3).size = 2 := by rw [ba_extract_size x 1 3 (by omega)]
                by_cases h6 : bt s (n + 2) < 128
                · rw [if_pos h6, impl_j3 6 x s n (by omega) hs hx.symm 3 _ (by omega) (by omega) hb2.1 (by omega) (by omega) false ?_, if_neg (by simp)]
                  rw [show ((3 : Int)).toNat = 3 from rfl, son_ne]
                  · rfl
                  · rw [hsz]; unfold blen; rw [if_pos h6]; simp
                · rw [if_neg h6, impl_j3 6 x s n (by omega) hs hx.symm 3 _ (by omega) (by omega) hb2.1 (by omega) (by omega) true ?_, if_pos rfl]
                  rw [show ((3 : Int)).toNat = 3 from rfl, son_eq]
                  · rfl
                  · rw [e]; unfold blen; rw [if_neg h6, if_pos (by omega), show bt s (n + 2) % 256 = bt s (n + 2) by omega]
            · rw [if_neg h3, if_neg h3]
              by_cases h4 : bt s (n + 1) = 130
              · have hb2 := bt_range s (n + 2)
                have hb3 := bt_range s (n + 3)
                rw [if_pos h4, h4, show ((130 : Int) != 130) = false from rfl, impl_berGet.j1, if_neg (by simp), show wrap64 (wrap64 (2 + 130) - 128) = 4 by unfold wrap64; omega]
                by_cases h5 : (n : Int) + 4 > s.size
                · rw [if_pos (by omega), if_pos h5]; rfl
                · have e2 : bt x 2 = bt s (n + 2) := by rw [← hx, bt_extract s n 2 (by omega) (by omega)]
                  have e3 : bt x 3 = bt s (n + 3) := by rw [← hx, bt_extract s n 3 (by omega) (by omega)]
                  rw [if_neg (by omega), if_neg h5, impl_berGet.l0, if_pos (by omega), if_pos (by omega), if_pos (by omega), e2, w64 (x := bt s (n + 2)) (by omega) (by omega), show wrap64 (0 * 256) = 0 by unfold wrap64; omega,
                    i64_or_0 hb2.1 hb2.2, show wrap64 (2 + 1) = 3 by unfold wrap64; omega, impl_berGet.l0, if_pos (by omega), if_pos (by omega), if_pos (by omega), e3, w64 (x := bt s (n + 3)) (by omega) (by omega),
                    w64 (x := bt s (n + 2) * 256) (by omega) (by omega), i64_or_8 hb2.1 hb2.2 hb3.1 hb3.2, show wrap64 (3 + 1) = 4 by unfold wrap64; omega, impl_berGet.l0, if_neg (by omega)]
                  have e := c1 4 (by omega) (by omega)
                  have e' := drop_bt x 2 (by omega) (by omega)
                  have e'' := drop_bt x 3 (by omega) (by omega)
                  rw [show ((2 : Int)).toNat = 2 from rfl, show ((2 : Int) + 1).toNat = 3 from rfl] at e'
                  rw [show ((3 : Int)).toNat = 3 from rfl] at e''
                  rw [show ((1 : Nat) : Int) = 1 from rfl, e1, h4, show 4 - (1 + 1) = 0 + 1 + 1 from rfl, show 1 + 1 = 2 from rfl, e', List.take_succ_cons, e'', List.take_succ_cons, List.take_zero, e2, e3] at e
                  have hsz : (x.extract 1 4).size = 3 := by rw [ba_extract_size x 1 4 (by omega)]
                  by_cases h6 : 256 * bt s (n + 2) + bt s (n + 3) < 256
                  · rw [if_pos h6, impl_j3 5 x s n (by omega) hs hx.symm 4 _ (by omega) (by omega) (by omega) (by omega) (by omega) false ?_, if_neg (by simp)]
                    rw [show ((4 : Int)).toNat = 4 from rfl, son_ne]
                    · rfl
                    · rw [hsz]; unfold blen; split
                      · simp
                      · simp
                  · rw [if_neg h6, impl_j3 5 x s n (by omega) hs hx.symm 4 _ (by omega) (by omega) (by omega) (by omega) (by omega) true ?_, if_pos rfl]
                    rw [show ((4 : Int)).toNat = 4 from rfl, son_eq]
                    · rfl
                    · rw [e]; unfold blen; rw [if_neg (by omega), if_neg h6, show (256 * bt s (n + 2) + bt s (n + 3)) / 256 % 256 = bt s (n + 2) by omega, show (256 * bt s (n + 2) + bt s (n + 3)) % 256 = bt s (n + 3) by omega]
              · rw [if_neg h4, show (bt s (n + 1) != 130) = true from by rw [bne_iff_ne]; omega, impl_berGet.j1, if_pos rfl]; rfl
      · rw [if_neg ht, if_neg ht]; rfl
theorem FnExactBerGet : laws_FnExactBerGet.Pure := by
  intro s a hs ha
  refine ⟨?_, ?_⟩
  · exact 12
  unfold laws_FnExactBerGet.f
  by_cases h : (s.size : Int) > 1048576
  · rw [if_pos h]
  · rw [if_neg h]
    have hA : spec_BerGet.f 12 s a = some (if s.size > 8000 then (0, ⟨#[]⟩, 0, 2) else if a < 0 then (0, ⟨#[]⟩, 0, 1) else getP s a) := by
      unfold spec_BerGet.f
      by_cases h2 : s.size > 8000
      · rw [if_pos h2, if_pos (by omega)]
      · rw [if_neg h2, if_neg (by omega)]
        by_cases h3 : a < 0
        · rw [if_pos h3, if_pos h3]
        · rw [if_neg h3, if_neg h3, at_rounds (fun k => spec_l09Get.mono s a k) (show 9 ≤ 12 by omega) (spec_l09Get_f s (by omega) a (by omega))]; rfl
    have hB : impl_BerGet.f 12 s a = some (if s.size > 8000 then (0, ⟨#[]⟩, 0, 2) else if a < 0 then (0, ⟨#[]⟩, 0, 1) else getP s a) := by
      unfold impl_BerGet.f
      rw [impl_isLong_f [s] (by simp) 12 (by simp only [List.length_cons, List.length_nil]; omega)]
      simp only [Option.bind_some, List.any_cons, List.any_nil, Bool.or_false]
      by_cases h2 : s.size > 8000
      · rw [if_pos h2, if_pos (by simpa using h2)]
      · rw [if_neg h2, if_neg (by simpa using h2)]
        by_cases h3 : a < 0
        · rw [if_pos h3, if_pos h3]
        · rw [if_neg h3, if_neg h3, impl_berGet_f s (by omega) a (by omega)]; rfl
    rw [hA, hB]
    simp [laws_eqTlvOut.f, laws_eqTlv.f]

end Go.Proofs.Yticbafilcicdjaa.Pure
