/- The law FnExactBerIntRead answers true at every string: the program's BerIntRead gives the number and the code that the reference's gives. No condition. -/
import Derived.Test.YticbafilcicdjaaPFnExactBerIntReadx2
import Derived.Laws.Bits64
import Derived.Lib.Strings
namespace Go.Proofs.Yticbafilcicdjaa.Pure
open Go.RowKit Go.Proofs.Yticbafilcicdjaa.PFnExactBerIntRead Go.Proofs.YticbafilcicdjaaW.PrintWords Go.Proofs.YticbafilcicdjaaW.PrintLast
set_option linter.unusedVariables false
set_option linter.unusedSimpArgs false

/-! plain lemmas -/
theorem w64 {x : Int} (h0 : -9223372036854775808 ≤ x) (h1 : x ≤ 9223372036854775807) : wrap64 x = x := by unfold wrap64; omega
theorem u64w {x : Int} (h0 : 0 ≤ x) (h1 : x < 18446744073709551616) : IntKind.u64.wrap x = x := by rw [IntKind.wrap_u64]; omega
theorem son_append (xs ys : List Int) : strOfNums (xs ++ ys) = strOfNums xs ++ strOfNums ys := by
  unfold strOfNums
  apply ByteArray.ext
  simp
theorem ba_append_size (a b : ByteArray) : (a ++ b).size = a.size + b.size := by simp
theorem ba_append_assoc (a b c : ByteArray) : (a ++ b) ++ c = a ++ (b ++ c) := by
  apply ByteArray.ext
  simp
/-- The comparison at the end of a law. -/
theorem law_end {A B : Option ByteArray} {r : ByteArray} (hA : A = some r) (hB : B = some r) :
    (A.bind fun t => B.bind fun t' => if t'.toList = t.toList then some true else some false) = some true := by
  rw [hA, hB]; simp
theorem wf_i64 {n : Int} (h : (Lit.int .i64 n).wf = true) : -9223372036854775808 ≤ n ∧ n ≤ 9223372036854775807 := by
  simpa [Lit.wf, IntKind.min, IntKind.max, IntKind.bits, IntKind.signed] using h
/-- The same of two numbers. -/
theorem law_endI {A B : Option Int} {r : Int} (hA : A = some r) (hB : B = some r) :
    (A.bind fun t => B.bind fun t' => if t' = t then some true else some false) = some true := by
  rw [hA, hB]; simp

/-! strings of bytes -/
theorem ba_ext {a b : ByteArray} (h : a.data.toList = b.data.toList) : a = b := ByteArray.ext (Array.toList_inj.1 h)
theorem ba_inj {a b : ByteArray} : a.toList = b.toList ↔ a = b :=
  ⟨fun h => ba_ext (by rwa [Go.Lib.toList_data, Go.Lib.toList_data] at h), fun h => by rw [h]⟩
theorem ba_data_append (a b : ByteArray) : (a ++ b).data.toList = a.data.toList ++ b.data.toList := by simp
theorem ba_data_extract (s : ByteArray) (i j : Nat) : (s.extract i j).data.toList = (s.data.toList.drop i).take (j - i) := Go.Lib.extract_data s i j
theorem ba_split (s : ByteArray) (m : Nat) : s.extract 0 m ++ s.extract m s.size = s := by
  apply ba_ext
  rw [ba_data_append, ba_data_extract, ba_data_extract, Nat.sub_zero, List.drop_zero]
  rw [List.take_of_length_le (l := s.data.toList.drop m) (by rw [List.length_drop, data_length]; omega), List.take_append_drop]
theorem ba_append_inj {a b c : ByteArray} : a ++ b = a ++ c ↔ b = c := by
  constructor
  · intro h
    have h2 := congrArg (fun x : ByteArray => x.data.toList) h
    simp only [ba_data_append] at h2
    exact ba_ext (List.append_cancel_left h2)
  · intro h; rw [h]
theorem son_bytesOf (s : ByteArray) : strOfNums (bytesOf s) = s := by
  apply ba_ext
  rw [strOfNums_data, bytesOf, List.map_map]
  conv => rhs; rw [← List.map_id s.data.toList]
  apply List.map_congr_left
  intro b _
  simp
theorem ext_son (s : ByteArray) (i j : Nat) : s.extract i j = strOfNums (((bytesOf s).drop i).take (j - i)) := by
  apply ba_ext
  rw [ba_data_extract, strOfNums_data, List.map_take, List.map_drop]
  congr 2
  have := congrArg (fun x : ByteArray => x.data.toList) (son_bytesOf s)
  simp only [strOfNums_data] at this
  exact this.symm
theorem ba_extract_size (s : ByteArray) (i j : Nat) (hj : j ≤ s.size) : (s.extract i j).size = j - i := by
  rw [ByteArray.size_extract]; omega
theorem ba_nil_data : (⟨#[]⟩ : ByteArray).data.toList = [] := rfl
theorem ba_size0 {s : ByteArray} (h : s.size = 0) : s = ⟨#[]⟩ := by
  apply ba_ext
  rw [ba_nil_data]
  exact List.eq_nil_of_length_eq_zero (by rw [data_length]; exact h)

theorem drop_bt (s : ByteArray) (i : Int) (h0 : 0 ≤ i) (h1 : i < s.size) : (bytesOf s).drop i.toNat = bt s i :: (bytesOf s).drop (i + 1).toNat := by
  have hl : i.toNat < (bytesOf s).length := by rw [bytesOf_length]; omega
  rw [List.drop_eq_getElem_cons hl, ← rd_bytesOf, show (i + 1).toNat = i.toNat + 1 by omega]
  congr 1
  unfold rd
  rw [List.getD_eq_getElem?_getD, List.getElem?_eq_getElem hl]; rfl

/-! BerInt -/
/-- The bytes of a number's body ahead of l. -/
def ib : Nat → Int → List Int → List Int
  | 0, _, l => l
  | j + 1, x, l => if -128 ≤ x ∧ x < 128 then l else ib j (x / 256) ((x / 256) % 256 :: l)
def ibfits : Nat → Int → Prop
  | 0, x => -128 ≤ x ∧ x < 128
  | j + 1, x => ibfits j (x / 256)
/-- The body of a number. -/
def IB (n : Int) : ByteArray := strOfNums (ib 8 n [n % 256])
theorem ibfits_i64 {n : Int} (h0 : -9223372036854775808 ≤ n) (h1 : n ≤ 9223372036854775807) : ibfits 7 n := by
  simp only [ibfits]; omega
theorem ib_length : ∀ j x l, l.length ≤ (ib j x l).length ∧ (ib j x l).length ≤ l.length + j
  | 0, x, l => by simp [ib]
  | j + 1, x, l => by
    simp only [ib]
    split
    · omega
    · have := ib_length j (x / 256) ((x / 256) % 256 :: l)
      simp at this; omega
theorem IB_size (n : Int) : 1 ≤ (IB n).size ∧ (IB n).size ≤ 9 := by
  unfold IB; rw [strOfNums_size]; have := ib_length 8 n [n % 256]; simpa using this
theorem i8w {x : Int} (h0 : 0 ≤ x) (h1 : x < 256) : IntKind.i8.wrap x = if x < 128 then x else x - 256 := by
  have key : ∀ z : Fin 256, IntKind.i8.wrap (z.val : Int) = if (z.val : Int) < 128 then (z.val : Int) else (z.val : Int) - 256 := by decide +kernel
  have := key ⟨x.toNat, by omega⟩
  simpa [Int.toNat_of_nonneg h0] using this
theorem spec_l09Bytes_l0 : ∀ (j k : Nat) (x : Int) (l : List Int), ibfits j x → l.length + j < 100 → j < k →
    spec_l09Bytes.l0 k (x % 256 :: l) (x / 256) = some (strOfNums (ib (j + 1) x (x % 256 :: l)))
  | j, k, x, l, hf, hl, hk => by
    obtain ⟨k, rfl⟩ : ∃ m, k = m + 1 := ⟨k - 1, by omega⟩
    have hrd : rd (x % 256 :: l) 0 = x % 256 := rfl
    have hdone : -128 ≤ x ∧ x < 128 → ib (j + 1) x (x % 256 :: l) = x % 256 :: l := fun h => by simp only [ib]; rw [if_pos h]
    have hgo : ¬ (-128 ≤ x ∧ x < 128) → spec_l09Bytes.l0 k ([(x / 256) % 256] ++ (x % 256 :: l)) (x / 256 / 256) = some (strOfNums (ib (j + 1) x (x % 256 :: l))) := fun h => by
      cases j with
      | zero => exact absurd hf h
      | succ j =>
        have hf' : ibfits j (x / 256) := hf
        have := spec_l09Bytes_l0 j k (x / 256) (x % 256 :: l) hf' (by simp only [List.length_cons, List.length_nil]; omega) (by omega)
        rw [show [(x / 256) % 256] ++ (x % 256 :: l) = (x / 256) % 256 :: (x % 256 :: l) from rfl, this]
        simp only [ib]; rw [if_neg h]
    have hlen : ([(x / 256) % 256] : List Int).length + (x % 256 :: l).length < 140737488355328 := by simp only [List.length_cons, List.length_nil]; omega
    simp only [spec_l09Bytes.l0, hrd, Option.bind_some]
    by_cases h0 : x / 256 = 0
    · rw [if_pos h0, if_pos (by simp only [List.length_cons, List.length_nil]; omega)]
      by_cases h1 : x % 256 < 128
      · rw [if_pos h1, hdone (by omega)]
      · rw [if_neg h1, if_neg (by omega), if_pos hlen, hgo (by omega)]
    · rw [if_neg h0]
      by_cases h2 : x / 256 = -1
      · rw [if_pos h2, if_pos (by simp only [List.length_cons, List.length_nil]; omega)]
        by_cases h3 : x % 256 ≥ 128
        · rw [if_pos h3, hdone (by omega)]
        · rw [if_neg h3, if_pos hlen, hgo (by omega)]
      · rw [if_neg h2, if_pos hlen, hgo (by omega)]
theorem impl_intBody_l0 : ∀ (j k : Nat) (x : Int) (l : List Int), ibfits j x → l.length + j < 100 → j < k →
    impl_intBody.l0 k x (x % 256 :: l) = some (strOfNums (ib (j + 1) x (x % 256 :: l)))
  | j, k, x, l, hf, hl, hk => by
    obtain ⟨k, rfl⟩ : ∃ m, k = m + 1 := ⟨k - 1, by omega⟩
    have hrd : rd (x % 256 :: l) 0 = x % 256 := rfl
    have hlen : ([(x / 256) % 256] : List Int).length + (x % 256 :: l).length < 140737488355328 := by simp only [List.length_cons, List.length_nil]; omega
    simp only [impl_intBody.l0, hrd, Option.bind_some]
    rw [if_pos (by simp only [List.length_cons, List.length_nil]; omega), i8w (by omega) (by omega)]
    have hw : wrap64 (if x % 256 < 128 then x % 256 else x % 256 - 256) = if x % 256 < 128 then x % 256 else x % 256 - 256 := w64 (by split <;> omega) (by split <;> omega)
    rw [hw]
    by_cases h : -128 ≤ x ∧ x < 128
    · rw [if_pos (by split <;> omega)]; simp only [ib]; rw [if_pos h]
    · rw [if_neg (by split <;> omega), if_pos hlen]
      cases j with
      | zero => exact absurd hf h
      | succ j =>
        have hf' : ibfits j (x / 256) := hf
        have := impl_intBody_l0 j k (x / 256) (x % 256 :: l) hf' (by simp only [List.length_cons, List.length_nil]; omega) (by omega)
        rw [show [(x / 256) % 256] ++ (x % 256 :: l) = (x / 256) % 256 :: (x % 256 :: l) from rfl, this]
        simp only [ib]; rw [if_neg h]
theorem spec_l09Bytes_f (k : Nat) (n : Int) (h0 : -9223372036854775808 ≤ n) (h1 : n ≤ 9223372036854775807) (hk : 8 ≤ k) : spec_l09Bytes.f k n = some (IB n) := by
  unfold spec_l09Bytes.f
  rw [show ([(n) % 256] : List Int) = n % 256 :: [] from rfl, spec_l09Bytes_l0 7 k n [] (ibfits_i64 h0 h1) (by simp) (by omega)]; rfl
theorem impl_intBody_f (k : Nat) (n : Int) (h0 : -9223372036854775808 ≤ n) (h1 : n ≤ 9223372036854775807) (hk : 8 ≤ k) : impl_intBody.f k n = some (IB n) := by
  unfold impl_intBody.f
  rw [show ([(n) % 256] : List Int) = n % 256 :: [] from rfl, impl_intBody_l0 7 k n [] (ibfits_i64 h0 h1) (by simp) (by omega)]; rfl

/-! isLong -/
theorem impl_isLong_l0 (l : List ByteArray) (hl : l.length ≤ 4611686018427387904) : ∀ (d k : Nat) (i : Int), 0 ≤ i → i + d = l.length → d < k →
    impl_isLong.l0 k l (l.length : Int) i = some ((l.drop i.toNat).any fun t => decide (t.size > 8000))
  | 0, k, i, h0, hd, hk => by
    obtain ⟨k, rfl⟩ : ∃ m, k = m + 1 := ⟨k - 1, by omega⟩
    simp only [impl_isLong.l0]
    rw [if_neg (by omega), List.drop_of_length_le (by omega)]; rfl
  | d + 1, k, i, h0, hd, hk => by
    obtain ⟨k, rfl⟩ : ∃ m, k = m + 1 := ⟨k - 1, by omega⟩
    have hlt : i.toNat < l.length := by omega
    simp only [impl_isLong.l0]
    rw [if_pos (by omega), if_pos h0, if_pos (by omega), List.drop_eq_getElem_cons hlt, List.any_cons]
    have e : rdOf ByteArray.empty l i = l[i.toNat] := by unfold rdOf; rw [List.getD_eq_getElem?_getD, List.getElem?_eq_getElem hlt]; rfl
    rw [e]
    by_cases h : (l[i.toNat].size : Int) > 8000
    · rw [if_pos h, decide_eq_true (by omega)]; rfl
    · rw [if_neg h, decide_eq_false (by omega), w64 (by omega) (by omega), impl_isLong_l0 l hl d k (i + 1) (by omega) (by omega) (by omega), show (i + 1).toNat = i.toNat + 1 by omega]; rfl
theorem impl_isLong_f (l : List ByteArray) (hl : l.length ≤ 4611686018427387904) (k : Nat) (hk : l.length < k) : impl_isLong.f k l = some (l.any fun t => decide (t.size > 8000)) := by
  unfold impl_isLong.f
  rw [impl_isLong_l0 l hl l.length k 0 (by omega) (by omega) hk]; rfl

/-- A number with a byte behind it. -/
def shl8 (n b : Int) : Int := Go.bits .or .i64 (wrap64 (n * 256)) b
def rl (n : Int) (l : List Int) : Int := l.foldl shl8 n
theorem i64_bits_range (op : BinOp) (x y : Int) : -9223372036854775808 ≤ Go.bits op .i64 x y ∧ Go.bits op .i64 x y ≤ 9223372036854775807 := by
  unfold Go.bits
  rw [IntKind.wrap_i64]
  omega
theorem rl_range : ∀ (l : List Int) (n : Int), -9223372036854775808 ≤ n → n ≤ 9223372036854775807 → -9223372036854775808 ≤ rl n l ∧ rl n l ≤ 9223372036854775807
  | [], n, h0, h1 => ⟨h0, h1⟩
  | b :: l, n, _, _ => by
    have := i64_bits_range .or (wrap64 (n * 256)) b
    exact rl_range l _ this.1 this.2
theorem shl8_0 {b : Int} (h0 : 0 ≤ b) (h1 : b ≤ 255) (h : b < 128) : shl8 0 b = b := by
  have key : ∀ z : Fin 128, shl8 0 (z.val : Int) = (z.val : Int) := by decide +kernel
  have := key ⟨b.toNat, by omega⟩
  simpa [Int.toNat_of_nonneg h0] using this
theorem shl8_1 {b : Int} (h0 : 0 ≤ b) (h1 : b ≤ 255) (h : ¬ b < 128) : shl8 (-1) b = b - 256 := by
  have key : ∀ z : Fin 128, shl8 (-1) ((z.val : Int) + 128) = (z.val : Int) + 128 - 256 := by decide +kernel
  have := key ⟨(b - 128).toNat, by omega⟩
  simp only [Int.toNat_of_nonneg (show 0 ≤ b - 128 by omega)] at this
  rwa [show b - 128 + 128 = b by omega] at this
theorem spec_l09Int_l0 (s : ByteArray) (hs : s.size ≤ 8) : ∀ (d k : Nat) (n i : Int), -9223372036854775808 ≤ n → n ≤ 9223372036854775807 → 0 ≤ i → i + d = s.size → d + 9 ≤ k →
    spec_l09Int.l0 k s n i = some (rl n ((bytesOf s).drop i.toNat), ((IB (rl n ((bytesOf s).drop i.toNat))).toList == s.toList))
  | 0, k, n, i, hn0, hn1, h0, hd, hk => by
    obtain ⟨k, rfl⟩ : ∃ m, k = m + 1 := ⟨k - 1, by omega⟩
    simp only [spec_l09Int.l0]
    rw [if_neg (by omega), List.drop_of_length_le (by rw [bytesOf_length]; omega), spec_l09Bytes_f k n hn0 hn1 (by omega)]; rfl
  | d + 1, k, n, i, hn0, hn1, h0, hd, hk => by
    obtain ⟨k, rfl⟩ : ∃ m, k = m + 1 := ⟨k - 1, by omega⟩
    have hb := bt_range s i
    have hr := i64_bits_range .or (wrap64 (n * 256)) (bt s i)
    rw [spec_l09Int.l0, if_pos (by omega), if_pos h0, w64 (x := bt s i) (by omega) (by omega), w64 (x := i + 1) (by omega) (by omega),
      spec_l09Int_l0 s hs d k _ (i + 1) hr.1 hr.2 (by omega) (by omega) (by omega), drop_bt s i h0 (by omega)]; rfl
theorem impl_readInt_l0 (s : ByteArray) (hs : s.size ≤ 8) : ∀ (d k : Nat) (n i : Int), -9223372036854775808 ≤ n → n ≤ 9223372036854775807 → 0 ≤ i → i + d = s.size → d + 9 ≤ k →
    impl_readInt.l0 k s n i = some (rl n ((bytesOf s).drop i.toNat), ((IB (rl n ((bytesOf s).drop i.toNat))).toList == s.toList))
  | 0, k, n, i, hn0, hn1, h0, hd, hk => by
    obtain ⟨k, rfl⟩ : ∃ m, k = m + 1 := ⟨k - 1, by omega⟩
    simp only [impl_readInt.l0]
    rw [if_neg (by omega), List.drop_of_length_le (by rw [bytesOf_length]; omega), impl_intBody_f k n hn0 hn1 (by omega)]; rfl
  | d + 1, k, n, i, hn0, hn1, h0, hd, hk => by
    obtain ⟨k, rfl⟩ : ∃ m, k = m + 1 := ⟨k - 1, by omega⟩
    have hb := bt_range s i
    have hr := i64_bits_range .or (wrap64 (n * 256)) (bt s i)
    rw [impl_readInt.l0, if_pos (by omega), if_pos h0, w64 (x := bt s i) (by omega) (by omega), w64 (x := i + 1) (by omega) (by omega),
      impl_readInt_l0 s hs d k _ (i + 1) hr.1 hr.2 (by omega) (by omega) (by omega), drop_bt s i h0 (by omega)]; rfl
def IntP (s : ByteArray) : Int × Bool :=
  if s.size < 1 ∨ s.size > 8 then (0, false) else
    (rl (if bt s 0 ≥ 128 then -1 else 0) (bytesOf s), ((IB (rl (if bt s 0 ≥ 128 then -1 else 0) (bytesOf s))).toList == s.toList))
theorem spec_l09Int_f (k : Nat) (s : ByteArray) (hs : s.size ≤ 8000) (hk : 30 ≤ k) : spec_l09Int.f k s = some (IntP s) := by
  obtain ⟨k, rfl⟩ : ∃ m, k = m + 2 := ⟨k - 2, by omega⟩
  have hj : ∀ b : Bool, b = decide (s.size < 1 ∨ s.size > 8) → spec_l09Int.j0 (k + 2) s b = some (IntP s) := by
    intro b hb
    unfold IntP
    rw [spec_l09Int.j0]
    by_cases h : s.size < 1 ∨ s.size > 8
    · rw [if_pos (by rw [hb]; exact decide_eq_true h), if_pos h]
    · rw [if_neg (by rw [hb]; simpa using h), if_neg h, if_pos (by omega)]
      by_cases h1 : bt s 0 ≥ 128
      · rw [if_pos h1, if_pos h1, spec_l09Int.j1, spec_l09Int_l0 s (by omega) s.size k (-1) 0 (by omega) (by omega) (by omega) (by omega) (by omega)]; rfl
      · rw [if_neg h1, if_neg h1, spec_l09Int.j1, spec_l09Int_l0 s (by omega) s.size k 0 0 (by omega) (by omega) (by omega) (by omega) (by omega)]; rfl
  unfold spec_l09Int.f
  by_cases h : (s.size : Int) < 1
  · rw [if_pos h]; exact hj _ (by rw [decide_eq_true (by omega)])
  · rw [if_neg h]
    refine hj _ ?_
    by_cases h2 : s.size > 8
    · rw [decide_eq_true (by omega), decide_eq_true (by omega)]
    · rw [decide_eq_false (by omega), decide_eq_false (by omega)]
theorem impl_readInt_f (k : Nat) (s : ByteArray) (hs : s.size ≤ 8000) (hk : 30 ≤ k) : impl_readInt.f k s = some (IntP s) := by
  obtain ⟨k, rfl⟩ : ∃ m, k = m + 2 := ⟨k - 2, by omega⟩
  have hj : ∀ b : Bool, b = decide (s.size < 1 ∨ s.size > 8) → impl_readInt.j0 (k + 2) s b = some (IntP s) := by
    intro b hb
    unfold IntP
    rw [impl_readInt.j0]
    by_cases h : s.size < 1 ∨ s.size > 8
    · rw [if_pos (by rw [hb]; exact decide_eq_true h), if_pos h]
    · have hb0 := bt_range s 0
      have hd : bytesOf s = bt s 0 :: (bytesOf s).drop (0 + 1 : Int).toNat := by
        have := drop_bt s 0 (by omega) (by omega)
        simpa using this
      rw [if_neg (by rw [hb]; simpa using h), if_neg h, if_pos (by omega), i8w hb0.1 (by omega)]
      have e : rl (if bt s 0 ≥ 128 then -1 else 0) (bytesOf s) = rl (wrap64 (if bt s 0 < 128 then bt s 0 else bt s 0 - 256)) ((bytesOf s).drop (1 : Int).toNat) := by
        conv => lhs; rw [hd]
        unfold rl
        rw [List.foldl_cons]
        congr 1
        by_cases h1 : bt s 0 < 128
        · rw [if_neg (by omega), if_pos h1, shl8_0 hb0.1 hb0.2 h1, w64 (by omega) (by omega)]
        · rw [if_pos (by omega), if_neg h1, shl8_1 hb0.1 hb0.2 h1, w64 (by omega) (by omega)]
      rw [e]
      have hw : -9223372036854775808 ≤ wrap64 (if bt s 0 < 128 then bt s 0 else bt s 0 - 256) ∧ wrap64 (if bt s 0 < 128 then bt s 0 else bt s 0 - 256) ≤ 9223372036854775807 := by
        unfold wrap64; omega
      rw [impl_readInt_l0 s (by omega) (s.size - 1) (k + 1) _ 1 hw.1 hw.2 (by omega) (by omega) (by omega)]
  unfold impl_readInt.f
  by_cases h : (s.size : Int) < 1
  · rw [if_pos h]; exact hj _ (by rw [decide_eq_true (by omega)])
  · rw [if_neg h]
    refine hj _ ?_
    by_cases h2 : s.size > 8
    · rw [decide_eq_true (by omega), decide_eq_true (by omega)]
    · rw [decide_eq_false (by omega), decide_eq_false (by omega)]
theorem FnExactBerIntRead : laws_FnExactBerIntRead.Pure := by
  intro a ha
  refine ⟨30, ?_⟩
  unfold laws_FnExactBerIntRead.f
  by_cases h : (a.size : Int) > 1048576
  · rw [if_pos h]
  · rw [if_neg h]
    have hA : spec_BerIntRead.f 30 a = some (if a.size > 8000 then (0, 0, 2) else if (IntP a).2 = true then ((IntP a).1, 0, 0) else (0, 0, 3)) := by
      unfold spec_BerIntRead.f
      by_cases h2 : a.size > 8000
      · rw [if_pos h2, if_pos (by omega)]
      · rw [if_neg h2, if_neg (by omega), spec_l09Int_f 30 a (by omega) (by omega)]
        simp only [Option.bind_some]
        split <;> rfl
    have hB : impl_BerIntRead.f 30 a = some (if a.size > 8000 then (0, 0, 2) else if (IntP a).2 = true then ((IntP a).1, 0, 0) else (0, 0, 3)) := by
      unfold impl_BerIntRead.f
      rw [impl_isLong_f [a] (by simp) 30 (by simp only [List.length_cons, List.length_nil]; omega)]
      simp only [Option.bind_some, List.any_cons, List.any_nil, Bool.or_false]
      by_cases h2 : a.size > 8000
      · rw [if_pos h2, if_pos (by simpa using h2)]
      · rw [if_neg h2, if_neg (by simpa using h2), impl_readInt_f 30 a (by omega) (by omega)]
        simp only [Option.bind_some]
        split <;> rfl
    rw [hA, hB]
    simp [laws_eqNumOut.f]

end Go.Proofs.Yticbafilcicdjaa.Pure
