/- The law FnExactUnseal answers true at every string: the program's Unseal gives the text and the code that the reference's gives. No condition. -/
import Derived.Test.YticbafilcicdjaaPFnExactUnsealx2
import Derived.Laws.Bits64
import Derived.Lib.Strings
import Derived.Laws.BitsAllLaws
namespace Go.Proofs.Yticbafilcicdjaa.Pure
open Go.RowKit Go.Proofs.Yticbafilcicdjaa.PFnExactUnseal Go.Proofs.YticbafilcicdjaaW.PrintWords Go.Proofs.YticbafilcicdjaaW.PrintLast
set_option linter.unusedVariables false
set_option linter.unusedSimpArgs false

/-! plain lemmas -/
theorem w64 {x : Int} (h0 : -9223372036854775808 ≤ x) (h1 : x ≤ 9223372036854775807) : wrap64 x = x := by unfold wrap64; omega
theorem u64w {x : Int} (h0 : 0 ≤ x) (h1 : x < 18446744073709551616) : IntKind.u64.wrap x = x := by rw [IntKind.wrap_u64]; omega
theorem son_append (xs ys : List Int) : strOfNums (xs ++ ys) = strOfNums xs ++ strOfNums ys := by
  unfold strOfNums
  apply ByteArray.ext
  simp
theorem ba_append_size (a b : ByteArray) : (a ++ b).size = a.size + b.size := by simp
theorem ba_append_assoc (a b c : ByteArray) : (a ++ b) ++ c = a ++ (b ++ c) := by
  apply ByteArray.ext
  simp
/-- The comparison at the end of a law. -/
theorem law_end {A B : Option ByteArray} {r : ByteArray} (hA : A = some r) (hB : B = some r) :
    (A.bind fun t => B.bind fun t' => if t'.toList = t.toList then some true else some false) = some true := by
  rw [hA, hB]; simp
theorem wf_i64 {n : Int} (h : (Lit.int .i64 n).wf = true) : -9223372036854775808 ≤ n ∧ n ≤ 9223372036854775807 := by
  simpa [Lit.wf, IntKind.min, IntKind.max, IntKind.bits, IntKind.signed] using h
/-- The same of two numbers. -/
theorem law_endI {A B : Option Int} {r : Int} (hA : A = some r) (hB : B = some r) :
    (A.bind fun t => B.bind fun t' => if t' = t then some true else some false) = some true := by
  rw [hA, hB]; simp

/-! strings of bytes -/
theorem ba_ext {a b : ByteArray} (h : a.data.toList = b.data.toList) : a = b := ByteArray.ext (Array.toList_inj.1 h)
theorem ba_inj {a b : ByteArray} : a.toList = b.toList ↔ a = b :=
  ⟨fun h => ba_ext (by rwa [Go.Lib.toList_data, Go.Lib.toList_data] at h), fun h => by rw [h]⟩
theorem ba_data_append (a b : ByteArray) : (a ++ b).data.toList = a.data.toList ++ b.data.toList := by simp
theorem ba_data_extract (s : ByteArray) (i j : Nat) : (s.extract i j).data.toList = (s.data.toList.drop i).take (j - i) := Go.Lib.extract_data s i j
theorem ba_split (s : ByteArray) (m : Nat) : s.extract 0 m ++ s.extract m s.size = s := by
  apply ba_ext
  rw [ba_data_append, ba_data_extract, ba_data_extract, Nat.sub_zero, List.drop_zero]
  rw [List.take_of_length_le (l := s.data.toList.drop m) (by rw [List.length_drop, data_length]; omega), List.take_append_drop]
theorem ba_append_inj {a b c : ByteArray} : a ++ b = a ++ c ↔ b = c := by
  constructor
  · intro h
    have h2 := congrArg (fun x : ByteArray => x.data.toList) h
    simp only [ba_data_append] at h2
    exact ba_ext (List.append_cancel_left h2)
  · intro h; rw [h]
theorem son_bytesOf (s : ByteArray) : strOfNums (bytesOf s) = s := by
  apply ba_ext
  rw [strOfNums_data, bytesOf, List.map_map]
  conv => rhs; rw [← List.map_id s.data.toList]
  apply List.map_congr_left
  intro b _
  simp
theorem ext_son (s : ByteArray) (i j : Nat) : s.extract i j = strOfNums (((bytesOf s).drop i).take (j - i)) := by
  apply ba_ext
  rw [ba_data_extract, strOfNums_data, List.map_take, List.map_drop]
  congr 2
  have := congrArg (fun x : ByteArray => x.data.toList) (son_bytesOf s)
  simp only [strOfNums_data] at this
  exact this.symm
theorem ba_extract_size (s : ByteArray) (i j : Nat) (hj : j ≤ s.size) : (s.extract i j).size = j - i := by
  rw [ByteArray.size_extract]; omega
theorem ba_nil_data : (⟨#[]⟩ : ByteArray).data.toList = [] := rfl
theorem ba_size0 {s : ByteArray} (h : s.size = 0) : s = ⟨#[]⟩ := by
  apply ba_ext
  rw [ba_nil_data]
  exact List.eq_nil_of_length_eq_zero (by rw [data_length]; exact h)

theorem drop_bt (s : ByteArray) (i : Int) (h0 : 0 ≤ i) (h1 : i < s.size) : (bytesOf s).drop i.toNat = bt s i :: (bytesOf s).drop (i + 1).toNat := by
  have hl : i.toNat < (bytesOf s).length := by rw [bytesOf_length]; omega
  rw [List.drop_eq_getElem_cons hl, ← rd_bytesOf, show (i + 1).toNat = i.toNat + 1 by omega]
  congr 1
  unfold rd
  rw [List.getD_eq_getElem?_getD, List.getElem?_eq_getElem hl]; rfl

/-! CRC -/
/-- One bit of the register. -/
def cbit (r : Int) : Int := if r % 2 = 1 then Go.bits .xor .u32 (r / 2) 3988292384 else r / 2
def cbits : Nat → Int → Int
  | 0, r => r
  | j + 1, r => cbits j (cbit r)
/-- One byte. -/
def cbyte (r b : Int) : Int := cbits 8 (Go.bits .xor .u32 r b)
/-- The register behind some bytes. -/
def creg (r : Int) (l : List Int) : Int := l.foldl cbyte r
def u32ok (r : Int) : Prop := 0 ≤ r ∧ r < 4294967296
theorem u32_xor_ok (a b : Int) (ha : u32ok a) (hb : u32ok b) : u32ok (Go.bits .xor .u32 a b) := by
  rw [u32_xor a b ha.1 ha.2 hb.1 hb.2]
  have : a.toNat ^^^ b.toNat < 2 ^ 32 := Nat.xor_lt_two_pow (by have := ha.1; have := ha.2; omega) (by have := hb.1; have := hb.2; omega)
  unfold u32ok; omega
theorem u32_xor_comm (a b : Int) (ha : u32ok a) (hb : u32ok b) : Go.bits .xor .u32 a b = Go.bits .xor .u32 b a := by
  rw [u32_xor a b ha.1 ha.2 hb.1 hb.2, u32_xor b a hb.1 hb.2 ha.1 ha.2, Nat.xor_comm]
theorem u32_and1 (a : Int) (ha : u32ok a) : Go.bits .and .u32 a 1 = a % 2 := by
  have h := ha.1; have h2 := ha.2
  rw [u32_and a 1 h h2 (by omega) (by omega), show (1 : Int).toNat = 1 from rfl, Nat.and_one_is_mod]
  omega
theorem cbit_ok (r : Int) (h : u32ok r) : u32ok (cbit r) := by
  have h1 := h.1; have h2 := h.2
  unfold cbit
  split
  · exact u32_xor_ok _ _ ⟨by omega, by omega⟩ ⟨by omega, by omega⟩
  · exact ⟨by omega, by omega⟩
theorem cbits_ok : ∀ j r, u32ok r → u32ok (cbits j r)
  | 0, _, h => h
  | j + 1, r, h => cbits_ok j _ (cbit_ok r h)
theorem cbyte_ok (r b : Int) (hr : u32ok r) (hb : 0 ≤ b ∧ b ≤ 255) : u32ok (cbyte r b) :=
  cbits_ok 8 _ (u32_xor_ok _ _ hr ⟨by omega, by omega⟩)
theorem creg_ok : ∀ (l : List Int) (r : Int), u32ok r → (∀ x ∈ l, 0 ≤ x ∧ x ≤ 255) → u32ok (creg r l)
  | [], _, h, _ => h
  | b :: l, r, h, hl => creg_ok l _ (cbyte_ok r b h (hl b (by simp))) (fun x hx => hl x (by simp [hx]))
theorem bytesOf_range (s : ByteArray) : ∀ x ∈ bytesOf s, 0 ≤ x ∧ x ≤ 255 := by
  intro x hx
  obtain ⟨b, _, rfl⟩ := List.mem_map.1 hx
  have := b.toNat_lt
  omega
theorem xor_flip (r : Int) (h : u32ok r) : u32ok (Go.bits .xor .u32 r 4294967295) := u32_xor_ok _ _ h ⟨by omega, by omega⟩

theorem spec_l01Crc_l1 (s : ByteArray) (i : Int) (h0 : 0 ≤ i) (h1 : i < 4611686018427387904) : ∀ (j k : Nat) (r x : Int), u32ok r → x + j = 8 → 0 ≤ x →
    spec_l01Crc.l1 (k + j + 1) s r i x = spec_l01Crc.l0 k s (cbits j r) (i + 1)
  | 0, k, r, x, hr, hx, hx0 => by
    simp only [spec_l01Crc.l1]
    rw [if_neg (by omega), w64 (by omega) (by omega)]; rfl
  | j + 1, k, r, x, hr, hx, hx0 => by
    rw [show k + (j + 1) + 1 = (k + j + 1) + 1 by omega, spec_l01Crc.l1, if_pos (by omega), u32_and1 r hr, w64 (x := x + 1) (by omega) (by omega)]
    have ih := spec_l01Crc_l1 s i h0 h1 j k (cbit r) (x + 1) (cbit_ok r hr) (by omega) (by omega)
    by_cases h : r % 2 = 1
    · rw [if_pos h, show Go.bits .xor .u32 (r / 2) 3988292384 = cbit r by unfold cbit; rw [if_pos h], ih]; rfl
    · rw [if_neg h, show r / 2 = cbit r by unfold cbit; rw [if_neg h], ih]; rfl
theorem spec_l01Crc_l0 (s : ByteArray) (hs : s.size < 4611686018427387904) : ∀ (d k : Nat) (r i : Int), u32ok r → 0 ≤ i → i + d = s.size → 10 * d < k →
    spec_l01Crc.l0 k s r i = some (Go.bits .xor .u32 (creg r ((bytesOf s).drop i.toNat)) 4294967295)
  | 0, k, r, i, hr, h0, hd, hk => by
    obtain ⟨k, rfl⟩ : ∃ m, k = m + 1 := ⟨k - 1, by omega⟩
    simp only [spec_l01Crc.l0]
    have := xor_flip r hr
    rw [if_neg (by omega), List.drop_of_length_le (by rw [bytesOf_length]; omega), w64 (by have := this.1; omega) (by have := this.2; omega)]; rfl
  | d + 1, k, r, i, hr, h0, hd, hk => by
    obtain ⟨k, rfl⟩ : ∃ m, k = (m + 8 + 1) + 1 := ⟨k - 10, by omega⟩
    have hb := bt_range s i
    simp only [spec_l01Crc.l0]
    rw [if_pos (by omega), if_pos h0, show bt s i % 4294967296 = bt s i by omega,
      spec_l01Crc_l1 s i h0 (by omega) 8 k _ 0 (u32_xor_ok _ _ hr ⟨by omega, by omega⟩) (by omega) (by omega), show cbits 8 (Go.bits .xor .u32 r (bt s i)) = cbyte r (bt s i) from rfl,
      spec_l01Crc_l0 s hs d k _ (i + 1) (cbyte_ok r _ hr hb) (by omega) (by omega) (by omega), drop_bt s i h0 (by omega)]
    rfl
/-- CrcMore of a number and a text. -/
def crcP (c : Int) (s : ByteArray) : Int := Go.bits .xor .u32 (creg (Go.bits .xor .u32 c 4294967295) (bytesOf s)) 4294967295
theorem crcP_ok (c : Int) (s : ByteArray) (hc : u32ok c) : u32ok (crcP c s) := xor_flip _ (creg_ok _ _ (xor_flip c hc) (bytesOf_range s))
theorem spec_l01Crc_f (k : Nat) (c : Int) (s : ByteArray) (hs : s.size < 4611686018427387904) (hc : u32ok c) (hk : 10 * s.size < k) : spec_l01Crc.f k c s = some (crcP c s) := by
  unfold spec_l01Crc.f
  have h1 := hc.1; have h2 := hc.2
  rw [show c % 4294967296 = c by omega, spec_l01Crc_l0 s hs s.size k _ 0 (xor_flip c hc) (by omega) (by omega) hk]; rfl

theorem impl_register_l1 (s : ByteArray) (i : Int) (h0 : 0 ≤ i) (h1 : i < 4611686018427387904) : ∀ (j k : Nat) (r x : Int), u32ok r → x + j = 8 → 0 ≤ x →
    impl_register.l1 (k + j + 1) r s (s.size : Int) i x = impl_register.l0 k (cbits j r) s (s.size : Int) (i + 1)
  | 0, k, r, x, hr, hx, hx0 => by
    simp only [impl_register.l1]
    rw [if_neg (by omega), w64 (by omega) (by omega)]; rfl
  | j + 1, k, r, x, hr, hx, hx0 => by
    rw [show k + (j + 1) + 1 = (k + j + 1) + 1 by omega, impl_register.l1, if_pos (by omega), u32_and1 r hr, w64 (x := x + 1) (by omega) (by omega)]
    have ih := impl_register_l1 s i h0 h1 j k (cbit r) (x + 1) (cbit_ok r hr) (by omega) (by omega)
    by_cases h : r % 2 = 1
    · rw [if_pos h, show Go.bits .xor .u32 (r / 2) 3988292384 = cbit r by unfold cbit; rw [if_pos h], ih]; rfl
    · rw [if_neg h, show r / 2 = cbit r by unfold cbit; rw [if_neg h], ih]; rfl
theorem impl_register_l0 (s : ByteArray) (hs : s.size < 4611686018427387904) : ∀ (d k : Nat) (r i : Int), u32ok r → 0 ≤ i → i + d = s.size → 10 * d < k →
    impl_register.l0 k r s (s.size : Int) i = some (creg r ((bytesOf s).drop i.toNat))
  | 0, k, r, i, hr, h0, hd, hk => by
    obtain ⟨k, rfl⟩ : ∃ m, k = m + 1 := ⟨k - 1, by omega⟩
    simp only [impl_register.l0]
    rw [if_neg (by omega), List.drop_of_length_le (by rw [bytesOf_length]; omega)]; rfl
  | d + 1, k, r, i, hr, h0, hd, hk => by
    obtain ⟨k, rfl⟩ : ∃ m, k = (m + 8 + 1) + 1 := ⟨k - 10, by omega⟩
    have hb := bt_range s i
    simp only [impl_register.l0]
    rw [if_pos (by omega), if_pos h0, if_pos (by omega), show bt s i % 4294967296 = bt s i by omega,
      impl_register_l1 s i h0 (by omega) 8 k _ 0 (u32_xor_ok _ _ hr ⟨by omega, by omega⟩) (by omega) (by omega), show cbits 8 (Go.bits .xor .u32 r (bt s i)) = cbyte r (bt s i) from rfl,
      impl_register_l0 s hs d k _ (i + 1) (cbyte_ok r _ hr hb) (by omega) (by omega) (by omega), drop_bt s i h0 (by omega)]
    rfl
theorem impl_register_f (k : Nat) (r : Int) (s : ByteArray) (hs : s.size < 4611686018427387904) (hr : u32ok r) (hk : 10 * s.size < k) : impl_register.f k r s = some (creg r (bytesOf s)) := by
  unfold impl_register.f
  rw [impl_register_l0 s hs s.size k r 0 hr (by omega) (by omega) hk]; rfl

/-! Crc, CrcMore, Seal -/
def four (n : Int) : List Int := [n % 256, n / 256 % 256, n / 65536 % 256, n / 16777216 % 256]
def CrcP (s : ByteArray) : Int := if s.size > 8000 then 0 else crcP 0 s
def SealedP (s : ByteArray) : ByteArray := s ++ strOfNums (four (crcP 0 s))
def SealP (s : ByteArray) : ByteArray := if s.size > 7996 then ⟨#[]⟩ else SealedP s
def CrcMoreP (c : Int) (s : ByteArray) : Int := if s.size > 8000 ∨ c < 0 ∨ c > 4294967295 then 0 else crcP c s
theorem ok0 : u32ok 0 := ⟨by omega, by omega⟩
theorem okff : u32ok 4294967295 := ⟨by omega, by omega⟩
theorem xor_0ff : Go.bits .xor .u32 0 4294967295 = 4294967295 := by decide +kernel

theorem impl_crc_f (k : Nat) (s : ByteArray) (hs : s.size < 4611686018427387904) (hk : 10 * s.size < k) : impl_crc.f k s = some (crcP 0 s) := by
  unfold impl_crc.f crcP
  rw [impl_register_f k _ s hs okff hk, xor_0ff]
  simp only [Option.bind_some]
  rw [u32_xor_comm _ _ okff (creg_ok _ _ okff (bytesOf_range s))]
theorem impl_sealed_f (k : Nat) (s : ByteArray) (hs : s.size < 4611686018427387904) (hk : 10 * s.size < k) : impl_sealed.f k s = some (SealedP s) := by
  unfold impl_sealed.f SealedP
  rw [impl_crc_f k s hs hk]
  simp only [Option.bind_some]
  rw [strOfNums_size, if_pos (by simp only [List.length_cons, List.length_nil]; omega)]; rfl

/-! isLong -/
theorem impl_isLong_l0 (l : List ByteArray) (hl : l.length ≤ 4611686018427387904) : ∀ (d k : Nat) (i : Int), 0 ≤ i → i + d = l.length → d < k →
    impl_isLong.l0 k l (l.length : Int) i = some ((l.drop i.toNat).any fun t => decide (t.size > 8000))
  | 0, k, i, h0, hd, hk => by
    obtain ⟨k, rfl⟩ : ∃ m, k = m + 1 := ⟨k - 1, by omega⟩
    simp only [impl_isLong.l0]
    rw [if_neg (by omega), List.drop_of_length_le (by omega)]; rfl
  | d + 1, k, i, h0, hd, hk => by
    obtain ⟨k, rfl⟩ : ∃ m, k = m + 1 := ⟨k - 1, by omega⟩
    have hlt : i.toNat < l.length := by omega
    simp only [impl_isLong.l0]
    rw [if_pos (by omega), if_pos h0, if_pos (by omega), List.drop_eq_getElem_cons hlt, List.any_cons]
    have e : rdOf ByteArray.empty l i = l[i.toNat] := by unfold rdOf; rw [List.getD_eq_getElem?_getD, List.getElem?_eq_getElem hlt]; rfl
    rw [e]
    by_cases h : (l[i.toNat].size : Int) > 8000
    · rw [if_pos h, decide_eq_true (by omega)]; rfl
    · rw [if_neg h, decide_eq_false (by omega), w64 (by omega) (by omega), impl_isLong_l0 l hl d k (i + 1) (by omega) (by omega) (by omega), show (i + 1).toNat = i.toNat + 1 by omega]; rfl
theorem impl_isLong_f (l : List ByteArray) (hl : l.length ≤ 4611686018427387904) (k : Nat) (hk : l.length < k) : impl_isLong.f k l = some (l.any fun t => decide (t.size > 8000)) := by
  unfold impl_isLong.f
  rw [impl_isLong_l0 l hl l.length k 0 (by omega) (by omega) hk]; rfl

def UnsealP (s : ByteArray) : ByteArray × Int × Int :=
  if s.size > 8000 then (⟨#[]⟩, 0, 2) else if s.size < 4 then (⟨#[]⟩, 0, 4) else
    if strOfNums (four (crcP 0 (s.extract 0 (s.size - 4)))) = s.extract (s.size - 4) s.size then (s.extract 0 (s.size - 4), 0, 0) else (⟨#[]⟩, 0, 5)
theorem spec_Unseal_f (k : Nat) (s : ByteArray) (hk : 10 * s.size < k) : spec_Unseal.f k s = some (UnsealP s) := by
  unfold spec_Unseal.f UnsealP
  by_cases h : s.size > 8000
  · rw [if_pos h, if_pos (by omega)]
  · rw [if_neg h, if_neg (by omega)]
    by_cases h2 : s.size < 4
    · rw [if_pos h2, if_pos (by omega)]
    · have hz := ba_extract_size s 0 (s.size - 4) (by omega)
      rw [if_neg h2, if_neg (by omega), w64 (x := (s.size : Int) - 4) (by omega) (by omega), if_pos (by omega), if_pos (by omega), show ((s.size : Int) - 4).toNat = s.size - 4 by omega,
        spec_l01Crc_f k 0 _ (by omega) ok0 (by omega)]
      simp only [Option.bind_some, spec_l01Four.f, ba_inj]
      by_cases h3 : strOfNums (four (crcP 0 (s.extract 0 (s.size - 4)))) = s.extract (s.size - 4) s.size
      · rw [if_pos h3]; exact if_pos h3
      · rw [if_neg h3]; exact if_neg h3
theorem impl_Unseal_f (k : Nat) (s : ByteArray) (hs : s.size ≤ 1048576) (hk : 10 * s.size + 1 < k) : impl_Unseal.f k s = some (UnsealP s) := by
  unfold impl_Unseal.f UnsealP
  rw [impl_isLong_f [s] (by simp) k (by simp only [List.length_cons, List.length_nil]; omega)]
  simp only [Option.bind_some, List.any_cons, List.any_nil, Bool.or_false]
  by_cases h : s.size > 8000
  · rw [if_pos (by simpa using h), if_pos h]
  · rw [if_neg (by simpa using h), if_neg h, w64 (x := (s.size : Int) - 4) (by omega) (by omega)]
    by_cases h2 : s.size < 4
    · rw [if_pos h2, if_pos (by omega)]
    · have hz := ba_extract_size s 0 (s.size - 4) (by omega)
      rw [if_neg h2, if_neg (by omega), if_pos (by omega), if_pos (by omega), show ((s.size : Int) - 4).toNat = s.size - 4 by omega,
        impl_sealed_f k _ (by omega) (by omega)]
      simp only [Option.bind_some, ba_inj]
      unfold SealedP
      have key : s.extract 0 (s.size - 4) ++ strOfNums (four (crcP 0 (s.extract 0 (s.size - 4)))) = s ↔ strOfNums (four (crcP 0 (s.extract 0 (s.size - 4)))) = s.extract (s.size - 4) s.size := by
        have e := ba_split s (s.size - 4)
        constructor
        · intro h; exact ba_append_inj.1 (h.trans e.symm)
        · intro h; rw [h]; exact e
      by_cases h3 : strOfNums (four (crcP 0 (s.extract 0 (s.size - 4)))) = s.extract (s.size - 4) s.size
      · rw [if_pos h3]; exact if_pos (key.2 h3)
      · rw [if_neg h3]; exact if_neg (fun x => h3 (key.1 x))
theorem FnExactUnseal : laws_FnExactUnseal.Pure := by
  intro a ha
  refine ⟨10 * a.size + 3, ?_⟩
  unfold laws_FnExactUnseal.f
  by_cases h : (a.size : Int) > 1048576
  · rw [if_pos h]
  · rw [if_neg h, spec_Unseal_f _ a (by omega), impl_Unseal_f _ a (by omega) (by omega)]
    simp [laws_eqTextOut.f]

end Go.Proofs.Yticbafilcicdjaa.Pure
