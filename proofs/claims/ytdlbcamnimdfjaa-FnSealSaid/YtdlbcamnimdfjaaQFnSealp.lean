/- The law FnSeal answers true at every two codes: what Seal gives is the reference's; unsealed it gives the text again, and with any one byte turned it is refused as of a wrong sum; CrcMore goes on where Crc stopped. No condition. -/
import Derived.Test.YtdlbcamnimdfjaaQFnSealx3
import Derived.Laws.Bits64
import Derived.Lib.Strings
import Derived.Laws.BitsAllLaws
namespace Go.Proofs.Ytdlbcamnimdfjaa.Pure
open Go.RowKit Go.Proofs.Ytdlbcamnimdfjaa.PFnSeal Go.Proofs.YtdlbcamnimdfjaaW.PrintWords Go.Proofs.YtdlbcamnimdfjaaW.PrintLast
set_option linter.unusedVariables false
set_option linter.unusedSimpArgs false

/-! plain lemmas -/
theorem w64 {x : Int} (h0 : -9223372036854775808 ≤ x) (h1 : x ≤ 9223372036854775807) : wrap64 x = x := by unfold wrap64; omega
theorem u64w {x : Int} (h0 : 0 ≤ x) (h1 : x < 18446744073709551616) : IntKind.u64.wrap x = x := by rw [IntKind.wrap_u64]; omega
theorem ba_append_size (a b : ByteArray) : (a ++ b).size = a.size + b.size := by simp
theorem ba_ext {a b : ByteArray} (h : a.data.toList = b.data.toList) : a = b := ByteArray.ext (Array.toList_inj.1 h)
theorem ba_inj {a b : ByteArray} : a.toList = b.toList ↔ a = b :=
  ⟨fun h => ba_ext (by rwa [Go.Lib.toList_data, Go.Lib.toList_data] at h), fun h => by rw [h]⟩
theorem ba_data_append (a b : ByteArray) : (a ++ b).data.toList = a.data.toList ++ b.data.toList := by simp
theorem ba_data_extract (s : ByteArray) (i j : Nat) : (s.extract i j).data.toList = (s.data.toList.drop i).take (j - i) := Go.Lib.extract_data s i j
theorem ba_split (s : ByteArray) (m : Nat) : s.extract 0 m ++ s.extract m s.size = s := by
  apply ba_ext
  rw [ba_data_append, ba_data_extract, ba_data_extract, Nat.sub_zero, List.drop_zero]
  rw [List.take_of_length_le (l := s.data.toList.drop m) (by rw [List.length_drop, data_length]; omega), List.take_append_drop]
theorem ba_append_inj {a b c : ByteArray} : a ++ b = a ++ c ↔ b = c := by
  constructor
  · intro h
    have h2 := congrArg (fun x : ByteArray => x.data.toList) h
    simp only [ba_data_append] at h2
    exact ba_ext (List.append_cancel_left h2)
  · intro h; rw [h]
theorem son_bytesOf (s : ByteArray) : strOfNums (bytesOf s) = s := by
  apply ba_ext
  rw [strOfNums_data, bytesOf, List.map_map]
  conv => rhs; rw [← List.map_id s.data.toList]
  apply List.map_congr_left
  intro b _
  simp
theorem ext_son (s : ByteArray) (i j : Nat) : s.extract i j = strOfNums (((bytesOf s).drop i).take (j - i)) := by
  apply ba_ext
  rw [ba_data_extract, strOfNums_data, List.map_take, List.map_drop]
  congr 2
  have := congrArg (fun x : ByteArray => x.data.toList) (son_bytesOf s)
  simp only [strOfNums_data] at this
  exact this.symm
theorem ba_extract_size (s : ByteArray) (i j : Nat) (hj : j ≤ s.size) : (s.extract i j).size = j - i := by
  rw [ByteArray.size_extract]; omega
theorem bytesOf_son (l : List Int) (h : ∀ x ∈ l, 0 ≤ x ∧ x ≤ 255) : bytesOf (strOfNums l) = l := by
  unfold bytesOf
  rw [strOfNums_data, List.map_map]
  conv => rhs; rw [← List.map_id l]
  apply List.map_congr_left
  intro x hx
  have := h x hx
  simp only [Function.comp, id]
  rw [UInt8.toNat_ofNat']
  omega

theorem drop_bt (s : ByteArray) (i : Int) (h0 : 0 ≤ i) (h1 : i < s.size) : (bytesOf s).drop i.toNat = bt s i :: (bytesOf s).drop (i + 1).toNat := by
  have hl : i.toNat < (bytesOf s).length := by rw [bytesOf_length]; omega
  rw [List.drop_eq_getElem_cons hl, ← rd_bytesOf, show (i + 1).toNat = i.toNat + 1 by omega]
  congr 1
  unfold rd
  rw [List.getD_eq_getElem?_getD, List.getElem?_eq_getElem hl]; rfl

/-! isLong -/
theorem impl_isLong_l0 (l : List ByteArray) (hl : l.length ≤ 4611686018427387904) : ∀ (d k : Nat) (i : Int), 0 ≤ i → i + d = l.length → d < k →
    impl_isLong.l0 k l (l.length : Int) i = some ((l.drop i.toNat).any fun t => decide (t.size > 8000))
  | 0, k, i, h0, hd, hk => by
    obtain ⟨k, rfl⟩ : ∃ m, k = m + 1 := ⟨k - 1, by omega⟩
    simp only [impl_isLong.l0]
    rw [if_neg (by omega), List.drop_of_length_le (by omega)]; rfl
  | d + 1, k, i, h0, hd, hk => by
    obtain ⟨k, rfl⟩ : ∃ m, k = m + 1 := ⟨k - 1, by omega⟩
    have hlt : i.toNat < l.length := by omega
    simp only [impl_isLong.l0]
    rw [if_pos (by omega), if_pos h0, if_pos (by omega), List.drop_eq_getElem_cons hlt, List.any_cons]
    have e : rdOf ByteArray.empty l i = l[i.toNat] := by unfold rdOf; rw [List.getD_eq_getElem?_getD, List.getElem?_eq_getElem hlt]; rfl
    rw [e]
    by_cases h : (l[i.toNat].size : Int) > 8000
    · rw [if_pos h, decide_eq_true (by omega)]; rfl
    · rw [if_neg h, decide_eq_false (by omega), w64 (by omega) (by omega), impl_isLong_l0 l hl d k (i + 1) (by omega) (by omega) (by omega), show (i + 1).toNat = i.toNat + 1 by omega]; rfl
theorem impl_isLong_f (l : List ByteArray) (hl : l.length ≤ 4611686018427387904) (k : Nat) (hk : l.length < k) : impl_isLong.f k l = some (l.any fun t => decide (t.size > 8000)) := by
  unfold impl_isLong.f
  rw [impl_isLong_l0 l hl l.length k 0 (by omega) (by omega) hk]; rfl

/-! the draws -/
def SrcOK (b : List Int) (a m : Int) : Prop := b.length ≤ 140737488351232 ∧ (∀ x ∈ b, 0 ≤ x ∧ x ≤ 255) ∧ 0 ≤ a ∧ a ≤ b.length ∧ 0 ≤ m ∧ m < 18446744073709551616
theorem u64_bits_range (op : BinOp) (x y : Int) : 0 ≤ Go.bits op .u64 x y ∧ Go.bits op .u64 x y < 18446744073709551616 := by
  unfold Go.bits
  rw [IntKind.wrap_u64]
  omega
theorem wf_u8 {n : Int} (h : (Lit.int .u8 n).wf = true) : 0 ≤ n ∧ n ≤ 255 := by
  simpa [Lit.wf, IntKind.min, IntKind.max, IntKind.bits, IntKind.signed] using h
theorem draw_n (b : List Int) (a m z most : Int) (h : SrcOK b a m) (h1 : most ≤ 9223372036854775807) :
    ∃ r a' m', spec_l01Src_n.f b a m z most = some (r, a', m', z) ∧ 0 ≤ r ∧ (1 ≤ most → r < most) ∧ SrcOK b a' m' := by
  obtain ⟨hb, hr, ha0, ha1, hm0, hm1⟩ := h
  unfold spec_l01Src_n.f
  by_cases hm : most ≤ 1
  · rw [if_pos hm]
    exact ⟨0, a, m, rfl, by omega, by omega, hb, hr, ha0, ha1, hm0, hm1⟩
  · rw [if_neg hm]
    have hw : IntKind.u64.wrap most = most := u64w (by omega) (by omega)
    have fin : ∀ X : Int, 0 ≤ X → wrap64 (Int.tmod X most) = X % most ∧ 0 ≤ X % most ∧ X % most < most := by
      intro X hX
      have h3 : 0 ≤ X % most := Int.emod_nonneg _ (by omega)
      have h4 : X % most < most := Int.emod_lt_of_pos _ (by omega)
      rw [Int.tmod_eq_emod_of_nonneg hX]
      exact ⟨w64 (by omega) (by omega), h3, h4⟩
    have uw : ∀ x : Int, 0 ≤ IntKind.u64.wrap x := fun x => by rw [IntKind.wrap_u64]; omega
    generalize hM : Go.bits .xor .u64 (Go.bits .xor .u64 (Go.bits .xor .u64 m (IntKind.u64.wrap (m * 8192))) ((Go.bits .xor .u64 m (IntKind.u64.wrap (m * 8192))) / 128)) (IntKind.u64.wrap ((Go.bits .xor .u64 (Go.bits .xor .u64 m (IntKind.u64.wrap (m * 8192))) ((Go.bits .xor .u64 m (IntKind.u64.wrap (m * 8192))) / 128)) * 131072)) = M
    have hMr : 0 ≤ M ∧ M < 18446744073709551616 := by rw [← hM]; exact u64_bits_range _ _ _
    rw [hw, if_neg (show ¬ most = 0 by omega), if_neg (show ¬ most = 0 by omega)]
    by_cases hl : a < (b.length : Int)
    · rw [if_pos hl, if_pos ha0, w64 (x := a + 1) (by omega) (by omega)]
      obtain ⟨e, e0, e1⟩ := fin (IntKind.u64.wrap (IntKind.u64.wrap (rd b a) + M / 1048576)) (uw _)
      rw [e]
      exact ⟨_, _, _, rfl, e0, fun _ => e1, hb, hr, by omega, by omega, hMr.1, hMr.2⟩
    · rw [if_neg hl]
      obtain ⟨e, e0, e1⟩ := fin (IntKind.u64.wrap (0 + M / 1048576)) (uw _)
      rw [e]
      exact ⟨_, _, _, rfl, e0, fun _ => e1, hb, hr, ha0, ha1, hMr.1, hMr.2⟩
theorem draw_source_l0 (l : List Int) : ∀ (d k : Nat) (i m : Int), 0 ≤ i → i + d = 64 → d < k → 0 ≤ m → m < 18446744073709551616 →
    ∃ m' z', spec_l01Source.l0 k l i l 0 m 0 = some (l, 0, m', z') ∧ 0 ≤ m' ∧ m' < 18446744073709551616
  | d, k, i, m, h0, hd, hk, hm0, hm1 => by
    obtain ⟨k, rfl⟩ : ∃ q, k = q + 1 := ⟨k - 1, by omega⟩
    rw [spec_l01Source.l0]
    have fin : ∀ X : Int, ∃ m' z', (if X > 12 then some (l, (0 : Int), m, (12 : Int)) else some (l, (0 : Int), m, X)) = some (l, 0, m', z') ∧ 0 ≤ m' ∧ m' < 18446744073709551616 := by
      intro X
      split
      · exact ⟨m, _, rfl, hm0, hm1⟩
      · exact ⟨m, _, rfl, hm0, hm1⟩
    by_cases hl : i < (l.length : Int)
    · rw [if_pos hl]
      by_cases h64 : i < 64
      · rw [if_pos h64, if_pos h0, w64 (x := i + 1) (by omega) (by omega)]
        cases d with
        | zero => omega
        | succ d =>
          have hr : ∀ x : Int, 0 ≤ IntKind.u64.wrap x ∧ IntKind.u64.wrap x < 18446744073709551616 := fun x => by rw [IntKind.wrap_u64]; omega
          exact draw_source_l0 l d k (i + 1) _ (by omega) (by omega) (by omega) (hr _).1 (hr _).2
      · rw [if_neg h64]; exact fin _
    · rw [if_neg hl]; exact fin _
theorem draw_source (l : List Int) (hl : l.length ≤ 140737488351232) (hr : ∀ x ∈ l, 0 ≤ x ∧ x ≤ 255) (k : Nat) (hk : 65 ≤ k) :
    ∃ m z, spec_l01Source.f k l = some (l, 0, m, z) ∧ SrcOK l 0 m := by
  obtain ⟨m, z, e, h0, h1⟩ := draw_source_l0 l 64 k 0 88172645463325252 (by omega) (by omega) (by omega) (by omega) (by omega)
  exact ⟨m, z, e, hl, hr, by omega, by omega, h0, h1⟩
theorem draw_one (b : List Int) (a m z most : Int) (h : SrcOK b a m) (h1 : most ≤ 9223372036854775807) :
    ∃ r a' m', spec_l01Src_one.f b a m z most = some (r, a', m', z) ∧ SrcOK b a' m' := by
  obtain ⟨r, a', m', e, _, _, h'⟩ := draw_n b a m z most h h1
  unfold spec_l01Src_one.f
  rw [e]
  exact ⟨_, _, _, rfl, h'⟩

/-! draws: an edge number, some bytes -/
theorem draw_edge (b : List Int) (a m z : Int) (h : SrcOK b a m) : ∃ r a' m', spec_l01Src_edge.f b a m z = some (r, a', m', z) ∧ -9223372036854775808 ≤ r ∧ r ≤ 9223372036854775807 ∧ SrcOK b a' m' := by
  obtain ⟨r, a', m', e, r0, r1, h'⟩ := draw_n b a m z 14 h (by omega)
  have r1 := r1 (by omega)
  unfold spec_l01Src_edge.f
  simp only [Option.bind_some, e]
  rw [if_pos r0, if_pos (show r < ((List.length [(0 : Int), 1, -1, 2, 1000, 1001, 2147483648, 2147483647, -2147483648, 4611686018427387904, 9223372036854775807, -9223372036854775808, 1000000, 1000001] : Nat) : Int) from r1)]
  refine ⟨_, _, _, rfl, ?_⟩
  have key : ∀ i : Fin 14, -9223372036854775808 ≤ rd [0, 1, (-1), 2, 1000, 1001, 2147483648, 2147483647, (-2147483648), 4611686018427387904, 9223372036854775807, (-9223372036854775808), 1000000, 1000001] (i.val : Int) ∧ rd [0, 1, (-1), 2, 1000, 1001, 2147483648, 2147483647, (-2147483648), 4611686018427387904, 9223372036854775807, (-9223372036854775808), 1000000, 1000001] (i.val : Int) ≤ 9223372036854775807 := by decide +kernel
  have k2 := key ⟨r.toNat, by omega⟩
  simp only [Int.toNat_of_nonneg r0] at k2
  exact ⟨k2.1, k2.2, h'⟩
theorem draw_bytes_l0 (b : List Int) (z n : Int) (hn : n ≤ 1000) : ∀ (d k : Nat) (g : List Int) (i a m : Int), SrcOK b a m → 0 ≤ i → i + d = n → d < k → g.length = i →
    ∃ t a' m', spec_l01Src_bytes.l0 k n g i b a m z = some (t, a', m', z) ∧ (t.size : Int) = n ∧ SrcOK b a' m'
  | 0, k, g, i, a, m, h, h0, hd, hk, hg => by
    obtain ⟨k, rfl⟩ : ∃ q, k = q + 1 := ⟨k - 1, by omega⟩
    rw [spec_l01Src_bytes.l0, if_neg (by omega)]
    exact ⟨_, _, _, rfl, by rw [strOfNums_size]; omega, h⟩
  | d + 1, k, g, i, a, m, h, h0, hd, hk, hg => by
    obtain ⟨k, rfl⟩ : ∃ q, k = q + 1 := ⟨k - 1, by omega⟩
    obtain ⟨r, a1, m1, e1, r0, r1, h1⟩ := draw_n b a m z 256 h (by omega)
    rw [spec_l01Src_bytes.l0, if_pos (by omega), e1]
    simp only [Option.bind_some]
    rw [if_pos (by omega), w64 (x := i + 1) (by omega) (by omega)]
    exact draw_bytes_l0 b z n hn d k _ (i + 1) a1 m1 h1 (by omega) (by omega) (by omega) (by rw [List.length_append, List.length_singleton]; omega)

/-! lwAt: a number below m out of a list of bytes -/
theorem lwAt_f (l : List Int) (hl : l.length ≤ 140737488351232) (hr : ∀ x ∈ l, 0 ≤ x ∧ x ≤ 255) (i : Int) (h0 : 0 ≤ i) (m : Int) (h1 : 1 < m) : ∃ v, laws_lwAt.f l i m = some v ∧ 0 ≤ v ∧ v < m := by
  unfold laws_lwAt.f
  rw [if_neg (by omega)]
  by_cases h : (l.length : Int) = 0
  · rw [if_pos h]; exact ⟨0, rfl, by omega, by omega⟩
  · have hp : 0 < (l.length : Int) := by omega
    have a0 := Int.tmod_nonneg (l.length : Int) h0
    have a1 := Int.tmod_lt_of_pos i hp
    rw [if_neg h, if_pos a0, if_pos a1, if_neg (by omega)]
    obtain ⟨q, hq⟩ : ∃ q, rd l (Int.tmod i (l.length : Int)) = q := ⟨_, rfl⟩
    have hm : 0 ≤ q ∧ q ≤ 255 := by
      rw [← hq]
      have hlt : (Int.tmod i (l.length : Int)).toNat < l.length := by omega
      have e : rd l (Int.tmod i (l.length : Int)) = l[(Int.tmod i (l.length : Int)).toNat] := by
        unfold rd; rw [List.getD_eq_getElem?_getD, List.getElem?_eq_getElem hlt]; rfl
      rw [e]; exact hr _ (List.getElem_mem hlt)
    rw [hq, w64 (x := q) (by omega) (by omega)]
    exact ⟨_, rfl, Int.tmod_nonneg m hm.1, Int.tmod_lt_of_pos q (by omega)⟩

/-! CRC -/
/-- One bit of the register. -/
def cbit (r : Int) : Int := if r % 2 = 1 then Go.bits .xor .u32 (r / 2) 3988292384 else r / 2
def cbits : Nat → Int → Int
  | 0, r => r
  | j + 1, r => cbits j (cbit r)
/-- One byte. -/
def cbyte (r b : Int) : Int := cbits 8 (Go.bits .xor .u32 r b)
/-- The register behind some bytes. -/
def creg (r : Int) (l : List Int) : Int := l.foldl cbyte r
def u32ok (r : Int) : Prop := 0 ≤ r ∧ r < 4294967296
theorem u32_xor_ok (a b : Int) (ha : u32ok a) (hb : u32ok b) : u32ok (Go.bits .xor .u32 a b) := by
  rw [u32_xor a b ha.1 ha.2 hb.1 hb.2]
  have : a.toNat ^^^ b.toNat < 2 ^ 32 := Nat.xor_lt_two_pow (by have := ha.1; have := ha.2; omega) (by have := hb.1; have := hb.2; omega)
  unfold u32ok; omega
theorem u32_xor_comm (a b : Int) (ha : u32ok a) (hb : u32ok b) : Go.bits .xor .u32 a b = Go.bits .xor .u32 b a := by
  rw [u32_xor a b ha.1 ha.2 hb.1 hb.2, u32_xor b a hb.1 hb.2 ha.1 ha.2, Nat.xor_comm]
theorem u32_and1 (a : Int) (ha : u32ok a) : Go.bits .and .u32 a 1 = a % 2 := by
  have h := ha.1; have h2 := ha.2
  rw [u32_and a 1 h h2 (by omega) (by omega), show (1 : Int).toNat = 1 from rfl, Nat.and_one_is_mod]
  omega
theorem cbit_ok (r : Int) (h : u32ok r) : u32ok (cbit r) := by
  have h1 := h.1; have h2 := h.2
  unfold cbit
  split
  · exact u32_xor_ok _ _ ⟨by omega, by omega⟩ ⟨by omega, by omega⟩
  · exact ⟨by omega, by omega⟩
theorem cbits_ok : ∀ j r, u32ok r → u32ok (cbits j r)
  | 0, _, h => h
  | j + 1, r, h => cbits_ok j _ (cbit_ok r h)
theorem cbyte_ok (r b : Int) (hr : u32ok r) (hb : 0 ≤ b ∧ b ≤ 255) : u32ok (cbyte r b) :=
  cbits_ok 8 _ (u32_xor_ok _ _ hr ⟨by omega, by omega⟩)
theorem creg_ok : ∀ (l : List Int) (r : Int), u32ok r → (∀ x ∈ l, 0 ≤ x ∧ x ≤ 255) → u32ok (creg r l)
  | [], _, h, _ => h
  | b :: l, r, h, hl => creg_ok l _ (cbyte_ok r b h (hl b (by simp))) (fun x hx => hl x (by simp [hx]))
theorem bytesOf_range (s : ByteArray) : ∀ x ∈ bytesOf s, 0 ≤ x ∧ x ≤ 255 := by
  intro x hx
  obtain ⟨b, _, rfl⟩ := List.mem_map.1 hx
  have := b.toNat_lt
  omega
theorem xor_flip (r : Int) (h : u32ok r) : u32ok (Go.bits .xor .u32 r 4294967295) := u32_xor_ok _ _ h ⟨by omega, by omega⟩

theorem spec_l01Crc_l1 (s : ByteArray) (i : Int) (h0 : 0 ≤ i) (h1 : i < 4611686018427387904) : ∀ (j k : Nat) (r x : Int), u32ok r → x + j = 8 → 0 ≤ x →
    spec_l01Crc.l1 (k + j + 1) s r i x = spec_l01Crc.l0 k s (cbits j r) (i + 1)
  | 0, k, r, x, hr, hx, hx0 => by
    simp only [spec_l01Crc.l1]
    rw [if_neg (by omega), w64 (by omega) (by omega)]; rfl
  | j + 1, k, r, x, hr, hx, hx0 => by
    rw [show k + (j + 1) + 1 = (k + j + 1) + 1 by omega, spec_l01Crc.l1, if_pos (by omega), u32_and1 r hr, w64 (x := x + 1) (by omega) (by omega)]
    have ih := spec_l01Crc_l1 s i h0 h1 j k (cbit r) (x + 1) (cbit_ok r hr) (by omega) (by omega)
    by_cases h : r % 2 = 1
    · rw [if_pos h, show Go.bits .xor .u32 (r / 2) 3988292384 = cbit r by unfold cbit; rw [if_pos h], ih]; rfl
    · rw [if_neg h, show r / 2 = cbit r by unfold cbit; rw [if_neg h], ih]; rfl
theorem spec_l01Crc_l0 (s : ByteArray) (hs : s.size < 4611686018427387904) : ∀ (d k : Nat) (r i : Int), u32ok r → 0 ≤ i → i + d = s.size → 10 * d < k →
    spec_l01Crc.l0 k s r i = some (Go.bits .xor .u32 (creg r ((bytesOf s).drop i.toNat)) 4294967295)
  | 0, k, r, i, hr, h0, hd, hk => by
    obtain ⟨k, rfl⟩ : ∃ m, k = m + 1 := ⟨k - 1, by omega⟩
    simp only [spec_l01Crc.l0]
    have := xor_flip r hr
    rw [if_neg (by omega), List.drop_of_length_le (by rw [bytesOf_length]; omega), w64 (by have := this.1; omega) (by have := this.2; omega)]; rfl
  | d + 1, k, r, i, hr, h0, hd, hk => by
    obtain ⟨k, rfl⟩ : ∃ m, k = (m + 8 + 1) + 1 := ⟨k - 10, by omega⟩
    have hb := bt_range s i
    simp only [spec_l01Crc.l0]
    rw [if_pos (by omega), if_pos h0, show bt s i % 4294967296 = bt s i by omega,
      spec_l01Crc_l1 s i h0 (by omega) 8 k _ 0 (u32_xor_ok _ _ hr ⟨by omega, by omega⟩) (by omega) (by omega), show cbits 8 (Go.bits .xor .u32 r (bt s i)) = cbyte r (bt s i) from rfl,
      spec_l01Crc_l0 s hs d k _ (i + 1) (cbyte_ok r _ hr hb) (by omega) (by omega) (by omega), drop_bt s i h0 (by omega)]
    rfl
/-- CrcMore of a number and a text. -/
def crcP (c : Int) (s : ByteArray) : Int := Go.bits .xor .u32 (creg (Go.bits .xor .u32 c 4294967295) (bytesOf s)) 4294967295
theorem crcP_ok (c : Int) (s : ByteArray) (hc : u32ok c) : u32ok (crcP c s) := xor_flip _ (creg_ok _ _ (xor_flip c hc) (bytesOf_range s))
theorem spec_l01Crc_f (k : Nat) (c : Int) (s : ByteArray) (hs : s.size < 4611686018427387904) (hc : u32ok c) (hk : 10 * s.size < k) : spec_l01Crc.f k c s = some (crcP c s) := by
  unfold spec_l01Crc.f
  have h1 := hc.1; have h2 := hc.2
  rw [show c % 4294967296 = c by omega, spec_l01Crc_l0 s hs s.size k _ 0 (xor_flip c hc) (by omega) (by omega) hk]; rfl

theorem impl_register_l1 (s : ByteArray) (i : Int) (h0 : 0 ≤ i) (h1 : i < 4611686018427387904) : ∀ (j k : Nat) (r x : Int), u32ok r → x + j = 8 → 0 ≤ x →
    impl_register.l1 (k + j + 1) r s (s.size : Int) i x = impl_register.l0 k (cbits j r) s (s.size : Int) (i + 1)
  | 0, k, r, x, hr, hx, hx0 => by
    simp only [impl_register.l1]
    rw [if_neg (by omega), w64 (by omega) (by omega)]; rfl
  | j + 1, k, r, x, hr, hx, hx0 => by
    rw [show k + (j + 1) + 1 = (k + j + 1) + 1 by omega, impl_register.l1, if_pos (by omega), u32_and1 r hr, w64 (x := x + 1) (by omega) (by omega)]
    have ih := impl_register_l1 s i h0 h1 j k (cbit r) (x + 1) (cbit_ok r hr) (by omega) (by omega)
    by_cases h : r % 2 = 1
    · rw [if_pos h, show Go.bits .xor .u32 (r / 2) 3988292384 = cbit r by unfold cbit; rw [if_pos h], ih]; rfl
    · rw [if_neg h, show r / 2 = cbit r by unfold cbit; rw [if_neg h], ih]; rfl
theorem impl_register_l0 (s : ByteArray) (hs : s.size < 4611686018427387904) : ∀ (d k : Nat) (r i : Int), u32ok r → 0 ≤ i → i + d = s.size → 10 * d < k →
    impl_register.l0 k r s (s.size : Int) i = some (creg r ((bytesOf s).drop i.toNat))
  | 0, k, r, i, hr, h0, hd, hk => by
    obtain ⟨k, rfl⟩ : ∃ m, k = m + 1 := ⟨k - 1, by omega⟩
    simp only [impl_register.l0]
    rw [if_neg (by omega), List.drop_of_length_le (by rw [bytesOf_length]; omega)]; rfl
  | d + 1, k, r, i, hr, h0, hd, hk => by
    obtain ⟨k, rfl⟩ : ∃ m, k = (m + 8 + 1) + 1 := ⟨k - 10, by omega⟩
    have hb := bt_range s i
    simp only [impl_register.l0]
    rw [if_pos (by omega), if_pos h0, if_pos (by omega), show bt s i % 4294967296 = bt s i by omega,
      impl_register_l1 s i h0 (by omega) 8 k _ 0 (u32_xor_ok _ _ hr ⟨by omega, by omega⟩) (by omega) (by omega), show cbits 8 (Go.bits .xor .u32 r (bt s i)) = cbyte r (bt s i) from rfl,
      impl_register_l0 s hs d k _ (i + 1) (cbyte_ok r _ hr hb) (by omega) (by omega) (by omega), drop_bt s i h0 (by omega)]
    rfl
theorem impl_register_f (k : Nat) (r : Int) (s : ByteArray) (hs : s.size < 4611686018427387904) (hr : u32ok r) (hk : 10 * s.size < k) : impl_register.f k r s = some (creg r (bytesOf s)) := by
  unfold impl_register.f
  rw [impl_register_l0 s hs s.size k r 0 hr (by omega) (by omega) hk]; rfl

/-! Crc, CrcMore, Seal -/
def four (n : Int) : List Int := [n % 256, n / 256 % 256, n / 65536 % 256, n / 16777216 % 256]
def CrcP (s : ByteArray) : Int := if s.size > 8000 then 0 else crcP 0 s
def SealedP (s : ByteArray) : ByteArray := s ++ strOfNums (four (crcP 0 s))
def SealP (s : ByteArray) : ByteArray := if s.size > 7996 then ⟨#[]⟩ else SealedP s
def CrcMoreP (c : Int) (s : ByteArray) : Int := if s.size > 8000 ∨ c < 0 ∨ c > 4294967295 then 0 else crcP c s
theorem ok0 : u32ok 0 := ⟨by omega, by omega⟩
theorem okff : u32ok 4294967295 := ⟨by omega, by omega⟩
theorem xor_0ff : Go.bits .xor .u32 0 4294967295 = 4294967295 := by decide +kernel

theorem spec_Seal_f (k : Nat) (s : ByteArray) (hk : 10 * s.size < k) : spec_Seal.f k s = some (SealP s) := by
  unfold spec_Seal.f SealP
  by_cases h : s.size > 7996
  · rw [if_pos h, if_pos (by omega)]
  · rw [if_neg h, if_neg (by omega), spec_l01Crc_f k 0 s (by omega) ok0 hk]
    simp only [Option.bind_some, spec_l01Four.f]
    rw [strOfNums_size, if_pos (by simp only [List.length_cons, List.length_nil]; omega)]; rfl

theorem impl_crc_f (k : Nat) (s : ByteArray) (hs : s.size < 4611686018427387904) (hk : 10 * s.size < k) : impl_crc.f k s = some (crcP 0 s) := by
  unfold impl_crc.f crcP
  rw [impl_register_f k _ s hs okff hk, xor_0ff]
  simp only [Option.bind_some]
  rw [u32_xor_comm _ _ okff (creg_ok _ _ okff (bytesOf_range s))]
theorem impl_sealed_f (k : Nat) (s : ByteArray) (hs : s.size < 4611686018427387904) (hk : 10 * s.size < k) : impl_sealed.f k s = some (SealedP s) := by
  unfold impl_sealed.f SealedP
  rw [impl_crc_f k s hs hk]
  simp only [Option.bind_some]
  rw [strOfNums_size, if_pos (by simp only [List.length_cons, List.length_nil]; omega)]; rfl

theorem impl_Seal_f (k : Nat) (s : ByteArray) (hk : 10 * s.size < k) : impl_Seal.f k s = some (SealP s) := by
  unfold impl_Seal.f SealP
  by_cases h : s.size > 7996
  · rw [if_pos h, if_pos (by omega)]
  · rw [if_neg h, if_neg (by omega), impl_sealed_f k s (by omega) hk]; rfl

theorem spec_CrcMore_f (k : Nat) (c : Int) (s : ByteArray) (hk : 10 * s.size < k) : spec_CrcMore.f k c s = some (CrcMoreP c s) := by
  unfold spec_CrcMore.f CrcMoreP
  by_cases h : s.size > 8000
  · rw [if_pos (by omega), if_pos (.inl h)]
  · rw [if_neg (by omega)]
    by_cases h1 : c < 0
    · rw [if_pos h1, if_pos (.inr (.inl h1))]
    · rw [if_neg h1]
      by_cases h2 : c > 4294967295
      · rw [if_pos h2, if_pos (.inr (.inr h2))]
      · rw [if_neg h2, if_neg (by omega), spec_l01Crc_f k c s (by omega) ⟨by omega, by omega⟩ hk]; rfl

theorem impl_CrcMore_f (k : Nat) (c : Int) (s : ByteArray) (hk : 10 * s.size + 1 < k) : impl_CrcMore.f k c s = some (CrcMoreP c s) := by
  unfold impl_CrcMore.f CrcMoreP impl_between.f
  rw [impl_isLong_f [s] (by simp) k (by simp only [List.length_cons, List.length_nil]; omega)]
  simp only [Option.bind_some, List.any_cons, List.any_nil, Bool.or_false]
  by_cases h : s.size > 8000
  · rw [if_pos (by simpa using h), if_pos (.inl h)]
  · rw [if_neg (by simpa using h)]
    by_cases h1 : c ≥ 0
    · rw [if_pos h1]
      simp only [Option.bind_some, decide_eq_true_eq]
      by_cases h2 : c ≤ 4294967295
      · have hc : u32ok c := ⟨by omega, by omega⟩
        have hx := xor_flip c hc
        rw [if_pos h2, if_neg (by omega), show c % 4294967296 = c by omega, u32_xor_comm _ _ okff hc, impl_register_f k _ s (by omega) hx (by omega)]
        simp only [Option.bind_some]
        have hr := creg_ok _ _ hx (bytesOf_range s)
        have ho := xor_flip _ hr
        rw [u32_xor_comm _ _ okff hr, w64 (by have := ho.1; omega) (by have := ho.2; omega)]; rfl
      · rw [if_neg h2, if_pos (by omega)]
    · rw [if_neg h1]
      simp only [Option.bind_some]
      rw [if_neg (by simp), if_pos (by omega)]

/-! Crc -/
theorem spec_Crc_f (k : Nat) (a : ByteArray) (hk : 10 * a.size < k) : spec_Crc.f k a = some (CrcP a) := by
  unfold spec_Crc.f CrcP
  by_cases h2 : a.size > 8000
  · rw [if_pos (by omega), if_pos h2]
  · rw [if_neg (by omega), if_neg h2, spec_l01Crc_f _ 0 a (by omega) ok0 (by omega)]; rfl
theorem impl_Crc_f (k : Nat) (a : ByteArray) (hk : 10 * a.size + 1 < k) : impl_Crc.f k a = some (CrcP a) := by
  have hok := crcP_ok 0 a ok0
  unfold impl_Crc.f CrcP
  rw [impl_isLong_f [a] (by simp) _ (by simp only [List.length_cons, List.length_nil]; omega)]
  simp only [Option.bind_some, List.any_cons, List.any_nil, Bool.or_false]
  by_cases h2 : a.size > 8000
  · rw [if_pos (by simpa using h2), if_pos h2]
  · rw [if_neg (by simpa using h2), if_neg h2]
    unfold impl_crc.f
    rw [impl_register_f _ _ a (by omega) okff (by omega)]
    simp only [Option.bind_some]
    rw [u32_xor_comm _ _ okff (creg_ok _ _ okff (bytesOf_range a))]
    unfold crcP at hok ⊢
    rw [xor_0ff] at hok ⊢
    rw [w64 (by have := hok.1; omega) (by have := hok.2; omega)]

/-! The register's step, there and back: another byte, or another register, gives another register -/
theorem cbit_inj {a b : Int} (ha : u32ok a) (hb : u32ok b) (h : cbit a = cbit b) : a = b := by
  have a0 := ha.1; have a1 := ha.2; have b0 := hb.1; have b1 := hb.2
  have key : ∀ x y : Int, u32ok x → u32ok y → x % 2 = 1 → ¬ y % 2 = 1 → cbit x ≠ cbit y := by
    intro x y hx hy hx2 hy2 e
    have x0 := hx.1; have x1 := hx.2; have y0 := hy.1; have y1 := hy.2
    unfold cbit at e
    rw [if_pos hx2, if_neg hy2, u32_xor _ _ (by omega) (by omega) (by omega) (by omega)] at e
    have e2 : (x / 2).toNat ^^^ (3988292384 : Int).toNat = (y / 2).toNat := by omega
    have e3 := congrArg (fun n => n.testBit 31) e2
    simp only [Nat.testBit_xor] at e3
    rw [Nat.testBit_lt_two_pow (x := (x / 2).toNat) (i := 31) (by omega), Nat.testBit_lt_two_pow (x := (y / 2).toNat) (i := 31) (by omega)] at e3
    revert e3
    decide
  by_cases h1 : a % 2 = 1
  · by_cases h2 : b % 2 = 1
    · unfold cbit at h
      rw [if_pos h1, if_pos h2, u32_xor _ _ (by omega) (by omega) (by omega) (by omega), u32_xor _ _ (by omega) (by omega) (by omega) (by omega)] at h
      have e2 : (a / 2).toNat ^^^ (3988292384 : Int).toNat = (b / 2).toNat ^^^ (3988292384 : Int).toNat := by omega
      have e3 := congrArg (fun n => n ^^^ (3988292384 : Int).toNat) e2
      simp only [Nat.xor_assoc, Nat.xor_self, Nat.xor_zero] at e3
      omega
    · exact absurd h (key a b ha hb h1 h2)
  · by_cases h2 : b % 2 = 1
    · exact absurd h.symm (key b a hb ha h2 h1)
    · unfold cbit at h
      rw [if_neg h1, if_neg h2] at h
      omega
theorem cbits_inj : ∀ (j : Nat) (a b : Int), u32ok a → u32ok b → cbits j a = cbits j b → a = b
  | 0, _, _, _, _, h => h
  | j + 1, a, b, ha, hb, h => cbit_inj ha hb (cbits_inj j _ _ (cbit_ok a ha) (cbit_ok b hb) h)
theorem xor_inj {a b c : Int} (ha : u32ok a) (hb : u32ok b) (hc : u32ok c) (h : Go.bits .xor .u32 a c = Go.bits .xor .u32 b c) : a = b := by
  have := ha.1; have := hb.1
  rw [u32_xor _ _ ha.1 ha.2 hc.1 hc.2, u32_xor _ _ hb.1 hb.2 hc.1 hc.2] at h
  have e2 : a.toNat ^^^ c.toNat = b.toNat ^^^ c.toNat := by omega
  have e3 := congrArg (fun n => n ^^^ c.toNat) e2
  simp only [Nat.xor_assoc, Nat.xor_self, Nat.xor_zero] at e3
  omega
theorem byte_ok {b : Int} (h : 0 ≤ b ∧ b ≤ 255) : u32ok b := ⟨by omega, by omega⟩
theorem cbyte_inj {r q b : Int} (hr : u32ok r) (hq : u32ok q) (hb : 0 ≤ b ∧ b ≤ 255) (h : cbyte r b = cbyte q b) : r = q :=
  xor_inj hr hq (byte_ok hb) (cbits_inj 8 _ _ (u32_xor_ok _ _ hr (byte_ok hb)) (u32_xor_ok _ _ hq (byte_ok hb)) h)
theorem cbyte_inj2 {r b c : Int} (hr : u32ok r) (hb : 0 ≤ b ∧ b ≤ 255) (hc : 0 ≤ c ∧ c ≤ 255) (h : cbyte r b = cbyte r c) : b = c := by
  have h2 := cbits_inj 8 _ _ (u32_xor_ok _ _ hr (byte_ok hb)) (u32_xor_ok _ _ hr (byte_ok hc)) h
  rw [u32_xor_comm r b hr (byte_ok hb), u32_xor_comm r c hr (byte_ok hc)] at h2
  exact xor_inj (byte_ok hb) (byte_ok hc) hr h2
theorem creg_inj : ∀ (l : List Int) (r q : Int), u32ok r → u32ok q → (∀ x ∈ l, 0 ≤ x ∧ x ≤ 255) → creg r l = creg q l → r = q
  | [], _, _, _, _, _, h => h
  | b :: l, r, q, hr, hq, hl, h => by
    have hb := hl b (by simp)
    exact cbyte_inj hr hq hb (creg_inj l _ _ (cbyte_ok r b hr hb) (cbyte_ok q b hq hb) (fun x hx => hl x (by simp [hx])) h)
theorem creg_append (r : Int) (l m : List Int) : creg r (l ++ m) = creg (creg r l) m := by
  unfold creg
  rw [List.foldl_append]
/-- One byte turned: another register. -/
theorem creg_set {l : List Int} {r v : Int} (hr : u32ok r) (hl : ∀ x ∈ l, 0 ≤ x ∧ x ≤ 255) (hv : 0 ≤ v ∧ v ≤ 255) {i : Nat} (hi : i < l.length) (hne : l[i] ≠ v) : creg r (l.set i v) ≠ creg r l := by
  intro h
  have h1 : l = l.take i ++ l[i] :: l.drop (i + 1) := by rw [List.getElem_cons_drop, List.take_append_drop]
  have h2 : l.set i v = l.take i ++ v :: l.drop (i + 1) := List.set_eq_take_append_cons_drop.trans (by rw [if_pos hi])
  have ht : ∀ x ∈ l.take i, 0 ≤ x ∧ x ≤ 255 := fun x hx => hl x (List.mem_of_mem_take hx)
  have hd : ∀ x ∈ l.drop (i + 1), 0 ≤ x ∧ x ≤ 255 := fun x hx => hl x (List.mem_of_mem_drop hx)
  have hm := hl l[i] (List.getElem_mem hi)
  have hc := creg_ok (l.take i) r hr ht
  rw [h2] at h
  have h3 : creg r l = creg r (l.take i ++ l[i] :: l.drop (i + 1)) := congrArg (creg r) h1
  rw [h3, creg_append, creg_append] at h
  have h4 := creg_inj (l.drop (i + 1)) _ _ (cbyte_ok _ v hc hv) (cbyte_ok _ l[i] hc hm) hd h
  exact hne (cbyte_inj2 hc hv hm h4).symm
theorem flip_flip {a : Int} (h : u32ok a) : Go.bits .xor .u32 (Go.bits .xor .u32 a 4294967295) 4294967295 = a := by
  have h0 := h.1; have h1 := h.2
  have k := xor_flip a h
  rw [u32_xor _ _ k.1 k.2 (by omega) (by omega), u32_xor _ _ h0 h1 (by omega) (by omega)]
  rw [Int.toNat_natCast, Nat.xor_assoc, Nat.xor_self, Nat.xor_zero]
  omega
theorem bytesOf_app (a b : ByteArray) : bytesOf (a ++ b) = bytesOf a ++ bytesOf b := by
  unfold bytesOf
  simp
/-- A CRC goes on from text to text. -/
theorem crcP_more (s t : ByteArray) : crcP (crcP 0 s) t = crcP 0 (s ++ t) := by
  unfold crcP
  have hk : u32ok (creg (Go.bits .xor .u32 0 4294967295) (bytesOf s)) := creg_ok _ _ (xor_flip 0 ok0) (bytesOf_range s)
  rw [flip_flip hk, bytesOf_app, creg_append]
theorem four_inj {a b : Int} (ha : u32ok a) (hb : u32ok b) (h : four a = four b) : a = b := by
  have a0 := ha.1; have a1 := ha.2; have b0 := hb.1; have b1 := hb.2
  unfold four at h
  simp only [List.cons.injEq, and_true] at h
  obtain ⟨h1, h2, h3, h4⟩ := h
  omega
theorem crcP_set {s t : ByteArray} {i : Nat} {v : Int} (hv : 0 ≤ v ∧ v ≤ 255) (hi : i < (bytesOf s).length) (ht : bytesOf t = (bytesOf s).set i v) (hne : (bytesOf s)[i] ≠ v) : crcP 0 t ≠ crcP 0 s := by
  intro h
  unfold crcP at h
  rw [ht] at h
  have r0 := xor_flip 0 ok0
  have hs := bytesOf_range s
  have h1 := creg_ok (bytesOf s) _ r0 hs
  have h2 : u32ok (creg (Go.bits .xor .u32 0 4294967295) ((bytesOf s).set i v)) := creg_ok _ _ r0 (fun x hx => (List.mem_or_eq_of_mem_set hx).elim (hs x) (fun e => e ▸ hv))
  exact creg_set r0 hs hv hi hne (xor_inj h2 h1 okff h)

/-! Unseal -/
def UnsealP (s : ByteArray) : ByteArray × Int × Int :=
  if s.size > 8000 then (⟨#[]⟩, 0, 2) else if s.size < 4 then (⟨#[]⟩, 0, 4) else
    if strOfNums (four (crcP 0 (s.extract 0 (s.size - 4)))) = s.extract (s.size - 4) s.size then (s.extract 0 (s.size - 4), 0, 0) else (⟨#[]⟩, 0, 5)
theorem impl_Unseal_f (k : Nat) (s : ByteArray) (hs : s.size ≤ 1048576) (hk : 10 * s.size + 1 < k) : impl_Unseal.f k s = some (UnsealP s) := by
  unfold impl_Unseal.f UnsealP
  rw [impl_isLong_f [s] (by simp) k (by simp only [List.length_cons, List.length_nil]; omega)]
  simp only [Option.bind_some, List.any_cons, List.any_nil, Bool.or_false]
  by_cases h : s.size > 8000
  · rw [if_pos (by simpa using h), if_pos h]
  · rw [if_neg (by simpa using h), if_neg h, w64 (x := (s.size : Int) - 4) (by omega) (by omega)]
    by_cases h2 : s.size < 4
    · rw [if_pos h2, if_pos (by omega)]
    · have hz := ba_extract_size s 0 (s.size - 4) (by omega)
      rw [if_neg h2, if_neg (by omega), if_pos (by omega), if_pos (by omega), show ((s.size : Int) - 4).toNat = s.size - 4 by omega,
        impl_sealed_f k _ (by omega) (by omega)]
      simp only [Option.bind_some, ba_inj]
      unfold SealedP
      have key : s.extract 0 (s.size - 4) ++ strOfNums (four (crcP 0 (s.extract 0 (s.size - 4)))) = s ↔ strOfNums (four (crcP 0 (s.extract 0 (s.size - 4)))) = s.extract (s.size - 4) s.size := by
        have e := ba_split s (s.size - 4)
        constructor
        · intro h; exact ba_append_inj.1 (h.trans e.symm)
        · intro h; rw [h]; exact e
      by_cases h3 : strOfNums (four (crcP 0 (s.extract 0 (s.size - 4)))) = s.extract (s.size - 4) s.size
      · rw [if_pos h3]; exact if_pos (key.2 h3)
      · rw [if_neg h3]; exact if_neg (fun x => h3 (key.1 x))

theorem draw_seal (l : List Int) (hl : l.length ≤ 140737488351232) (hr : ∀ x ∈ l, 0 ≤ x ∧ x ≤ 255) (k : Nat) (hk : 65 ≤ k) : ∃ t, spec_DrawSeal.f k l = some t ∧ t.size ≤ 30000 := by
  obtain ⟨m, z, e, h⟩ := draw_source l hl hr k hk
  unfold spec_DrawSeal.f
  rw [e]
  obtain ⟨r, a1, m1, e1, h1⟩ := draw_one l 0 m z 30 h (by omega)
  simp only [Option.bind_some, e1]
  cases r with
  | true =>
    obtain ⟨v, a2, m2, e2, v0, v1, h2⟩ := draw_n l a1 m1 z 3 h1 (by omega)
    have v1 := v1 (by omega)
    rw [if_pos rfl, e2]
    simp only [Option.bind_some]
    rw [w64 (x := 19995 + v) (by omega) (by omega), if_pos (by omega), if_pos (by omega)]
    exact ⟨_, rfl, by rw [strOfNums_size, List.length_replicate]; omega⟩
  | false =>
    obtain ⟨v, a2, m2, e2, v0, v1, h2⟩ := draw_n l a1 m1 z 20 h1 (by omega)
    have v1 := v1 (by omega)
    obtain ⟨t, a3, m3, e3, ht, h3⟩ := draw_bytes_l0 l z v (by omega) v.toNat k [] 0 a2 m2 h2 (by omega) (by omega) (by omega) rfl
    rw [if_neg (by simp), e2]
    simp only [Option.bind_some]
    unfold spec_l01Src_bytes.f
    rw [e3]
    exact ⟨t, rfl, by omega⟩
theorem draw_crcmore (l : List Int) (hl : l.length ≤ 140737488351232) (hr : ∀ x ∈ l, 0 ≤ x ∧ x ≤ 255) (k : Nat) (hk : 300 ≤ k) : ∃ c t, spec_DrawCrcMore.f k l = some (c, t) ∧ t.size ≤ 20 := by
  obtain ⟨m, z, e, h⟩ := draw_source l hl hr k (by omega)
  unfold spec_DrawCrcMore.f
  rw [e]
  obtain ⟨v, a1, m1, e1, v0, v1, h1⟩ := draw_n l 0 m z 9 h (by omega)
  have v1 := v1 (by omega)
  obtain ⟨t, a2, m2, e2, ht, h2⟩ := draw_bytes_l0 l z v (by omega) v.toNat k [] 0 a1 m1 h1 (by omega) (by omega) (by omega) rfl
  obtain ⟨r, a3, m3, e3, h3⟩ := draw_one l a2 m2 z 5 h2 (by omega)
  simp only [Option.bind_some, e1]
  unfold spec_l01Src_bytes.f
  rw [e2]
  simp only [Option.bind_some, e3]
  cases r with
  | true =>
    obtain ⟨c, a4, m4, e4, _, _, _⟩ := draw_edge l a3 m3 z h3
    rw [if_pos rfl, e4]
    exact ⟨c, t, rfl, by omega⟩
  | false =>
    obtain ⟨y, a4, m4, e4, y0, y1, h4⟩ := draw_n l a3 m3 z 9 h3 (by omega)
    have y1 := y1 (by omega)
    obtain ⟨u, a5, m5, e5, hu, h5⟩ := draw_bytes_l0 l z y (by omega) y.toNat k [] 0 a4 m4 h4 (by omega) (by omega) (by omega) rfl
    rw [if_neg (by simp), e4]
    simp only [Option.bind_some]
    rw [e5]
    simp only [Option.bind_some]
    rw [spec_Crc_f k u (by omega)]
    exact ⟨_, t, rfl, by omega⟩
theorem u8_turn {b y : Int} (hb : 0 ≤ b ∧ b ≤ 255) (hy : 1 ≤ y ∧ y ≤ 255) : 0 ≤ Go.bits .xor .u8 b y ∧ Go.bits .xor .u8 b y ≤ 255 ∧ b ≠ Go.bits .xor .u8 b y := by
  rw [u8_xor b y hb.1 (by omega) (by omega) (by omega)]
  have : b.toNat ^^^ y.toNat < 2 ^ 8 := Nat.xor_lt_two_pow (by omega) (by omega)
  refine ⟨by omega, by omega, fun e => ?_⟩
  have e2 : b.toNat ^^^ y.toNat = b.toNat := by omega
  have e3 := congrArg (fun n => b.toNat ^^^ n) e2
  simp only [← Nat.xor_assoc, Nat.xor_self, Nat.zero_xor] at e3
  omega
theorem four_len (c : Int) : (four c).length = 4 := rfl
theorem four_range (c : Int) : ∀ x ∈ four c, 0 ≤ x ∧ x ≤ 255 := by
  intro x hx
  unfold four at hx
  simp only [List.mem_cons, List.not_mem_nil, or_false] at hx
  rcases hx with rfl | rfl | rfl | rfl <;> omega
theorem sealed_size (t : ByteArray) : (SealedP t).size = t.size + 4 := by
  unfold SealedP; rw [ba_append_size, strOfNums_size, four_len]
theorem sealed_bytes (t : ByteArray) : bytesOf (SealedP t) = bytesOf t ++ four (crcP 0 t) := by
  unfold SealedP; rw [bytesOf_app, bytesOf_son _ (four_range _)]
theorem unseal_sealed (t : ByteArray) (ht : t.size ≤ 7996) : UnsealP (SealedP t) = (t, 0, 0) := by
  have hz := sealed_size t
  have e1 : (SealedP t).extract 0 t.size = t := by rw [ext_son, sealed_bytes, List.drop_zero, Nat.sub_zero, List.take_left' (bytesOf_length t), son_bytesOf]
  have e2 : (SealedP t).extract t.size (t.size + 4) = strOfNums (four (crcP 0 t)) := by
    rw [ext_son, sealed_bytes, List.drop_left' (bytesOf_length t), show t.size + 4 - t.size = 4 by omega, List.take_of_length_le (by rw [four_len]; omega)]
  unfold UnsealP
  rw [if_neg (by omega), if_neg (by omega), hz, show t.size + 4 - 4 = t.size by omega, e1, e2, if_pos rfl]
theorem son_inj {l m : List Int} (hl : ∀ x ∈ l, 0 ≤ x ∧ x ≤ 255) (hm : ∀ x ∈ m, 0 ≤ x ∧ x ≤ 255) (h : strOfNums l = strOfNums m) : l = m := by
  rw [← bytesOf_son l hl, ← bytesOf_son m hm, h]
theorem unseal_turned (t : ByteArray) (ht : t.size ≤ 7996) (i : Nat) (hi : i < t.size + 4) (v : Int) (hv : 0 ≤ v ∧ v ≤ 255) (hne : (bytesOf (SealedP t)).getD i 0 ≠ v) :
    (UnsealP (strOfNums ((bytesOf (SealedP t)).set i v))).2.2 = 5 := by
  have hb := bytesOf_length t
  have rt := bytesOf_range t
  have rf := four_range (crcP 0 t)
  have hs := sealed_bytes t
  rw [hs] at hne ⊢
  obtain ⟨s2, e2⟩ : ∃ s, strOfNums ((bytesOf t ++ four (crcP 0 t)).set i v) = s := ⟨_, rfl⟩
  have r2 : ∀ x ∈ (bytesOf t ++ four (crcP 0 t)).set i v, 0 ≤ x ∧ x ≤ 255 := fun x hx => (List.mem_or_eq_of_mem_set hx).elim (fun h => (List.mem_append.1 h).elim (rt x) (rf x)) (fun e => e ▸ hv)
  have b2 : bytesOf s2 = (bytesOf t ++ four (crcP 0 t)).set i v := by rw [← e2, bytesOf_son _ r2]
  have hz : s2.size = t.size + 4 := by rw [← bytesOf_length, b2, List.length_set, List.length_append, hb, four_len]
  rw [e2]
  unfold UnsealP
  rw [if_neg (by omega), if_neg (by omega), hz, show t.size + 4 - 4 = t.size by omega]
  by_cases c : i < t.size
  · have b3 : bytesOf s2 = (bytesOf t).set i v ++ four (crcP 0 t) := by rw [b2, List.set_append, if_pos (by omega)]
    have hl3 : ((bytesOf t).set i v).length = t.size := by rw [List.length_set, hb]
    have x1 : bytesOf (s2.extract 0 t.size) = (bytesOf t).set i v := by
      rw [ext_son, b3, List.drop_zero, Nat.sub_zero, List.take_left' hl3, bytesOf_son _ (fun x hx => (List.mem_or_eq_of_mem_set hx).elim (rt x) (fun e => e ▸ hv))]
    have x2 : s2.extract t.size (t.size + 4) = strOfNums (four (crcP 0 t)) := by
      rw [ext_son, b3, List.drop_left' hl3, show t.size + 4 - t.size = 4 by omega, List.take_of_length_le (by rw [four_len]; omega)]
    have hi2 : i < (bytesOf t).length := by omega
    have hne2 : (bytesOf t)[i] ≠ v := by
      rw [List.getD_eq_getElem?_getD, List.getElem?_append_left hi2, List.getElem?_eq_getElem hi2] at hne
      exact hne
    have key := crcP_set hv hi2 x1 hne2
    rw [if_neg]
    intro e
    rw [x2] at e
    exact key (four_inj (crcP_ok 0 _ ok0) (crcP_ok 0 _ ok0) (son_inj (four_range _) (four_range _) e))
  · have b3 : bytesOf s2 = bytesOf t ++ (four (crcP 0 t)).set (i - t.size) v := by rw [b2, List.set_append, if_neg (by omega), hb]
    have x1 : s2.extract 0 t.size = t := by rw [ext_son, b3, List.drop_zero, Nat.sub_zero, List.take_left' hb, son_bytesOf]
    have x2 : s2.extract t.size (t.size + 4) = strOfNums ((four (crcP 0 t)).set (i - t.size) v) := by
      rw [ext_son, b3, List.drop_left' hb, show t.size + 4 - t.size = 4 by omega, List.take_of_length_le (by rw [List.length_set, four_len]; omega)]
    rw [x1, if_neg]
    intro e
    rw [x2] at e
    have e3 := son_inj (four_range _) (fun x hx => (List.mem_or_eq_of_mem_set hx).elim (rf x) (fun e => e ▸ hv)) e
    have hj : i - t.size < (four (crcP 0 t)).length := by rw [four_len]; omega
    rw [List.getD_eq_getElem?_getD, List.getElem?_append_right (by omega), hb] at hne
    rw [e3, List.getElem?_set_self hj] at hne
    exact hne rfl
theorem crc_more (t u : ByteArray) (h : t.size + u.size ≤ 8000) : CrcMoreP (CrcP t) u = CrcP (t ++ u) := by
  have hz : (t ++ u).size = t.size + u.size := ba_append_size t u
  have hk2 := crcP_ok 0 t ok0
  have e1 : CrcP t = crcP 0 t := by unfold CrcP; rw [if_neg (by omega)]
  have e2 : CrcP (t ++ u) = crcP 0 (t ++ u) := by unfold CrcP; rw [if_neg (by omega)]
  rw [e1, e2]
  unfold CrcMoreP
  rw [if_neg (by have := hk2.1; have := hk2.2; omega), crcP_more]
theorem seal_rest (l : List Int) (hl : l.length ≤ 140737488351232) (hr : ∀ x ∈ l, 0 ≤ x ∧ x ≤ 255) (t : ByteArray) (ht : t.size ≤ 30000) (k : Nat) (hk : 400000 ≤ k) : laws_FnSeal.rest k t l = some true := by
  obtain ⟨c, u, e, hu⟩ := draw_crcmore l hl hr k (by omega)
  have e0 : laws_FnSeal.rest k t l = laws_FnSeal.restc k t c u := by unfold laws_FnSeal.rest; rw [e, Option.bind_some]
  rw [e0]
  unfold laws_FnSeal.restc
  rw [w64 (x := (t.size : Int) + (u.size : Int)) (by omega) (by omega)]
  by_cases h : (t.size : Int) + (u.size : Int) > 8000
  · rw [if_pos h]
  · have hz : (t ++ u).size = t.size + u.size := ba_append_size t u
    have hc := crc_more t u (by omega)
    rw [if_neg h, if_pos (by omega), impl_CrcMore_f k c u (by omega), spec_CrcMore_f k c u (by omega)]
    simp only [Option.bind_some, if_true]
    rw [impl_Crc_f k t (by omega)]
    simp only [Option.bind_some]
    rw [impl_CrcMore_f k _ u (by omega), impl_Crc_f k (t ++ u) (by omega)]
    simp only [Option.bind_some]
    rw [if_pos hc]
theorem seal_mid (l : List Int) (hl : l.length ≤ 140737488351232) (hr : ∀ x ∈ l, 0 ≤ x ∧ x ≤ 255) (t : ByteArray) (ht : t.size ≤ 7996) (k : Nat) (hk : 400000 ≤ k) : laws_FnSeal.mid k t (SealedP t) l = some true := by
  have hz := sealed_size t
  obtain ⟨i, ei, i0, i1⟩ := lwAt_f l hl hr 0 (by omega) ((SealedP t).size : Int) (by omega)
  obtain ⟨x, ex, x0, x1⟩ := lwAt_f l hl hr 1 (by omega) 255 (by omega)
  unfold laws_FnSeal.mid
  rw [if_pos (by omega), ei]
  simp only [Option.bind_some]
  rw [if_pos i0, if_pos i1, ex]
  simp only [Option.bind_some]
  rw [impl_Unseal_f k (SealedP t) (by omega) (by omega), unseal_sealed t ht]
  simp only [Option.bind_some, if_true]
  have hb : 0 ≤ (bytesOf (SealedP t)).getD i.toNat 0 ∧ (bytesOf (SealedP t)).getD i.toNat 0 ≤ 255 := by
    have hlt : i.toNat < (bytesOf (SealedP t)).length := by rw [bytesOf_length]; omega
    rw [List.getD_eq_getElem?_getD, List.getElem?_eq_getElem hlt]
    exact bytesOf_range _ _ (List.getElem_mem hlt)
  obtain ⟨v0, v1, v2⟩ := u8_turn hb (y := 1 + x) ⟨by omega, by omega⟩
  have e : laws_FnSeal.turn (SealedP t) i x = (bytesOf (SealedP t)).set i.toNat (Go.bits .xor .u8 ((bytesOf (SealedP t)).getD i.toNat 0) (1 + x)) := by
    unfold laws_FnSeal.turn
    rw [w64 (x := 1 + x) (by omega) (by omega), show (1 + x) % 256 = 1 + x by omega]
  have h5 := unseal_turned t ht i.toNat (by omega) _ ⟨v0, v1⟩ v2
  rw [e, impl_Unseal_f k _ (by rw [strOfNums_size, List.length_set, bytesOf_length]; omega) (by rw [strOfNums_size, List.length_set, bytesOf_length]; omega)]
  simp only [Option.bind_some]
  rw [if_pos h5]
theorem FnSeal : laws_FnSeal.Pure := by
  intro l m _ hl hw _ hm hw2
  have hr : ∀ x ∈ l, 0 ≤ x ∧ x ≤ 255 := fun x hx => wf_u8 (hw x hx)
  have hr2 : ∀ x ∈ m, 0 ≤ x ∧ x ≤ 255 := fun x hx => wf_u8 (hw2 x hx)
  refine ⟨400000, ?_⟩
  obtain ⟨k, hk⟩ : ∃ k, k = 400000 := ⟨_, rfl⟩
  rw [← hk]
  unfold laws_FnSeal.f
  by_cases h : (l.length : Int) > 1048576
  · rw [if_pos h]
  rw [if_neg h]
  by_cases h2 : (m.length : Int) > 1048576
  · rw [if_pos h2]
  rw [if_neg h2]
  obtain ⟨t, et, ht⟩ := draw_seal l (by omega) hr k (by omega)
  rw [et]
  simp only [Option.bind_some]
  rw [impl_Seal_f k t (by omega), spec_Seal_f k t (by omega)]
  simp only [Option.bind_some, if_true]
  have hrest := seal_rest m (by omega) hr2 t ht k (by omega)
  by_cases hb : t.size > 7996
  · have e : SealP t = ⟨#[]⟩ := by unfold SealP; rw [if_pos hb]
    rw [e, if_pos (by rw [Go.Lib.toList_data]; rfl)]
    exact hrest
  · have e : SealP t = SealedP t := by unfold SealP; rw [if_neg hb]
    rw [e, if_neg, seal_mid m (by omega) hr2 t (by omega) k (by omega)]
    · simp only [Option.bind_some]; exact hrest
    · rw [Go.Lib.toList_data, List.isEmpty_iff]
      intro e3
      have h1 := data_length (SealedP t)
      rw [e3, sealed_size] at h1
      simp only [List.length_nil] at h1; omega

end Go.Proofs.Ytdlbcamnimdfjaa.Pure
