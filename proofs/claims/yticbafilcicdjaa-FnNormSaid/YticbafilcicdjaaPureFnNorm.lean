/- The law FnNorm answers true at every code: Norm is idempotent on the drawn string, and depends on neither case nor additional blanks. No condition. -/
import Derived.Test.YticbafilcicdjaaPFnNormx5
import Derived.Laws.Bits64
import Derived.Lib.Strings
namespace Go.Proofs.Yticbafilcicdjaa.Pure
open Go.RowKit Go.Proofs.Yticbafilcicdjaa.PFnNorm Go.Proofs.YticbafilcicdjaaW.PrintWords Go.Proofs.YticbafilcicdjaaW.PrintLast
set_option linter.unusedVariables false
set_option linter.unusedSimpArgs false

/-! plain lemmas -/
theorem w64 {x : Int} (h0 : -9223372036854775808 ≤ x) (h1 : x ≤ 9223372036854775807) : wrap64 x = x := by unfold wrap64; omega
theorem u64w {x : Int} (h0 : 0 ≤ x) (h1 : x < 18446744073709551616) : IntKind.u64.wrap x = x := by rw [IntKind.wrap_u64]; omega
theorem son_append (xs ys : List Int) : strOfNums (xs ++ ys) = strOfNums xs ++ strOfNums ys := by
  unfold strOfNums
  apply ByteArray.ext
  simp
theorem ba_append_size (a b : ByteArray) : (a ++ b).size = a.size + b.size := by simp
theorem ba_append_assoc (a b c : ByteArray) : (a ++ b) ++ c = a ++ (b ++ c) := by
  apply ByteArray.ext
  simp
/-- The comparison at the end of a law. -/
theorem law_end {A B : Option ByteArray} {r : ByteArray} (hA : A = some r) (hB : B = some r) :
    (A.bind fun t => B.bind fun t' => if t'.toList = t.toList then some true else some false) = some true := by
  rw [hA, hB]; simp
theorem wf_i64 {n : Int} (h : (Lit.int .i64 n).wf = true) : -9223372036854775808 ≤ n ∧ n ≤ 9223372036854775807 := by
  simpa [Lit.wf, IntKind.min, IntKind.max, IntKind.bits, IntKind.signed] using h
/-- The same of two numbers. -/
theorem law_endI {A B : Option Int} {r : Int} (hA : A = some r) (hB : B = some r) :
    (A.bind fun t => B.bind fun t' => if t' = t then some true else some false) = some true := by
  rw [hA, hB]; simp

/-! strings of bytes -/
theorem ba_ext {a b : ByteArray} (h : a.data.toList = b.data.toList) : a = b := ByteArray.ext (Array.toList_inj.1 h)
theorem ba_inj {a b : ByteArray} : a.toList = b.toList ↔ a = b :=
  ⟨fun h => ba_ext (by rwa [Go.Lib.toList_data, Go.Lib.toList_data] at h), fun h => by rw [h]⟩
theorem ba_data_append (a b : ByteArray) : (a ++ b).data.toList = a.data.toList ++ b.data.toList := by simp
theorem ba_data_extract (s : ByteArray) (i j : Nat) : (s.extract i j).data.toList = (s.data.toList.drop i).take (j - i) := Go.Lib.extract_data s i j
theorem ba_split (s : ByteArray) (m : Nat) : s.extract 0 m ++ s.extract m s.size = s := by
  apply ba_ext
  rw [ba_data_append, ba_data_extract, ba_data_extract, Nat.sub_zero, List.drop_zero]
  rw [List.take_of_length_le (l := s.data.toList.drop m) (by rw [List.length_drop, data_length]; omega), List.take_append_drop]
theorem ba_append_inj {a b c : ByteArray} : a ++ b = a ++ c ↔ b = c := by
  constructor
  · intro h
    have h2 := congrArg (fun x : ByteArray => x.data.toList) h
    simp only [ba_data_append] at h2
    exact ba_ext (List.append_cancel_left h2)
  · intro h; rw [h]
theorem son_bytesOf (s : ByteArray) : strOfNums (bytesOf s) = s := by
  apply ba_ext
  rw [strOfNums_data, bytesOf, List.map_map]
  conv => rhs; rw [← List.map_id s.data.toList]
  apply List.map_congr_left
  intro b _
  simp
theorem ext_son (s : ByteArray) (i j : Nat) : s.extract i j = strOfNums (((bytesOf s).drop i).take (j - i)) := by
  apply ba_ext
  rw [ba_data_extract, strOfNums_data, List.map_take, List.map_drop]
  congr 2
  have := congrArg (fun x : ByteArray => x.data.toList) (son_bytesOf s)
  simp only [strOfNums_data] at this
  exact this.symm
theorem ba_extract_size (s : ByteArray) (i j : Nat) (hj : j ≤ s.size) : (s.extract i j).size = j - i := by
  rw [ByteArray.size_extract]; omega
theorem ba_nil_data : (⟨#[]⟩ : ByteArray).data.toList = [] := rfl
theorem ba_size0 {s : ByteArray} (h : s.size = 0) : s = ⟨#[]⟩ := by
  apply ba_ext
  rw [ba_nil_data]
  exact List.eq_nil_of_length_eq_zero (by rw [data_length]; exact h)

theorem drop_bt (s : ByteArray) (i : Int) (h0 : 0 ≤ i) (h1 : i < s.size) : (bytesOf s).drop i.toNat = bt s i :: (bytesOf s).drop (i + 1).toNat := by
  have hl : i.toNat < (bytesOf s).length := by rw [bytesOf_length]; omega
  rw [List.drop_eq_getElem_cons hl, ← rd_bytesOf, show (i + 1).toNat = i.toNat + 1 by omega]
  congr 1
  unfold rd
  rw [List.getD_eq_getElem?_getD, List.getElem?_eq_getElem hl]; rfl

/-! Norm -/
/-- A capital as a small letter. -/
def up (c : Int) : Int := if 65 ≤ c ∧ c ≤ 90 then c + 32 else c
/-- A byte put behind what is there: no blank at the begin, none behind another. -/
def nput (l : List Int) (c : Int) : List Int := if c = 32 ∧ (l = [] ∨ rd l ((l.length : Int) - 1) = 32) then l else l ++ [c]
def nfold (l cs : List Int) : List Int := cs.foldl (fun l c => nput l (up c)) l
def ntrim (l : List Int) : List Int := if l ≠ [] ∧ rd l ((l.length : Int) - 1) = 32 then l.take (l.length - 1) else l
def prt (c : Int) : Bool := decide (32 ≤ c) && decide (c ≤ 126)
theorem prt_lo {c : Int} (h : c < 32) : prt c = false := by unfold prt; rw [decide_eq_false (by omega)]; rfl
theorem prt_hi {c : Int} (h : c > 126) : prt c = false := by unfold prt; rw [decide_eq_false (p := c ≤ 126) (by omega)]; simp
def plainP (s : ByteArray) : Bool := (bytesOf s).all prt
def NormL (s : ByteArray) : List Int := if s.size ≤ 100 ∧ plainP s = true then ntrim (nfold [] (bytesOf s)) else []
def NormP (s : ByteArray) : ByteArray := strOfNums (NormL s)
theorem son_nil : strOfNums [] = (⟨#[]⟩ : ByteArray) := rfl
theorem spec_l02Plain_l0 (s : ByteArray) (hs : s.size ≤ 4611686018427387904) : ∀ (d k : Nat) (i : Int), 0 ≤ i → i + d = s.size → d < k →
    spec_l02Plain.l0 k s i = some (((bytesOf s).drop i.toNat).all prt)
  | 0, k, i, h0, hd, hk => by
    obtain ⟨k, rfl⟩ : ∃ m, k = m + 1 := ⟨k - 1, by omega⟩
    simp only [spec_l02Plain.l0]
    rw [if_neg (by omega), List.drop_of_length_le (by rw [bytesOf_length]; omega)]; rfl
  | d + 1, k, i, h0, hd, hk => by
    obtain ⟨k, rfl⟩ : ∃ m, k = m + 1 := ⟨k - 1, by omega⟩
    simp only [spec_l02Plain.l0]
    rw [if_pos (by omega), if_pos h0, drop_bt s i h0 (by omega), List.all_cons]
    by_cases h1 : bt s i < 32
    · rw [if_pos h1, show prt (bt s i) = false from prt_lo h1]; rfl
    · rw [if_neg h1]
      by_cases h2 : bt s i > 126
      · rw [if_pos h2, show prt (bt s i) = false from prt_hi h2]; rfl
      · rw [if_neg h2, w64 (by omega) (by omega), spec_l02Plain_l0 s hs d k (i + 1) (by omega) (by omega) (by omega)]
        simp [prt, show 32 ≤ bt s i by omega, show bt s i ≤ 126 by omega]
theorem spec_l02Plain_f (s : ByteArray) (hs : s.size ≤ 4611686018427387904) (k : Nat) (hk : s.size < k) : spec_l02Plain.f k s = some (plainP s) := by
  unfold spec_l02Plain.f
  rw [spec_l02Plain_l0 s hs s.size k 0 (by omega) (by omega) hk]; rfl
theorem impl_isPrintable_l0 (s : ByteArray) (hs : s.size ≤ 4611686018427387904) : ∀ (d k : Nat) (i : Int), 0 ≤ i → i + d = s.size → d < k →
    impl_isPrintable.l0 k s (s.size : Int) i = some (((bytesOf s).drop i.toNat).all prt)
  | 0, k, i, h0, hd, hk => by
    obtain ⟨k, rfl⟩ : ∃ m, k = m + 1 := ⟨k - 1, by omega⟩
    simp only [impl_isPrintable.l0]
    rw [if_neg (by omega), List.drop_of_length_le (by rw [bytesOf_length]; omega)]; rfl
  | d + 1, k, i, h0, hd, hk => by
    obtain ⟨k, rfl⟩ : ∃ m, k = m + 1 := ⟨k - 1, by omega⟩
    simp only [impl_isPrintable.l0]
    rw [if_pos (by omega), if_pos h0, if_pos (by omega), drop_bt s i h0 (by omega), List.all_cons]
    by_cases h1 : bt s i < 32
    · rw [if_pos h1, show prt (bt s i) = false from prt_lo h1]; rfl
    · rw [if_neg h1]
      by_cases h2 : bt s i > 126
      · rw [if_pos h2, show prt (bt s i) = false from prt_hi h2]; rfl
      · rw [if_neg h2, w64 (by omega) (by omega), impl_isPrintable_l0 s hs d k (i + 1) (by omega) (by omega) (by omega)]
        simp [prt, show 32 ≤ bt s i by omega, show bt s i ≤ 126 by omega]
theorem impl_isPrintable_f (s : ByteArray) (hs : s.size ≤ 4611686018427387904) (k : Nat) (hk : s.size < k) : impl_isPrintable.f k s = some (plainP s) := by
  unfold impl_isPrintable.f
  rw [impl_isPrintable_l0 s hs s.size k 0 (by omega) (by omega) hk]; rfl
theorem nput_length (l : List Int) (c : Int) : (nput l c).length ≤ l.length + 1 := by
  unfold nput; split <;> simp
theorem up_of {c : Int} (h0 : 0 ≤ c) (h1 : c ≤ 255) (b : Bool) (hb : b = (decide (c ≥ 65) && decide (c ≤ 90))) : (if b = true then (c + 32) % 256 else c) = up c := by
  unfold up
  subst hb
  by_cases h : 65 ≤ c ∧ c ≤ 90
  · rw [if_pos h, if_pos (by simp [h.1, h.2])]; omega
  · rw [if_neg h, if_neg (by simpa using h)]
theorem spec_Norm_j2 (k : Nat) (s : ByteArray) (l : List Int) (i c : Int) (b : Bool) (hl : l.length < 1000) (h0 : 0 ≤ i) (h1 : i < 1000) :
    spec_Norm.j2 (k + 1) s l i c b = spec_Norm.l0 k s (nput l (if b = true then (c + 32) % 256 else c)) (i + 1) := by
  simp only [spec_Norm.j2]
  rw [w64 (x := i + 1) (by omega) (by omega), w64 (x := (l.length : Int) - 1) (by omega) (by omega), if_pos (show l.length < 140737488355328 by omega), if_pos (show l.length < 140737488355328 by omega)]
  have key : ∀ c : Int, (if c = 32 then (if (l.length : Int) = 0 then spec_Norm.l0 k s l (i + 1) else (if 0 ≤ (l.length : Int) - 1 then (if (l.length : Int) - 1 < (l.length : Int) then (if rd l ((l.length : Int) - 1) = 32 then spec_Norm.l0 k s l (i + 1) else spec_Norm.l0 k s (l ++ [c]) (i + 1)) else none) else none)) else spec_Norm.l0 k s (l ++ [c]) (i + 1)) = spec_Norm.l0 k s (nput l c) (i + 1) := by
    intro c
    unfold nput
    by_cases hc : c = 32
    · rw [if_pos hc]
      by_cases hn : l = []
      · rw [if_pos (by simp [hn]), if_pos ⟨hc, .inl hn⟩]
      · have : 0 < l.length := List.length_pos_iff.2 hn
        rw [if_neg (by omega), if_pos (by omega), if_pos (by omega)]
        by_cases hr : rd l ((l.length : Int) - 1) = 32
        · rw [if_pos hr, if_pos ⟨hc, .inr hr⟩]
        · rw [if_neg hr, if_neg (fun x => x.2.elim hn hr)]
    · rw [if_neg hc, if_neg (fun x => hc x.1)]
  cases b
  · exact key c
  · exact key _
theorem impl_Norm_j2 (k : Nat) (s : ByteArray) (l : List Int) (n i c : Int) (b : Bool) (hl : l.length < 1000) (h0 : 0 ≤ i) (h1 : i < 1000) :
    impl_Norm.j2 (k + 1) s l c n i b = impl_Norm.l0 k s (nput l (if b = true then (c + 32) % 256 else c)) n (i + 1) := by
  simp only [impl_Norm.j2]
  rw [w64 (x := i + 1) (by omega) (by omega), w64 (x := (l.length : Int) - 1) (by omega) (by omega), if_pos (show l.length < 140737488355328 by omega), if_pos (show l.length < 140737488355328 by omega)]
  have key : ∀ c : Int, (if c = 32 then (if (l.length : Int) > 0 then (if 0 ≤ (l.length : Int) - 1 then (if (l.length : Int) - 1 < (l.length : Int) then (if rd l ((l.length : Int) - 1) = 32 then impl_Norm.l0 k s l n (i + 1) else impl_Norm.l0 k s (l ++ [c]) n (i + 1)) else none) else none) else impl_Norm.l0 k s l n (i + 1)) else impl_Norm.l0 k s (l ++ [c]) n (i + 1)) = impl_Norm.l0 k s (nput l c) n (i + 1) := by
    intro c
    unfold nput
    by_cases hc : c = 32
    · rw [if_pos hc]
      by_cases hn : l = []
      · rw [if_neg (by simp [hn]), if_pos ⟨hc, .inl hn⟩]
      · have : 0 < l.length := List.length_pos_iff.2 hn
        rw [if_pos (by omega), if_pos (by omega), if_pos (by omega)]
        by_cases hr : rd l ((l.length : Int) - 1) = 32
        · rw [if_pos hr, if_pos ⟨hc, .inr hr⟩]
        · rw [if_neg hr, if_neg (fun x => x.2.elim hn hr)]
    · rw [if_neg hc, if_neg (fun x => hc x.1)]
  cases b
  · exact key c
  · exact key _
theorem spec_Norm_l0 (s : ByteArray) (hs : s.size ≤ 100) : ∀ (d k : Nat) (i : Int) (l : List Int), 0 ≤ i → i + d = s.size → 2 * d < k → l.length ≤ i →
    spec_Norm.l0 k s l i = some (strOfNums (ntrim (nfold l ((bytesOf s).drop i.toNat))))
  | 0, k, i, l, h0, hd, hk, hl => by
    obtain ⟨k, rfl⟩ : ∃ m, k = m + 1 := ⟨k - 1, by omega⟩
    simp only [spec_Norm.l0]
    rw [if_neg (by omega), List.drop_of_length_le (by rw [bytesOf_length]; omega)]
    rw [show nfold l [] = l from rfl]
    unfold ntrim
    by_cases hn : l = []
    · subst hn; simp
    · have : 0 < l.length := List.length_pos_iff.2 hn
      rw [w64 (x := (l.length : Int) - 1) (by omega) (by omega), if_pos (by omega), if_pos (by omega), if_pos (by omega)]
      by_cases hr : rd l ((l.length : Int) - 1) = 32
      · rw [if_pos hr, if_pos (show (l.length : Int) - 1 ≤ (l.length : Int) by omega), if_pos ⟨hn, hr⟩, show ((l.length : Int) - 1).toNat = l.length - 1 by omega]
      · rw [if_neg hr, if_neg (fun x => hr x.2)]
  | d + 1, k, i, l, h0, hd, hk, hl => by
    obtain ⟨k, rfl⟩ : ∃ m, k = m + 2 := ⟨k - 2, by omega⟩
    have hb := bt_range s i
    have hj : ∀ b : Bool, b = (decide (bt s i ≥ 65) && decide (bt s i ≤ 90)) → spec_Norm.j2 (k + 1) s l i (bt s i) b = some (strOfNums (ntrim (nfold l ((bytesOf s).drop i.toNat)))) := by
      intro b hbb
      rw [spec_Norm_j2 k s l i _ b (by omega) h0 (by omega), up_of hb.1 hb.2 b hbb]
      have := nput_length l (up (bt s i))
      rw [spec_Norm_l0 s hs d k (i + 1) _ (by omega) (by omega) (by omega) (by omega), drop_bt s i h0 (by omega)]; rfl
    simp only [spec_Norm.l0]
    rw [if_pos (by omega), if_pos h0]
    by_cases h : bt s i ≥ 65
    · rw [if_pos h]; exact hj _ (by simp [h])
    · rw [if_neg h]; exact hj _ (by simp [h])
theorem son_take (l : List Int) (n : Nat) : (strOfNums l).extract 0 n = strOfNums (l.take n) := by
  apply ba_ext
  rw [ByteArray.data_extract, Array.toList_extract, strOfNums_data, strOfNums_data]
  simp [List.extract]
theorem son_drop (l : List Int) (n : Nat) : (strOfNums l).extract n (strOfNums l).size = strOfNums (l.drop n) := by
  apply ba_ext
  rw [ByteArray.data_extract, Array.toList_extract, strOfNums_data, strOfNums_data, strOfNums_size]
  simp only [List.extract, List.map_drop]
  exact List.take_of_length_le (by simp)
theorem drop_last (l : List Int) (h : 0 < l.length) : l.drop (l.length - 1) = [rd l ((l.length : Int) - 1)] := by
  rw [List.drop_eq_getElem_cons (by omega), List.drop_of_length_le (by omega)]
  congr 1
  unfold rd
  rw [show ((l.length : Int) - 1).toNat = l.length - 1 by omega, List.getD_eq_getElem?_getD, List.getElem?_eq_getElem (by omega)]; rfl
theorem trim_blank (l : List Int) (hl : l.length < 1000) (hr : ∀ x ∈ l, 0 ≤ x ∧ x ≤ 255) : strings_TrimSuffix.f (strOfNums l) (⟨#[32]⟩ : ByteArray) = some (strOfNums (ntrim l)) := by
  have hz : (⟨#[32]⟩ : ByteArray).size = 1 := rfl
  unfold strings_TrimSuffix.f stringslite_TrimSuffix.f stringslite_HasSuffix.f ntrim
  rw [hz]
  by_cases hn : l = []
  · subst hn
    rw [if_neg (show ¬ (((strOfNums []).size : Int) ≥ ((1 : Nat) : Int)) by decide)]; rfl
  · have hp : 0 < l.length := List.length_pos_iff.2 hn
    have hin : rd l ((l.length : Int) - 1) ∈ l := by have h := drop_last l hp; exact List.mem_of_mem_drop (i := l.length - 1) (by rw [h]; simp)
    have hb := hr _ hin
    simp only [strOfNums_size, Int.natCast_one]
    rw [w64 (x := (l.length : Int) - 1) (by omega) (by omega), if_pos (by omega), if_pos (by omega), if_pos (by omega)]
    simp only [Option.bind_some]
    have e1 : (strOfNums l).extract ((l.length : Int) - 1).toNat l.length = strOfNums [rd l ((l.length : Int) - 1)] := by
      rw [← drop_last l hp, ← son_drop, strOfNums_size, show ((l.length : Int) - 1).toNat = l.length - 1 by omega]
    rw [e1]
    have e2 : ((strOfNums [rd l ((l.length : Int) - 1)]).toList == (⟨#[32]⟩ : ByteArray).toList) = decide (rd l ((l.length : Int) - 1) = 32) := by
      rw [Go.Lib.toList_data, Go.Lib.toList_data, strOfNums_data]
      generalize rd l ((l.length : Int) - 1) = x at hb
      have key : ∀ z : Fin 256, (([(z.val : Int)].map fun n => UInt8.ofNat n.toNat) == (⟨#[32]⟩ : ByteArray).data.toList) = decide ((z.val : Int) = 32) := by decide +kernel
      have := key ⟨x.toNat, by omega⟩
      simpa [Int.toNat_of_nonneg hb.1] using this
    rw [e2]
    by_cases h : rd l ((l.length : Int) - 1) = 32
    · rw [decide_eq_true h]
      simp only [if_true, Option.bind_some]
      rw [if_pos (show l ≠ [] ∧ rd l ((l.length : Int) - 1) = 32 from ⟨hn, h⟩), son_take, show ((l.length : Int) - 1).toNat = l.length - 1 by omega, if_pos (show 0 ≤ (l.length : Int) - 1 by omega), if_pos (show (l.length : Int) - 1 ≤ (l.length : Int) by omega)]; rfl
    · rw [decide_eq_false h, if_neg (show ¬ (l ≠ [] ∧ rd l ((l.length : Int) - 1) = 32) from fun x => h x.2)]; rfl
theorem nput_range {l : List Int} {c : Int} (hl : ∀ x ∈ l, 0 ≤ x ∧ x ≤ 255) (hc : 0 ≤ c ∧ c ≤ 255) : ∀ x ∈ nput l c, 0 ≤ x ∧ x ≤ 255 := by
  intro x hx
  unfold nput at hx
  split at hx
  · exact hl x hx
  · rcases List.mem_append.1 hx with h | h
    · exact hl x h
    · rw [List.mem_singleton.1 h]; exact hc
theorem up_range {c : Int} (hc : 0 ≤ c ∧ c ≤ 255) : 0 ≤ up c ∧ up c ≤ 255 := by unfold up; split <;> omega
theorem impl_Norm_l0 (s : ByteArray) (hs : s.size ≤ 100) : ∀ (d k : Nat) (i : Int) (l : List Int), 0 ≤ i → i + d = s.size → 2 * d < k → l.length ≤ i → (∀ x ∈ l, 0 ≤ x ∧ x ≤ 255) →
    impl_Norm.l0 k s l (s.size : Int) i = some (strOfNums (ntrim (nfold l ((bytesOf s).drop i.toNat))))
  | 0, k, i, l, h0, hd, hk, hl, hr => by
    obtain ⟨k, rfl⟩ : ∃ m, k = m + 1 := ⟨k - 1, by omega⟩
    simp only [impl_Norm.l0]
    rw [if_neg (by omega), List.drop_of_length_le (by rw [bytesOf_length]; omega), trim_blank l (by omega) hr]
    rfl
  | d + 1, k, i, l, h0, hd, hk, hl, hr => by
    obtain ⟨k, rfl⟩ : ∃ m, k = m + 2 := ⟨k - 2, by omega⟩
    have hb := bt_range s i
    have hj : ∀ b : Bool, b = (decide (bt s i ≥ 65) && decide (bt s i ≤ 90)) → impl_Norm.j2 (k + 1) s l (bt s i) (s.size : Int) i b = some (strOfNums (ntrim (nfold l ((bytesOf s).drop i.toNat)))) := by
      intro b hbb
      rw [impl_Norm_j2 k s l _ i _ b (by omega) h0 (by omega), up_of hb.1 hb.2 b hbb]
      have := nput_length l (up (bt s i))
      rw [impl_Norm_l0 s hs d k (i + 1) _ (by omega) (by omega) (by omega) (by omega) (nput_range hr (up_range hb)), drop_bt s i h0 (by omega)]; rfl
    simp only [impl_Norm.l0]
    rw [if_pos (by omega), if_pos h0, if_pos (by omega)]
    by_cases h : bt s i ≥ 65
    · rw [if_pos h]; exact hj _ (by simp [h])
    · rw [if_neg h]; exact hj _ (by simp [h])
theorem spec_Norm_f (s : ByteArray) (k : Nat) (hk : 2 * s.size + 2 < k) : spec_Norm.f k s = some (NormP s) := by
  obtain ⟨k, rfl⟩ : ∃ m, k = m + 1 := ⟨k - 1, by omega⟩
  unfold spec_Norm.f NormP NormL
  by_cases h : s.size ≤ 100
  · rw [if_neg (by omega), spec_l02Plain_f s (by omega) _ (by omega)]
    simp only [Option.bind_some, spec_Norm.j0]
    by_cases hp : plainP s = true
    · rw [if_neg (by simp [hp]), if_pos ⟨h, hp⟩, spec_Norm_l0 s h s.size k 0 [] (by omega) (by omega) (by omega) (by simp)]; rfl
    · rw [if_pos (by simp [hp]), if_neg (fun x => hp x.2)]; rfl
  · rw [if_pos (by omega), if_neg (fun x => h x.1)]
    simp only [spec_Norm.j0, if_true]; rfl
theorem impl_Norm_f (s : ByteArray) (k : Nat) (hk : 2 * s.size + 2 < k) : impl_Norm.f k s = some (NormP s) := by
  obtain ⟨k, rfl⟩ : ∃ m, k = m + 1 := ⟨k - 1, by omega⟩
  unfold impl_Norm.f NormP NormL
  by_cases h : s.size ≤ 100
  · rw [if_neg (by omega), impl_isPrintable_f s (by omega) _ (by omega)]
    simp only [Option.bind_some, impl_Norm.j0]
    by_cases hp : plainP s = true
    · rw [if_neg (by simp [hp]), if_pos ⟨h, hp⟩, impl_Norm_l0 s h s.size k 0 [] (by omega) (by omega) (by omega) (by simp) (by simp)]; rfl
    · rw [if_pos (by simp [hp]), if_neg (fun x => hp x.2)]; rfl
  · rw [if_pos (by omega), if_neg (fun x => h x.1)]
    simp only [impl_Norm.j0, if_true]; rfl

/-! what Norm leaves -/
theorem bytesOf_son (l : List Int) (h : ∀ x ∈ l, 0 ≤ x ∧ x ≤ 255) : bytesOf (strOfNums l) = l := by
  unfold bytesOf
  rw [strOfNums_data, List.map_map]
  conv => rhs; rw [← List.map_id l]
  apply List.map_congr_left
  intro x hx
  have := h x hx
  simp only [Function.comp, id]
  rw [UInt8.toNat_ofNat']
  omega
/-- No capital, no other byte than a printable one, no blank at the begin, none behind another. -/
def Good (l : List Int) : Prop := ∀ p c s, l = p ++ c :: s → (prt c = true ∧ ¬ (65 ≤ c ∧ c ≤ 90)) ∧ (c = 32 → p ≠ [] ∧ rd p ((p.length : Int) - 1) ≠ 32)
theorem rd_last (p : List Int) (c : Int) : rd (p ++ [c]) (((p ++ [c]).length : Int) - 1) = c := by
  unfold rd
  rw [show (((p ++ [c]).length : Int) - 1).toNat = p.length by simp, List.getD_eq_getElem?_getD, List.getElem?_append_right (by omega)]
  simp
theorem Good.nil : Good [] := by
  intro p c s h
  simp at h
theorem Good.take {l : List Int} (h : Good l) (n : Nat) : Good (l.take n) := by
  intro p c s e
  have e2 : l = p ++ c :: (s ++ l.drop n) := by
    conv => lhs; rw [← List.take_append_drop n l]
    rw [e]; simp
  exact h p c _ e2
theorem Good.snoc {l : List Int} {c : Int} (h : Good l) (hc : prt c = true ∧ ¬ (65 ≤ c ∧ c ≤ 90)) (h2 : c = 32 → l ≠ [] ∧ rd l ((l.length : Int) - 1) ≠ 32) : Good (l ++ [c]) := by
  intro p d s e
  rcases List.eq_nil_or_concat s with rfl | ⟨s', x, rfl⟩
  · have := List.append_inj' e rfl
    obtain ⟨e1, e2⟩ := this
    subst e1
    simp only [List.cons.injEq, and_true] at e2
    subst e2
    exact ⟨hc, h2⟩
  · have e' : l ++ [c] = (p ++ d :: s') ++ [x] := by rw [e]; simp
    have := List.append_inj' e' rfl
    exact h p d s' this.1
theorem Good.put {l : List Int} {c : Int} (h : Good l) (hc : prt c = true ∧ ¬ (65 ≤ c ∧ c ≤ 90)) : Good (nput l c) := by
  unfold nput
  split
  · exact h
  · rename_i hn
    refine h.snoc hc (fun hc2 => ⟨fun e => hn ⟨hc2, .inl e⟩, fun e => hn ⟨hc2, .inr e⟩⟩)
theorem prt_iff {c : Int} : prt c = true ↔ 32 ≤ c ∧ c ≤ 126 := by unfold prt; simp
theorem up_good {c : Int} (h : prt c = true) : prt (up c) = true ∧ ¬ (65 ≤ up c ∧ up c ≤ 90) := by
  rw [prt_iff] at h ⊢
  unfold up
  split <;> omega
theorem Good.fold : ∀ (cs l : List Int), Good l → (∀ c ∈ cs, prt c = true) → Good (nfold l cs)
  | [], l, h, _ => h
  | c :: cs, l, h, hc => Good.fold cs _ (h.put (up_good (hc c (by simp)))) (fun x hx => hc x (by simp [hx]))
/-- What Norm gives: and no blank at the end. -/
def Normal (l : List Int) : Prop := Good l ∧ (l ≠ [] → rd l ((l.length : Int) - 1) ≠ 32) ∧ l.length ≤ 100
theorem Normal.nil : Normal [] := ⟨Good.nil, fun h => absurd rfl h, by simp⟩
theorem nfold_length : ∀ (cs l : List Int), (nfold l cs).length ≤ l.length + cs.length
  | [], l => by simp [nfold]
  | c :: cs, l => by
    have h1 := nfold_length cs (nput l (up c))
    have h2 := nput_length l (up c)
    have h3 : nfold l (c :: cs) = nfold (nput l (up c)) cs := rfl
    rw [h3, List.length_cons]; omega
theorem NormL_normal (s : ByteArray) : Normal (NormL s) := by
  unfold NormL
  split
  · rename_i h
    have hg : Good (nfold [] (bytesOf s)) := Good.fold _ _ Good.nil (by
      have := h.2
      unfold plainP at this
      exact List.all_eq_true.1 this)
    have hl := nfold_length (bytesOf s) []
    rw [bytesOf_length] at hl
    simp only [List.length_nil, Nat.zero_add] at hl
    generalize nfold [] (bytesOf s) = l at hg hl
    unfold ntrim
    split
    · rename_i h2
      have hp : 0 < l.length := List.length_pos_iff.2 h2.1
      refine ⟨hg.take _, fun hne => ?_, by rw [List.length_take]; omega⟩
      have e : l = l.take (l.length - 1) ++ [32] := by
        have := drop_last l hp
        rw [h2.2] at this
        conv => lhs; rw [← List.take_append_drop (l.length - 1) l]
        rw [this]
      exact ((hg _ _ _ e).2 rfl).2
    · rename_i h2
      exact ⟨hg, fun hne h3 => h2 ⟨hne, h3⟩, by omega⟩
  · exact Normal.nil
theorem Good.range {l : List Int} (h : Good l) : ∀ x ∈ l, 0 ≤ x ∧ x ≤ 255 := by
  intro x hx
  obtain ⟨p, s, e⟩ := List.append_of_mem hx
  have := (h p x s e).1.1
  rw [prt_iff] at this
  omega
theorem up_id {c : Int} (h : ¬ (65 ≤ c ∧ c ≤ 90)) : up c = c := by unfold up; rw [if_neg h]
theorem nput_snoc {p : List Int} {c : Int} (h : c = 32 → p ≠ [] ∧ rd p ((p.length : Int) - 1) ≠ 32) : nput p c = p ++ [c] := by
  unfold nput
  rw [if_neg]
  rintro ⟨hc, h1 | h2⟩
  · exact (h hc).1 h1
  · exact (h hc).2 h2
theorem Good.refold {l : List Int} (h : Good l) : ∀ (s p : List Int), l = p ++ s → nfold p s = l
  | [], p, e => by rw [e]; simp [nfold]
  | c :: s, p, e => by
    have hc := h p c s e
    have h3 : nfold p (c :: s) = nfold (nput p (up c)) s := rfl
    rw [h3, up_id hc.1.2, nput_snoc hc.2]
    exact Good.refold h s (p ++ [c]) (by rw [e]; simp)
theorem Normal.trim {l : List Int} (h : Normal l) : ntrim l = l := by
  unfold ntrim
  rw [if_neg (fun x => h.2.1 x.1 x.2)]
theorem Good.plain {l : List Int} (h : Good l) : plainP (strOfNums l) = true := by
  unfold plainP
  rw [bytesOf_son l h.range, List.all_eq_true]
  intro x hx
  obtain ⟨p, s, e⟩ := List.append_of_mem hx
  exact (h p x s e).1.1
theorem Normal.norm {l : List Int} (h : Normal l) : NormL (strOfNums l) = l := by
  unfold NormL
  rw [if_pos ⟨by rw [strOfNums_size]; exact h.2.2, h.1.plain⟩, bytesOf_son l h.1.range, h.1.refold l [] rfl, h.trim]
theorem NormP_idem (s : ByteArray) : NormP (NormP s) = NormP s := by
  unfold NormP
  rw [(NormL_normal s).norm]

/-! the draws -/
def SrcOK (b : List Int) (a m : Int) : Prop := b.length ≤ 140737488351232 ∧ (∀ x ∈ b, 0 ≤ x ∧ x ≤ 255) ∧ 0 ≤ a ∧ a ≤ b.length ∧ 0 ≤ m ∧ m < 18446744073709551616
theorem u64_bits_range (op : BinOp) (x y : Int) : 0 ≤ Go.bits op .u64 x y ∧ Go.bits op .u64 x y < 18446744073709551616 := by
  unfold Go.bits
  rw [IntKind.wrap_u64]
  omega
theorem wf_u8 {n : Int} (h : (Lit.int .u8 n).wf = true) : 0 ≤ n ∧ n ≤ 255 := by
  simpa [Lit.wf, IntKind.min, IntKind.max, IntKind.bits, IntKind.signed] using h
theorem draw_n (b : List Int) (a m z most : Int) (h : SrcOK b a m) (h1 : most ≤ 9223372036854775807) :
    ∃ r a' m', spec_l01Src_n.f b a m z most = some (r, a', m', z) ∧ 0 ≤ r ∧ (1 ≤ most → r < most) ∧ SrcOK b a' m' := by
  obtain ⟨hb, hr, ha0, ha1, hm0, hm1⟩ := h
  unfold spec_l01Src_n.f
  by_cases hm : most ≤ 1
  · rw [if_pos hm]
    exact ⟨0, a, m, rfl, by omega, by omega, hb, hr, ha0, ha1, hm0, hm1⟩
  · rw [if_neg hm]
    have hw : IntKind.u64.wrap most = most := u64w (by omega) (by omega)
    have fin : ∀ X : Int, 0 ≤ X → wrap64 (Int.tmod X most) = X % most ∧ 0 ≤ X % most ∧ X % most < most := by
      intro X hX
      have h3 : 0 ≤ X % most := Int.emod_nonneg _ (by omega)
      have h4 : X % most < most := Int.emod_lt_of_pos _ (by omega)
      rw [Int.tmod_eq_emod_of_nonneg hX]
      exact ⟨w64 (by omega) (by omega), h3, h4⟩
    have uw : ∀ x : Int, 0 ≤ IntKind.u64.wrap x := fun x => by rw [IntKind.wrap_u64]; omega
    generalize hM : Go.bits .xor .u64 (Go.bits .xor .u64 (Go.bits .xor .u64 m (IntKind.u64.wrap (m * 8192))) ((Go.bits .xor .u64 m (IntKind.u64.wrap (m * 8192))) / 128)) (IntKind.u64.wrap ((Go.bits .xor .u64 (Go.bits .xor .u64 m (IntKind.u64.wrap (m * 8192))) ((Go.bits .xor .u64 m (IntKind.u64.wrap (m * 8192))) / 128)) * 131072)) = M
    have hMr : 0 ≤ M ∧ M < 18446744073709551616 := by rw [← hM]; exact u64_bits_range _ _ _
    rw [hw, if_neg (show ¬ most = 0 by omega), if_neg (show ¬ most = 0 by omega)]
    by_cases hl : a < (b.length : Int)
    · rw [if_pos hl, if_pos ha0, w64 (x := a + 1) (by omega) (by omega)]
      obtain ⟨e, e0, e1⟩ := fin (IntKind.u64.wrap (IntKind.u64.wrap (rd b a) + M / 1048576)) (uw _)
      rw [e]
      exact ⟨_, _, _, rfl, e0, fun _ => e1, hb, hr, by omega, by omega, hMr.1, hMr.2⟩
    · rw [if_neg hl]
      obtain ⟨e, e0, e1⟩ := fin (IntKind.u64.wrap (0 + M / 1048576)) (uw _)
      rw [e]
      exact ⟨_, _, _, rfl, e0, fun _ => e1, hb, hr, ha0, ha1, hMr.1, hMr.2⟩
theorem draw_source_l0 (l : List Int) : ∀ (d k : Nat) (i m : Int), 0 ≤ i → i + d = 64 → d < k → 0 ≤ m → m < 18446744073709551616 →
    ∃ m' z', spec_l01Source.l0 k l i l 0 m 0 = some (l, 0, m', z') ∧ 0 ≤ m' ∧ m' < 18446744073709551616
  | d, k, i, m, h0, hd, hk, hm0, hm1 => by
    obtain ⟨k, rfl⟩ : ∃ q, k = q + 1 := ⟨k - 1, by omega⟩
    rw [spec_l01Source.l0]
    have fin : ∀ X : Int, ∃ m' z', (if X > 12 then some (l, (0 : Int), m, (12 : Int)) else some (l, (0 : Int), m, X)) = some (l, 0, m', z') ∧ 0 ≤ m' ∧ m' < 18446744073709551616 := by
      intro X
      split
      · exact ⟨m, _, rfl, hm0, hm1⟩
      · exact ⟨m, _, rfl, hm0, hm1⟩
    by_cases hl : i < (l.length : Int)
    · rw [if_pos hl]
      by_cases h64 : i < 64
      · rw [if_pos h64, if_pos h0, w64 (x := i + 1) (by omega) (by omega)]
        cases d with
        | zero => omega
        | succ d =>
          have hr : ∀ x : Int, 0 ≤ IntKind.u64.wrap x ∧ IntKind.u64.wrap x < 18446744073709551616 := fun x => by rw [IntKind.wrap_u64]; omega
          exact draw_source_l0 l d k (i + 1) _ (by omega) (by omega) (by omega) (hr _).1 (hr _).2
      · rw [if_neg h64]; exact fin _
    · rw [if_neg hl]; exact fin _
theorem draw_source (l : List Int) (hl : l.length ≤ 140737488351232) (hr : ∀ x ∈ l, 0 ≤ x ∧ x ≤ 255) (k : Nat) (hk : 65 ≤ k) :
    ∃ m z, spec_l01Source.f k l = some (l, 0, m, z) ∧ SrcOK l 0 m := by
  obtain ⟨m, z, e, h0, h1⟩ := draw_source_l0 l 64 k 0 88172645463325252 (by omega) (by omega) (by omega) (by omega) (by omega)
  exact ⟨m, z, e, hl, hr, by omega, by omega, h0, h1⟩
theorem draw_one (b : List Int) (a m z most : Int) (h : SrcOK b a m) (h1 : most ≤ 9223372036854775807) :
    ∃ r a' m', spec_l01Src_one.f b a m z most = some (r, a', m', z) ∧ SrcOK b a' m' := by
  obtain ⟨r, a', m', e, _, _, h'⟩ := draw_n b a m z most h h1
  unfold spec_l01Src_one.f
  rw [e]
  exact ⟨_, _, _, rfl, h'⟩

theorem draw_pick (b : List Int) (a m z : Int) (l : List ByteArray) (h : SrcOK b a m) (h0 : 0 < l.length) (h1 : l.length ≤ 1000) :
    ∃ v a' m', spec_l01Src_pick.f b a m z l = some (v, a', m', z) ∧ v ∈ l ∧ SrcOK b a' m' := by
  obtain ⟨r, a', m', e, r0, r1, h'⟩ := draw_n b a m z (l.length : Int) h (by omega)
  unfold spec_l01Src_pick.f
  rw [e]
  simp only [Option.bind_some]
  have := r1 (by omega)
  rw [if_pos r0, if_pos this]
  refine ⟨_, _, _, rfl, ?_, h'⟩
  unfold rdOf
  rw [List.getD_eq_getElem?_getD, List.getElem?_eq_getElem (by omega)]
  exact List.getElem_mem _

theorem draw_norm (l : List Int) (hl : l.length ≤ 140737488351232) (hr : ∀ x ∈ l, 0 ≤ x ∧ x ≤ 255) (k : Nat) (hk : 65 ≤ k) : ∃ t, spec_DrawNorm.f k l = some t ∧ t.size ≤ 20 := by
  obtain ⟨m, z, e, h⟩ := draw_source l hl hr k hk
  obtain ⟨r, a1, m1, e1, h1⟩ := draw_one l 0 m z 8 h (by omega)
  unfold spec_DrawNorm.f
  rw [e]
  simp only [Option.bind_some, e1]
  cases r with
  | true =>
    rw [if_pos rfl, if_pos (by omega)]
    obtain ⟨v, a2, m2, e2, hv, h2⟩ := draw_pick l a1 m1 z [(⟨#[]⟩ : ByteArray), (⟨#[97]⟩ : ByteArray)] h1 (by simp) (by simp)
    have hz : v.size ≤ 7 := (show ∀ v ∈ [(⟨#[]⟩ : ByteArray), (⟨#[97]⟩ : ByteArray)], v.size ≤ 7 by decide +kernel) v hv
    simp only [Option.bind_some, e2, strOfNums_size, List.length_replicate]
    rw [if_pos (by omega)]
    exact ⟨_, rfl, by rw [ba_append_size, strOfNums_size, List.length_replicate]; omega⟩
  | false =>
    rw [if_neg (by simp)]
    obtain ⟨v, a2, m2, e2, hv, h2⟩ := draw_pick l a1 m1 z [(⟨#[]⟩ : ByteArray), (⟨#[32, 32]⟩ : ByteArray), (⟨#[65, 110, 110, 32, 32, 66, 32]⟩ : ByteArray), (⟨#[32, 97, 90]⟩ : ByteArray), (⟨#[120]⟩ : ByteArray), (⟨#[97, 32, 98, 32, 32, 32, 99]⟩ : ByteArray)] h1 (by simp) (by simp)
    have hz : v.size ≤ 7 := (show ∀ v ∈ [(⟨#[]⟩ : ByteArray), (⟨#[32, 32]⟩ : ByteArray), (⟨#[65, 110, 110, 32, 32, 66, 32]⟩ : ByteArray), (⟨#[32, 97, 90]⟩ : ByteArray), (⟨#[120]⟩ : ByteArray), (⟨#[97, 32, 98, 32, 32, 32, 99]⟩ : ByteArray)], v.size ≤ 7 by decide +kernel) v hv
    obtain ⟨u, a3, m3, e3, hu, h3⟩ := draw_pick l a2 m2 z [(⟨#[]⟩ : ByteArray), (⟨#[32]⟩ : ByteArray), (⟨#[81]⟩ : ByteArray)] h2 (by simp) (by simp)
    have hz2 : u.size ≤ 7 := (show ∀ v ∈ [(⟨#[]⟩ : ByteArray), (⟨#[32]⟩ : ByteArray), (⟨#[81]⟩ : ByteArray)], v.size ≤ 7 by decide +kernel) u hu
    simp only [Option.bind_some, e2, e3]
    rw [if_pos (by omega)]
    exact ⟨_, rfl, by rw [ba_append_size]; omega⟩
theorem lwAt_2 (l : List Int) (hl : l.length ≤ 140737488351232) (hr : ∀ x ∈ l, 0 ≤ x ∧ x ≤ 255) (i : Int) (h0 : 0 ≤ i) : ∃ v, laws_lwAt.f l i 2 = some v := by
  unfold laws_lwAt.f
  rw [if_neg (by omega)]
  by_cases h : (l.length : Int) = 0
  · rw [if_pos h]; exact ⟨_, rfl⟩
  · rw [if_neg h, Int.tmod_eq_emod_of_nonneg h0, if_pos (Int.emod_nonneg _ h), if_pos (Int.emod_lt_of_pos _ (by omega)), if_neg (by omega)]
    exact ⟨_, rfl⟩
/-- What a byte of the normal form is turned to. -/
def turned (c : Int) (b : Bool) : List Int := if (if b = true then c - 32 else c) = 32 then [32, 32] else [if b = true then c - 32 else c]
theorem FnNorm_j2 (k : Nat) (l : List Int) (n : ByteArray) (g : List Int) (i c : Int) (b : Bool) (hg : g.length < 1000) (h0 : 0 ≤ i) (h1 : i < 1000) (hc : 32 ≤ c ∧ c ≤ 126) (hb : b = true → 97 ≤ c ∧ c ≤ 122) :
    laws_FnNorm.j2 (k + 1) l n g i c b = laws_FnNorm.l0 k l n (g ++ turned c b) (i + 1) := by
  rw [laws_FnNorm.j2, w64 (x := i + 1) (by omega) (by omega)]
  unfold turned
  cases b with
  | true =>
    have := hb rfl
    rw [if_pos rfl, if_pos (by omega), show (c - 32) % 256 = c - 32 by omega]
    simp only [Option.bind_some, if_true]
    rw [if_neg (by omega), if_neg (by omega)]
  | false =>
    rw [if_neg (by simp), if_pos (by omega)]
    simp only [Option.bind_some]
    rw [if_neg (show ¬ (false = true) by simp)]
    by_cases hc2 : c = 32
    · rw [if_pos hc2, if_pos (by simp only [List.length_append, List.length_singleton]; omega), if_pos hc2, hc2]; simp
    · rw [if_neg hc2, if_neg hc2]
theorem nfold_append (l a b : List Int) : nfold l (a ++ b) = nfold (nfold l a) b := by unfold nfold; rw [List.foldl_append]
theorem nfold_turned {p : List Int} {c : Int} {b : Bool} (hc : (prt c = true ∧ ¬ (65 ≤ c ∧ c ≤ 90)) ∧ (c = 32 → p ≠ [] ∧ rd p ((p.length : Int) - 1) ≠ 32)) (hb : b = true → 97 ≤ c ∧ c ≤ 122) :
    nfold p (turned c b) = p ++ [c] := by
  unfold turned
  cases b with
  | true =>
    have := hb rfl
    simp only [if_true]
    rw [if_neg (by omega)]
    have e : nfold p [c - 32] = nput p (up (c - 32)) := rfl
    rw [e, show up (c - 32) = c by unfold up; rw [if_pos (by omega)]; omega, nput_snoc hc.2]
  | false =>
    rw [if_neg (show ¬ (false = true) by simp)]
    by_cases h : c = 32
    · rw [if_pos h]
      have e : nfold p [32, 32] = nput (nput p (up 32)) (up 32) := rfl
      have h2 : c = 32 → p ≠ [] ∧ rd p ((p.length : Int) - 1) ≠ 32 := hc.2
      rw [h] at h2
      rw [e, show up 32 = 32 from rfl, nput_snoc h2, h]
      unfold nput
      rw [if_pos ⟨rfl, .inr (rd_last p 32)⟩]
    · rw [if_neg h]
      have e : nfold p [c] = nput p (up c) := rfl
      rw [e, up_id hc.1.2, nput_snoc hc.2]
theorem turned_range {c : Int} {b : Bool} (hc : 32 ≤ c ∧ c ≤ 126) (hb : b = true → 97 ≤ c ∧ c ≤ 122) : ∀ x ∈ turned c b, prt x = true := by
  intro x hx
  rw [prt_iff]
  unfold turned at hx
  cases b with
  | true =>
    have := hb rfl
    simp only [if_true] at hx
    rw [if_neg (by omega)] at hx
    simp only [List.mem_singleton] at hx
    omega
  | false =>
    rw [if_neg (show ¬ (false = true) by simp)] at hx
    split at hx
    · simp only [List.mem_cons, List.not_mem_nil, or_false, or_self] at hx; omega
    · simp only [List.mem_singleton] at hx; omega
theorem turned_length (c : Int) (b : Bool) : (turned c b).length ≤ 2 := by
  unfold turned
  by_cases h : (if b = true then c - 32 else c) = 32
  · rw [if_pos h]; exact Nat.le_refl 2
  · rw [if_neg h]; exact (by decide : 1 ≤ 2)
theorem FnNorm_l0 (l : List Int) (hl : l.length ≤ 140737488351232) (hr : ∀ x ∈ l, 0 ≤ x ∧ x ≤ 255) (n : List Int) (hn : Normal n) : ∀ (s p g : List Int) (k : Nat), n = p ++ s → nfold [] g = p → (∀ x ∈ g, prt x = true) → g.length ≤ 2 * p.length + 1 → 2 * s.length + 200 ≤ k →
    laws_FnNorm.l0 k l (strOfNums n) g (p.length : Int) = some true
  | s, p, g, k, e, hg, hgp, hgl, hk => by
    obtain ⟨k, rfl⟩ : ∃ q, k = q + 1 := ⟨k - 1, by omega⟩
    have hlen : n.length = p.length + s.length := by rw [e]; simp
    have hl100 := hn.2.2
    have hbo := bytesOf_son n hn.1.range
    rw [laws_FnNorm.l0, strOfNums_size]
    cases s with
    | nil =>
      rw [if_neg (by simp only [List.length_nil] at hlen; omega)]
      by_cases h90 : (g.length : Int) > 90
      · rw [if_pos h90]
      · rw [if_neg h90, if_pos (by omega), impl_Norm_f _ _ (by rw [strOfNums_size, List.length_append, List.length_singleton]; have hk2 : 2 * 0 + 200 ≤ k + 1 := hk; omega)]
        simp only [Option.bind_some]
        have hp : p = n := by rw [e]; simp
        have hgr : ∀ x ∈ g ++ [32], 0 ≤ x ∧ x ≤ 255 := by
          intro x hx
          rcases List.mem_append.1 hx with h | h
          · have := prt_iff.1 (hgp x h); omega
          · rw [List.mem_singleton.1 h]; omega
        have key : NormL (strOfNums (g ++ [32])) = n := by
          unfold NormL
          rw [if_pos, bytesOf_son _ hgr, nfold_append, hg, hp]
          · have e2 : nfold n [32] = nput n 32 := rfl
            rw [e2]
            unfold nput
            by_cases hne : n = []
            · rw [if_pos ⟨rfl, .inl hne⟩, hn.trim]
            · rw [if_neg (fun x => x.2.elim hne (hn.2.1 hne))]
              unfold ntrim
              rw [if_pos ⟨by simp, rd_last n 32⟩, List.length_append, List.length_singleton, Nat.add_sub_cancel, List.take_left']
              rfl
          · refine ⟨by rw [strOfNums_size, List.length_append, List.length_singleton]; omega, ?_⟩
            unfold plainP
            rw [bytesOf_son _ hgr, List.all_eq_true]
            intro x hx
            rcases List.mem_append.1 hx with h | h
            · exact hgp x h
            · rw [List.mem_singleton.1 h]; rfl
        unfold NormP
        rw [key]; simp
    | cons c s =>
      have hc := hn.1 p c s e
      have hcr := prt_iff.1 hc.1.1
      have hbt : bt (strOfNums n) (p.length : Int) = c := by
        rw [← rd_bytesOf, hbo, e]
        unfold rd
        rw [List.getD_eq_getElem?_getD, show ((p.length : Int)).toNat = p.length from rfl, List.getElem?_append_right (by omega)]
        simp
      obtain ⟨v, hv⟩ := lwAt_2 l hl hr (p.length : Int) (by omega)
      obtain ⟨k, rfl⟩ : ∃ q, k = q + 1 := ⟨k - 1, by simp only [List.length_cons] at hk; omega⟩
      have go : ∀ b : Bool, (b = true → 97 ≤ c ∧ c ≤ 122) → laws_FnNorm.j2 (k + 1) l (strOfNums n) g (p.length : Int) c b = some true := by
        intro b hb
        simp only [List.length_cons] at hk hlen
        rw [FnNorm_j2 k l _ g _ c b (by omega) (by omega) (by omega) hcr hb]
        have := FnNorm_l0 l hl hr n hn s (p ++ [c]) (g ++ turned c b) k (by rw [e]; simp) (by rw [nfold_append, hg, nfold_turned hc hb]) (by
          intro x hx
          rcases List.mem_append.1 hx with h | h
          · exact hgp x h
          · exact turned_range hcr hb x h) (by have := turned_length c b; simp only [List.length_append, List.length_singleton]; omega) (by omega)
        rw [List.length_append, List.length_singleton, Int.natCast_add] at this
        exact this
      rw [if_pos (by simp only [List.length_cons] at hlen; omega), if_pos (by omega), hbt]
      by_cases h1 : c ≥ 97
      · rw [if_pos h1]
        by_cases h2 : c ≤ 122
        · rw [if_pos h2, hv]
          exact go _ (fun _ => ⟨h1, h2⟩)
        · rw [if_neg h2]; exact go _ (fun h => by cases h)
      · rw [if_neg h1]; exact go _ (fun h => by cases h)
  termination_by s => s.length
theorem FnNorm : laws_FnNorm.Pure := by
  intro l _ hl hw
  have hr : ∀ x ∈ l, 0 ≤ x ∧ x ≤ 255 := fun x hx => wf_u8 (hw x hx)
  refine ⟨?_, ?_⟩
  · exact 1000
  unfold laws_FnNorm.f
  by_cases h : (l.length : Int) > 1048576
  · rw [if_pos h]
  · rw [if_neg h]
    obtain ⟨t, e, ht⟩ := draw_norm l (by omega) hr 1000 (by omega)
    have hN := NormL_normal t
    have hz : (NormP t).size ≤ 100 := by unfold NormP; rw [strOfNums_size]; exact hN.2.2
    rw [e]
    simp only [Option.bind_some]
    rw [impl_Norm_f t 1000 (by omega), spec_Norm_f t 1000 (by omega)]
    simp only [Option.bind_some, if_true]
    rw [impl_Norm_f _ 1000 (by omega), NormP_idem]
    simp only [Option.bind_some]
    rw [show ((NormP t).toList != (NormP t).toList) = false by simp, laws_FnNorm.j0, if_neg (by simp)]
    exact FnNorm_l0 l (by omega) hr (NormL t) hN (NormL t) [] [32] 999 rfl rfl (by simp [prt]) (by simp) (by have := hN.2.2; omega)

end Go.Proofs.Yticbafilcicdjaa.Pure
