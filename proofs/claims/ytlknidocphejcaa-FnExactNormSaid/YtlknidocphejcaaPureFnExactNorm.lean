/- The law FnExactNorm answers true at every string: the program's Norm gives what the reference's gives. No condition. -/
import Derived.Test.YtlknidocphejcaaPFnExactNormx2
import Derived.Laws.Bits64
import Derived.Lib.Strings
namespace Go.Proofs.Ytlknidocphejcaa.Pure
open Go.RowKit Go.Proofs.Ytlknidocphejcaa.PFnExactNorm Go.Proofs.YtlknidocphejcaaW.PrintWords Go.Proofs.YtlknidocphejcaaW.PrintLast
set_option linter.unusedVariables false
set_option linter.unusedSimpArgs false

/-! plain lemmas -/
theorem w64 {x : Int} (h0 : -9223372036854775808 ≤ x) (h1 : x ≤ 9223372036854775807) : wrap64 x = x := by unfold wrap64; omega
theorem u64w {x : Int} (h0 : 0 ≤ x) (h1 : x < 18446744073709551616) : IntKind.u64.wrap x = x := by rw [IntKind.wrap_u64]; omega
theorem son_append (xs ys : List Int) : strOfNums (xs ++ ys) = strOfNums xs ++ strOfNums ys := by
  unfold strOfNums
  apply ByteArray.ext
  simp
theorem ba_append_size (a b : ByteArray) : (a ++ b).size = a.size + b.size := by simp
theorem ba_append_assoc (a b c : ByteArray) : (a ++ b) ++ c = a ++ (b ++ c) := by
  apply ByteArray.ext
  simp
/-- The comparison at the end of a law. -/
theorem law_end {A B : Option ByteArray} {r : ByteArray} (hA : A = some r) (hB : B = some r) :
    (A.bind fun t => B.bind fun t' => if t'.toList = t.toList then some true else some false) = some true := by
  rw [hA, hB]; simp
theorem wf_i64 {n : Int} (h : (Lit.int .i64 n).wf = true) : -9223372036854775808 ≤ n ∧ n ≤ 9223372036854775807 := by
  simpa [Lit.wf, IntKind.min, IntKind.max, IntKind.bits, IntKind.signed] using h

/-! Norm -/
/-- A capital as a small letter. -/
def up (c : Int) : Int := if 65 ≤ c ∧ c ≤ 90 then c + 32 else c
/-- A byte put behind what is there: no blank at the begin, none behind another. -/
def nput (l : List Int) (c : Int) : List Int := if c = 32 ∧ (l = [] ∨ rd l ((l.length : Int) - 1) = 32) then l else l ++ [c]
def nfold (l cs : List Int) : List Int := cs.foldl (fun l c => nput l (up c)) l
def ntrim (l : List Int) : List Int := if l ≠ [] ∧ rd l ((l.length : Int) - 1) = 32 then l.take (l.length - 1) else l
def prt (c : Int) : Bool := decide (32 ≤ c) && decide (c ≤ 126)
theorem prt_lo {c : Int} (h : c < 32) : prt c = false := by unfold prt; rw [decide_eq_false (by omega)]; rfl
theorem prt_hi {c : Int} (h : c > 126) : prt c = false := by unfold prt; rw [decide_eq_false (p := c ≤ 126) (by omega)]; simp
def plainP (s : ByteArray) : Bool := (bytesOf s).all prt
def NormL (s : ByteArray) : List Int := if s.size ≤ 100 ∧ plainP s = true then ntrim (nfold [] (bytesOf s)) else []
def NormP (s : ByteArray) : ByteArray := strOfNums (NormL s)
theorem son_nil : strOfNums [] = (⟨#[]⟩ : ByteArray) := rfl
theorem drop_bt (s : ByteArray) (i : Int) (h0 : 0 ≤ i) (h1 : i < s.size) : (bytesOf s).drop i.toNat = bt s i :: (bytesOf s).drop (i + 1).toNat := by
  have hl : i.toNat < (bytesOf s).length := by rw [bytesOf_length]; omega
  rw [List.drop_eq_getElem_cons hl, ← rd_bytesOf, show (i + 1).toNat = i.toNat + 1 by omega]
  congr 1
  unfold rd
  rw [List.getD_eq_getElem?_getD, List.getElem?_eq_getElem hl]; rfl
theorem spec_l02Plain_l0 (s : ByteArray) (hs : s.size ≤ 4611686018427387904) : ∀ (d k : Nat) (i : Int), 0 ≤ i → i + d = s.size → d < k →
    spec_l02Plain.l0 k s i = some (((bytesOf s).drop i.toNat).all prt)
  | 0, k, i, h0, hd, hk => by
    obtain ⟨k, rfl⟩ : ∃ m, k = m + 1 := ⟨k - 1, by omega⟩
    simp only [spec_l02Plain.l0]
    rw [if_neg (by omega), List.drop_of_length_le (by rw [bytesOf_length]; omega)]; rfl
  | d + 1, k, i, h0, hd, hk => by
    obtain ⟨k, rfl⟩ : ∃ m, k = m + 1 := ⟨k - 1, by omega⟩
    simp only [spec_l02Plain.l0]
    rw [if_pos (by omega), if_pos h0, drop_bt s i h0 (by omega), List.all_cons]
    by_cases h1 : bt s i < 32
    · rw [if_pos h1, show prt (bt s i) = false from prt_lo h1]; rfl
    · rw [if_neg h1]
      by_cases h2 : bt s i > 126
      · rw [if_pos h2, show prt (bt s i) = false from prt_hi h2]; rfl
      · rw [if_neg h2, w64 (by omega) (by omega), spec_l02Plain_l0 s hs d k (i + 1) (by omega) (by omega) (by omega)]
        simp [prt, show 32 ≤ bt s i by omega, show bt s i ≤ 126 by omega]
theorem spec_l02Plain_f (s : ByteArray) (hs : s.size ≤ 4611686018427387904) (k : Nat) (hk : s.size < k) : spec_l02Plain.f k s = some (plainP s) := by
  unfold spec_l02Plain.f
  rw [spec_l02Plain_l0 s hs s.size k 0 (by omega) (by omega) hk]; rfl
theorem impl_isPrintable_l0 (s : ByteArray) (hs : s.size ≤ 4611686018427387904) : ∀ (d k : Nat) (i : Int), 0 ≤ i → i + d = s.size → d < k →
    impl_isPrintable.l0 k s (s.size : Int) i = some (((bytesOf s).drop i.toNat).all prt)
  | 0, k, i, h0, hd, hk => by
    obtain ⟨k, rfl⟩ : ∃ m, k = m + 1 := ⟨k - 1, by omega⟩
    simp only [impl_isPrintable.l0]
    rw [if_neg (by omega), List.drop_of_length_le (by rw [bytesOf_length]; omega)]; rfl
  | d + 1, k, i, h0, hd, hk => by
    obtain ⟨k, rfl⟩ : ∃ m, k = m + 1 := ⟨k - 1, by omega⟩
    simp only [impl_isPrintable.l0]
    rw [if_pos (by omega), if_pos h0, if_pos (by omega), drop_bt s i h0 (by omega), List.all_cons]
    by_cases h1 : bt s i < 32
    · rw [if_pos h1, show prt (bt s i) = false from prt_lo h1]; rfl
    · rw [if_neg h1]
      by_cases h2 : bt s i > 126
      · rw [if_pos h2, show prt (bt s i) = false from prt_hi h2]; rfl
      · rw [if_neg h2, w64 (by omega) (by omega), impl_isPrintable_l0 s hs d k (i + 1) (by omega) (by omega) (by omega)]
        simp [prt, show 32 ≤ bt s i by omega, show bt s i ≤ 126 by omega]
theorem impl_isPrintable_f (s : ByteArray) (hs : s.size ≤ 4611686018427387904) (k : Nat) (hk : s.size < k) : impl_isPrintable.f k s = some (plainP s) := by
  unfold impl_isPrintable.f
  rw [impl_isPrintable_l0 s hs s.size k 0 (by omega) (by omega) hk]; rfl
theorem nput_length (l : List Int) (c : Int) : (nput l c).length ≤ l.length + 1 := by
  unfold nput; split <;> simp
theorem up_of {c : Int} (h0 : 0 ≤ c) (h1 : c ≤ 255) (b : Bool) (hb : b = (decide (c ≥ 65) && decide (c ≤ 90))) : (if b = true then (c + 32) % 256 else c) = up c := by
  unfold up
  subst hb
  by_cases h : 65 ≤ c ∧ c ≤ 90
  · rw [if_pos h, if_pos (by simp [h.1, h.2])]; omega
  · rw [if_neg h, if_neg (by simpa using h)]
theorem spec_Norm_j2 (k : Nat) (s : ByteArray) (l : List Int) (i c : Int) (b : Bool) (hl : l.length < 1000) (h0 : 0 ≤ i) (h1 : i < 1000) :
    spec_Norm.j2 (k + 1) s l i c b = spec_Norm.l0 k s (nput l (if b = true then (c + 32) % 256 else c)) (i + 1) := by
  simp only [spec_Norm.j2]
  rw [w64 (x := i + 1) (by omega) (by omega), w64 (x := (l.length : Int) - 1) (by omega) (by omega), if_pos (show l.length < 140737488355328 by omega), if_pos (show l.length < 140737488355328 by omega)]
  have key : ∀ c : Int, (if c = 32 then (if (l.length : Int) = 0 then spec_Norm.l0 k s l (i + 1) else (if 0 ≤ (l.length : Int) - 1 then (if (l.length : Int) - 1 < (l.length : Int) then (if rd l ((l.length : Int) - 1) = 32 then spec_Norm.l0 k s l (i + 1) else spec_Norm.l0 k s (l ++ [c]) (i + 1)) else none) else none)) else spec_Norm.l0 k s (l ++ [c]) (i + 1)) = spec_Norm.l0 k s (nput l c) (i + 1) := by
    intro c
    unfold nput
    by_cases hc : c = 32
    · rw [if_pos hc]
      by_cases hn : l = []
      · rw [if_pos (by simp [hn]), if_pos ⟨hc, .inl hn⟩]
      · have : 0 < l.length := List.length_pos_iff.2 hn
        rw [if_neg (by omega), if_pos (by omega), if_pos (by omega)]
        by_cases hr : rd l ((l.length : Int) - 1) = 32
        · rw [if_pos hr, if_pos ⟨hc, .inr hr⟩]
        · rw [if_neg hr, if_neg (fun x => x.2.elim hn hr)]
    · rw [if_neg hc, if_neg (fun x => hc x.1)]
  cases b
  · exact key c
  · exact key _
theorem impl_Norm_j2 (k : Nat) (s : ByteArray) (l : List Int) (n i c : Int) (b : Bool) (hl : l.length < 1000) (h0 : 0 ≤ i) (h1 : i < 1000) :
    impl_Norm.j2 (k + 1) s l c n i b = impl_Norm.l0 k s (nput l (if b = true then (c + 32) % 256 else c)) n (i + 1) := by
  simp only [impl_Norm.j2]
  rw [w64 (x := i + 1) (by omega) (by omega), w64 (x := (l.length : Int) - 1) (by omega) (by omega), if_pos (show l.length < 140737488355328 by omega), if_pos (show l.length < 140737488355328 by omega)]
  have key : ∀ c : Int, (if c = 32 then (if (l.length : Int) > 0 then (if 0 ≤ (l.length : Int) - 1 then (if (l.length : Int) - 1 < (l.length : Int) then (if rd l ((l.length : Int) - 1) = 32 then impl_Norm.l0 k s l n (i + 1) else impl_Norm.l0 k s (l ++ [c]) n (i + 1)) else none) else none) else impl_Norm.l0 k s l n (i + 1)) else impl_Norm.l0 k s (l ++ [c]) n (i + 1)) = impl_Norm.l0 k s (nput l c) n (i + 1) := by
    intro c
    unfold nput
    by_cases hc : c = 32
    · rw [if_pos hc]
      by_cases hn : l = []
      · rw [if_neg (by simp [hn]), if_pos ⟨hc, .inl hn⟩]
      · have : 0 < l.length := List.length_pos_iff.2 hn
        rw [if_pos (by omega), if_pos (by omega), if_pos (by omega)]
        by_cases hr : rd l ((l.length : Int) - 1) = 32
        · rw [if_pos hr, if_pos ⟨hc, .inr hr⟩]
        · rw [if_neg hr, if_neg (fun x => x.2.elim hn hr)]
    · rw [if_neg hc, if_neg (fun x => hc x.1)]
  cases b
  · exact key c
  · exact key _
theorem spec_Norm_l0 (s : ByteArray) (hs : s.size ≤ 100) : ∀ (d k : Nat) (i : Int) (l : List Int), 0 ≤ i → i + d = s.size → 2 * d < k → l.length ≤ i →
    spec_Norm.l0 k s l i = some (strOfNums (ntrim (nfold l ((bytesOf s).drop i.toNat))))
  | 0, k, i, l, h0, hd, hk, hl => by
    obtain ⟨k, rfl⟩ : ∃ m, k = m + 1 := ⟨k - 1, by omega⟩
    simp only [spec_Norm.l0]
    rw [if_neg (by omega), List.drop_of_length_le (by rw [bytesOf_length]; omega)]
    rw [show nfold l [] = l from rfl]
    unfold ntrim
    by_cases hn : l = []
    · subst hn; simp
    · have : 0 < l.length := List.length_pos_iff.2 hn
      rw [w64 (x := (l.length : Int) - 1) (by omega) (by omega), if_pos (by omega), if_pos (by omega), if_pos (by omega)]
      by_cases hr : rd l ((l.length : Int) - 1) = 32
      · rw [if_pos hr, if_pos (show (l.length : Int) - 1 ≤ (l.length : Int) by omega), if_pos ⟨hn, hr⟩, show ((l.length : Int) - 1).toNat = l.length - 1 by omega]
      · rw [if_neg hr, if_neg (fun x => hr x.2)]
  | d + 1, k, i, l, h0, hd, hk, hl => by
    obtain ⟨k, rfl⟩ : ∃ m, k = m + 2 := ⟨k - 2, by omega⟩
    have hb := bt_range s i
    have hj : ∀ b : Bool, b = (decide (bt s i ≥ 65) && decide (bt s i ≤ 90)) → spec_Norm.j2 (k + 1) s l i (bt s i) b = some (strOfNums (ntrim (nfold l ((bytesOf s).drop i.toNat)))) := by
      intro b hbb
      rw [spec_Norm_j2 k s l i _ b (by omega) h0 (by omega), up_of hb.1 hb.2 b hbb]
      have := nput_length l (up (bt s i))
      rw [spec_Norm_l0 s hs d k (i + 1) _ (by omega) (by omega) (by omega) (by omega), drop_bt s i h0 (by omega)]; rfl
    simp only [spec_Norm.l0]
    rw [if_pos (by omega), if_pos h0]
    by_cases h : bt s i ≥ 65
    · rw [if_pos h]; exact hj _ (by simp [h])
    · rw [if_neg h]; exact hj _ (by simp [h])
theorem ba_ext {a b : ByteArray} (h : a.data.toList = b.data.toList) : a = b := ByteArray.ext (Array.toList_inj.1 h)
theorem son_take (l : List Int) (n : Nat) : (strOfNums l).extract 0 n = strOfNums (l.take n) := by
  apply ba_ext
  rw [ByteArray.data_extract, Array.toList_extract, strOfNums_data, strOfNums_data]
  simp [List.extract]
theorem son_drop (l : List Int) (n : Nat) : (strOfNums l).extract n (strOfNums l).size = strOfNums (l.drop n) := by
  apply ba_ext
  rw [ByteArray.data_extract, Array.toList_extract, strOfNums_data, strOfNums_data, strOfNums_size]
  simp only [List.extract, List.map_drop]
  exact List.take_of_length_le (by simp)
theorem drop_last (l : List Int) (h : 0 < l.length) : l.drop (l.length - 1) = [rd l ((l.length : Int) - 1)] := by
  rw [List.drop_eq_getElem_cons (by omega), List.drop_of_length_le (by omega)]
  congr 1
  unfold rd
  rw [show ((l.length : Int) - 1).toNat = l.length - 1 by omega, List.getD_eq_getElem?_getD, List.getElem?_eq_getElem (by omega)]; rfl
theorem trim_blank (l : List Int) (hl : l.length < 1000) (hr : ∀ x ∈ l, 0 ≤ x ∧ x ≤ 255) : strings_TrimSuffix.f (strOfNums l) (⟨#[32]⟩ : ByteArray) = some (strOfNums (ntrim l)) := by
  have hz : (⟨#[32]⟩ : ByteArray).size = 1 := rfl
  unfold strings_TrimSuffix.f stringslite_TrimSuffix.f stringslite_HasSuffix.f ntrim
  rw [hz]
  by_cases hn : l = []
  · subst hn
    rw [if_neg (show ¬ (((strOfNums []).size : Int) ≥ ((1 : Nat) : Int)) by decide)]; rfl
  · have hp : 0 < l.length := List.length_pos_iff.2 hn
    have hin : rd l ((l.length : Int) - 1) ∈ l := by have h := drop_last l hp; exact List.mem_of_mem_drop (i := l.length - 1) (by rw [h]; simp)
    have hb := hr _ hin
    simp only [strOfNums_size, Int.natCast_one]
    rw [w64 (x := (l.length : Int) - 1) (by omega) (by omega), if_pos (by omega), if_pos (by omega), if_pos (by omega)]
    simp only [Option.bind_some]
    have e1 : (strOfNums l).extract ((l.length : Int) - 1).toNat l.length = strOfNums [rd l ((l.length : Int) - 1)] := by
      rw [← drop_last l hp, ← son_drop, strOfNums_size, show ((l.length : Int) - 1).toNat = l.length - 1 by omega]
    rw [e1]
    have e2 : ((strOfNums [rd l ((l.length : Int) - 1)]).toList == (⟨#[32]⟩ : ByteArray).toList) = decide (rd l ((l.length : Int) - 1) = 32) := by
      rw [Go.Lib.toList_data, Go.Lib.toList_data, strOfNums_data]
      generalize rd l ((l.length : Int) - 1) = x at hb
      have key : ∀ z : Fin 256, (([(z.val : Int)].map fun n => UInt8.ofNat n.toNat) == (⟨#[32]⟩ : ByteArray).data.toList) = decide ((z.val : Int) = 32) := by decide +kernel
      have := key ⟨x.toNat, by omega⟩
      simpa [Int.toNat_of_nonneg hb.1] using this
    rw [e2]
    by_cases h : rd l ((l.length : Int) - 1) = 32
    · rw [decide_eq_true h]
      simp only [if_true, Option.bind_some]
      rw [if_pos (show l ≠ [] ∧ rd l ((l.length : Int) - 1) = 32 from ⟨hn, h⟩), son_take, show ((l.length : Int) - 1).toNat = l.length - 1 by omega, if_pos (show 0 ≤ (l.length : Int) - 1 by omega), if_pos (show (l.length : Int) - 1 ≤ (l.length : Int) by omega)]; rfl
    · rw [decide_eq_false h, if_neg (show ¬ (l ≠ [] ∧ rd l ((l.length : Int) - 1) = 32) from fun x => h x.2)]; rfl
theorem nput_range {l : List Int} {c : Int} (hl : ∀ x ∈ l, 0 ≤ x ∧ x ≤ 255) (hc : 0 ≤ c ∧ c ≤ 255) : ∀ x ∈ nput l c, 0 ≤ x ∧ x ≤ 255 := by
  intro x hx
  unfold nput at hx
  split at hx
  · exact hl x hx
  · rcases List.mem_append.1 hx with h | h
    · exact hl x h
    · rw [List.mem_singleton.1 h]; exact hc
theorem up_range {c : Int} (hc : 0 ≤ c ∧ c ≤ 255) : 0 ≤ up c ∧ up c ≤ 255 := by unfold up; split <;> omega
theorem impl_Norm_l0 (s : ByteArray) (hs : s.size ≤ 100) : ∀ (d k : Nat) (i : Int) (l : List Int), 0 ≤ i → i + d = s.size → 2 * d < k → l.length ≤ i → (∀ x ∈ l, 0 ≤ x ∧ x ≤ 255) →
    impl_Norm.l0 k s l (s.size : Int) i = some (strOfNums (ntrim (nfold l ((bytesOf s).drop i.toNat))))
  | 0, k, i, l, h0, hd, hk, hl, hr => by
    obtain ⟨k, rfl⟩ : ∃ m, k = m + 1 := ⟨k - 1, by omega⟩
    simp only [impl_Norm.l0]
    rw [if_neg (by omega), List.drop_of_length_le (by rw [bytesOf_length]; omega), trim_blank l (by omega) hr]
    rfl
  | d + 1, k, i, l, h0, hd, hk, hl, hr => by
    obtain ⟨k, rfl⟩ : ∃ m, k = m + 2 := ⟨k - 2, by omega⟩
    have hb := bt_range s i
    have hj : ∀ b : Bool, b = (decide (bt s i ≥ 65) && decide (bt s i ≤ 90)) → impl_Norm.j2 (k + 1) s l (bt s i) (s.size : Int) i b = some (strOfNums (ntrim (nfold l ((bytesOf s).drop i.toNat)))) := by
      intro b hbb
      rw [impl_Norm_j2 k s l _ i _ b (by omega) h0 (by omega), up_of hb.1 hb.2 b hbb]
      have := nput_length l (up (bt s i))
      rw [impl_Norm_l0 s hs d k (i + 1) _ (by omega) (by omega) (by omega) (by omega) (nput_range hr (up_range hb)), drop_bt s i h0 (by omega)]; rfl
    simp only [impl_Norm.l0]
    rw [if_pos (by omega), if_pos h0, if_pos (by omega)]
    by_cases h : bt s i ≥ 65
    · rw [if_pos h]; exact hj _ (by simp [h])
    · rw [if_neg h]; exact hj _ (by simp [h])
theorem spec_Norm_f (s : ByteArray) (k : Nat) (hk : 2 * s.size + 2 < k) : spec_Norm.f k s = some (NormP s) := by
  obtain ⟨k, rfl⟩ : ∃ m, k = m + 1 := ⟨k - 1, by omega⟩
  unfold spec_Norm.f NormP NormL
  by_cases h : s.size ≤ 100
  · rw [if_neg (by omega), spec_l02Plain_f s (by omega) _ (by omega)]
    simp only [Option.bind_some, spec_Norm.j0]
    by_cases hp : plainP s = true
    · rw [if_neg (by simp [hp]), if_pos ⟨h, hp⟩, spec_Norm_l0 s h s.size k 0 [] (by omega) (by omega) (by omega) (by simp)]; rfl
    · rw [if_pos (by simp [hp]), if_neg (fun x => hp x.2)]; rfl
  · rw [if_pos (by omega), if_neg (fun x => h x.1)]
    simp only [spec_Norm.j0, if_true]; rfl
theorem impl_Norm_f (s : ByteArray) (k : Nat) (hk : 2 * s.size + 2 < k) : impl_Norm.f k s = some (NormP s) := by
  obtain ⟨k, rfl⟩ : ∃ m, k = m + 1 := ⟨k - 1, by omega⟩
  unfold impl_Norm.f NormP NormL
  by_cases h : s.size ≤ 100
  · rw [if_neg (by omega), impl_isPrintable_f s (by omega) _ (by omega)]
    simp only [Option.bind_some, impl_Norm.j0]
    by_cases hp : plainP s = true
    · rw [if_neg (by simp [hp]), if_pos ⟨h, hp⟩, impl_Norm_l0 s h s.size k 0 [] (by omega) (by omega) (by omega) (by simp) (by simp)]; rfl
    · rw [if_pos (by simp [hp]), if_neg (fun x => hp x.2)]; rfl
  · rw [if_pos (by omega), if_neg (fun x => h x.1)]
    simp only [impl_Norm.j0, if_true]; rfl

theorem FnExactNorm : laws_FnExactNorm.Pure := by
  intro a ha
  refine ⟨2 * a.size + 3, ?_⟩
  unfold laws_FnExactNorm.f
  by_cases h : (a.size : Int) > 1048576
  · rw [if_pos h]
  · rw [if_neg h]
    exact law_end (spec_Norm_f a _ (by omega)) (impl_Norm_f a _ (by omega))

end Go.Proofs.Ytlknidocphejcaa.Pure
