/- The law FnDn answers true at every two codes. No condition. -/
import Derived.Test.YtdbboelacgehoaaDoorQFnDnx14
import Derived.Laws.Bits64
import Derived.Lib.Strings
namespace Go.Proofs.YtdbboelacgehoaaDoor.Pure
open Go.RowKit Go.Proofs.YtdbboelacgehoaaDoor.PFnDn Go.Proofs.YtdbboelacgehoaaDoorW.PrintWords Go.Proofs.YtdbboelacgehoaaDoorW.PrintLast
set_option linter.unusedVariables false
set_option linter.unusedSimpArgs false

/-! plain lemmas -/
theorem w64 {x : Int} (h0 : -9223372036854775808 ≤ x) (h1 : x ≤ 9223372036854775807) : wrap64 x = x := by unfold wrap64; omega
theorem u64w {x : Int} (h0 : 0 ≤ x) (h1 : x < 18446744073709551616) : IntKind.u64.wrap x = x := by rw [IntKind.wrap_u64]; omega
theorem son_append (xs ys : List Int) : strOfNums (xs ++ ys) = strOfNums xs ++ strOfNums ys := by
  unfold strOfNums
  apply ByteArray.ext
  simp
theorem ba_append_size (a b : ByteArray) : (a ++ b).size = a.size + b.size := by simp
theorem ba_append_assoc (a b c : ByteArray) : (a ++ b) ++ c = a ++ (b ++ c) := by
  apply ByteArray.ext
  simp
/-- The comparison at the end of a law. -/
theorem law_end {A B : Option ByteArray} {r : ByteArray} (hA : A = some r) (hB : B = some r) :
    (A.bind fun t => B.bind fun t' => if t'.toList = t.toList then some true else some false) = some true := by
  rw [hA, hB]; simp
theorem wf_i64 {n : Int} (h : (Lit.int .i64 n).wf = true) : -9223372036854775808 ≤ n ∧ n ≤ 9223372036854775807 := by
  simpa [Lit.wf, IntKind.min, IntKind.max, IntKind.bits, IntKind.signed] using h
/-- The same of two numbers. -/
theorem law_endI {A B : Option Int} {r : Int} (hA : A = some r) (hB : B = some r) :
    (A.bind fun t => B.bind fun t' => if t' = t then some true else some false) = some true := by
  rw [hA, hB]; simp

/-! strings of bytes -/
theorem ba_ext {a b : ByteArray} (h : a.data.toList = b.data.toList) : a = b := ByteArray.ext (Array.toList_inj.1 h)
theorem ba_inj {a b : ByteArray} : a.toList = b.toList ↔ a = b :=
  ⟨fun h => ba_ext (by rwa [Go.Lib.toList_data, Go.Lib.toList_data] at h), fun h => by rw [h]⟩
theorem ba_data_append (a b : ByteArray) : (a ++ b).data.toList = a.data.toList ++ b.data.toList := by simp
theorem ba_data_extract (s : ByteArray) (i j : Nat) : (s.extract i j).data.toList = (s.data.toList.drop i).take (j - i) := Go.Lib.extract_data s i j
theorem ba_split (s : ByteArray) (m : Nat) : s.extract 0 m ++ s.extract m s.size = s := by
  apply ba_ext
  rw [ba_data_append, ba_data_extract, ba_data_extract, Nat.sub_zero, List.drop_zero]
  rw [List.take_of_length_le (l := s.data.toList.drop m) (by rw [List.length_drop, data_length]; omega), List.take_append_drop]
theorem ba_append_inj {a b c : ByteArray} : a ++ b = a ++ c ↔ b = c := by
  constructor
  · intro h
    have h2 := congrArg (fun x : ByteArray => x.data.toList) h
    simp only [ba_data_append] at h2
    exact ba_ext (List.append_cancel_left h2)
  · intro h; rw [h]
theorem son_bytesOf (s : ByteArray) : strOfNums (bytesOf s) = s := by
  apply ba_ext
  rw [strOfNums_data, bytesOf, List.map_map]
  conv => rhs; rw [← List.map_id s.data.toList]
  apply List.map_congr_left
  intro b _
  simp
theorem ext_son (s : ByteArray) (i j : Nat) : s.extract i j = strOfNums (((bytesOf s).drop i).take (j - i)) := by
  apply ba_ext
  rw [ba_data_extract, strOfNums_data, List.map_take, List.map_drop]
  congr 2
  have := congrArg (fun x : ByteArray => x.data.toList) (son_bytesOf s)
  simp only [strOfNums_data] at this
  exact this.symm
theorem ba_extract_size (s : ByteArray) (i j : Nat) (hj : j ≤ s.size) : (s.extract i j).size = j - i := by
  rw [ByteArray.size_extract]; omega
theorem ba_nil_data : (⟨#[]⟩ : ByteArray).data.toList = [] := rfl
theorem ba_size0 {s : ByteArray} (h : s.size = 0) : s = ⟨#[]⟩ := by
  apply ba_ext
  rw [ba_nil_data]
  exact List.eq_nil_of_length_eq_zero (by rw [data_length]; exact h)
theorem bytesOf_son (l : List Int) (h : ∀ x ∈ l, 0 ≤ x ∧ x ≤ 255) : bytesOf (strOfNums l) = l := by
  unfold bytesOf
  rw [strOfNums_data, List.map_map]
  conv => rhs; rw [← List.map_id l]
  apply List.map_congr_left
  intro x hx
  have := h x hx
  simp only [Function.comp, id]
  rw [UInt8.toNat_ofNat']
  omega

theorem drop_bt (s : ByteArray) (i : Int) (h0 : 0 ≤ i) (h1 : i < s.size) : (bytesOf s).drop i.toNat = bt s i :: (bytesOf s).drop (i + 1).toNat := by
  have hl : i.toNat < (bytesOf s).length := by rw [bytesOf_length]; omega
  rw [List.drop_eq_getElem_cons hl, ← rd_bytesOf, show (i + 1).toNat = i.toNat + 1 by omega]
  congr 1
  unfold rd
  rw [List.getD_eq_getElem?_getD, List.getElem?_eq_getElem hl]; rfl

/-! loops that go over a row once -/
theorem some_loop {ρ : Type} (n : Nat) (hn : (n : Int) ≤ 4611686018427387904) (K : Nat) (g : Nat → Int → Int → Option ρ)
    (step : ∀ (k : Nat) (a i : Int), K ≤ k → 0 ≤ i → i < n → (∃ r, g (k + 1) a i = some r) ∨ ∃ a', g (k + 1) a i = g k a' (wrap64 (i + 1)))
    (fin : ∀ (k : Nat) (a i : Int), K ≤ k → 0 ≤ i → (n : Int) ≤ i → ∃ r, g (k + 1) a i = some r) :
    ∀ (d k : Nat) (a i : Int), 0 ≤ i → i + d = n → K + d < k → ∃ r, g k a i = some r
  | 0, k, a, i, h0, hi, hk => by
    obtain ⟨k, rfl⟩ : ∃ q, k = q + 1 := ⟨k - 1, by omega⟩
    exact fin k a i (by omega) h0 (by omega)
  | d + 1, k, a, i, h0, hi, hk => by
    obtain ⟨k, rfl⟩ : ∃ q, k = q + 1 := ⟨k - 1, by omega⟩
    rcases step k a i (by omega) h0 (by omega) with h | ⟨a', e⟩
    · exact h
    · rw [e, w64 (x := i + 1) (by omega) (by omega)]
      exact some_loop n hn K g step fin d k a' (i + 1) (by omega) (by omega) (by omega)
theorem skip_loop {ρ : Type} (r : ρ) (n : Nat) (hn : (n : Int) ≤ 4611686018427387904) (K : Nat) (g : Nat → Int → Option ρ)
    (step : ∀ (k : Nat) (i : Int), K ≤ k → 0 ≤ i → i < n → g (k + 1) i = g k (wrap64 (i + 1)))
    (fin : ∀ (k : Nat) (i : Int), K ≤ k → 0 ≤ i → (n : Int) ≤ i → g (k + 1) i = some r) :
    ∀ (d k : Nat) (i : Int), 0 ≤ i → i + d = n → K + d < k → g k i = some r
  | 0, k, i, h0, hi, hk => by
    obtain ⟨k, rfl⟩ : ∃ q, k = q + 1 := ⟨k - 1, by omega⟩
    exact fin k i (by omega) h0 (by omega)
  | d + 1, k, i, h0, hi, hk => by
    obtain ⟨k, rfl⟩ : ∃ q, k = q + 1 := ⟨k - 1, by omega⟩
    rw [step k i (by omega) h0 (by omega), w64 (x := i + 1) (by omega) (by omega)]
    exact skip_loop r n hn K g step fin d k (i + 1) (by omega) (by omega) (by omega)
theorem copy_loop {β : Type} (n : Nat) (hn : (n : Int) ≤ 4611686018427387904) (src : Nat → β) (K : Nat) (g : Nat → List β → Int → Option (List β))
    (step : ∀ (k : Nat) (x : List β) (i : Int), K ≤ k → 0 ≤ i → i < n → x.length = n → g (k + 1) x i = g k (x.set i.toNat (src i.toNat)) (wrap64 (i + 1)))
    (fin : ∀ (k : Nat) (x : List β) (i : Int), (n : Int) ≤ i → g (k + 1) x i = some x) :
    ∀ (d k : Nat) (x : List β) (i : Int), 0 ≤ i → i + d = n → K + d < k → x.length = n → g k x i = some (x.take i.toNat ++ (List.range' i.toNat d).map src)
  | 0, k, x, i, h0, hi, hk, hx => by
    obtain ⟨k, rfl⟩ : ∃ q, k = q + 1 := ⟨k - 1, by omega⟩
    rw [fin k x i (by omega), List.take_of_length_le (by omega)]
    simp
  | d + 1, k, x, i, h0, hi, hk, hx => by
    obtain ⟨k, rfl⟩ : ∃ q, k = q + 1 := ⟨k - 1, by omega⟩
    rw [step k x i (by omega) h0 (by omega) hx, w64 (x := i + 1) (by omega) (by omega),
      copy_loop n hn src K g step fin d k _ (i + 1) (by omega) (by omega) (by omega) (by rw [List.length_set]; exact hx)]
    congr 1
    rw [show (i + 1).toNat = i.toNat + 1 by omega, List.range'_succ, List.map_cons, List.take_succ_eq_append_getElem (by rw [List.length_set]; omega), List.getElem_set_self, List.take_set_of_le (by omega), List.append_assoc]
    rfl
theorem copy_all {β : Type} (n : Nat) (hn : (n : Int) ≤ 4611686018427387904) (src : Nat → β) (K : Nat) (g : Nat → List β → Int → Option (List β)) (z : β)
    (step : ∀ (k : Nat) (x : List β) (i : Int), K ≤ k → 0 ≤ i → i < n → x.length = n → g (k + 1) x i = g k (x.set i.toNat (src i.toNat)) (wrap64 (i + 1)))
    (fin : ∀ (k : Nat) (x : List β) (i : Int), (n : Int) ≤ i → g (k + 1) x i = some x) (k : Nat) (hk : K + n < k) :
    g k (List.replicate n z) 0 = some ((List.range n).map src) := by
  rw [copy_loop n hn src K g step fin n k _ 0 (by omega) (by omega) hk (by simp)]
  simp [List.range_eq_range']
theorem range_map_getD {α β : Type} (l : List α) (z : α) (f : α → β) : (List.range l.length).map (fun j => f (l.getD j z)) = l.map f := by
  apply List.ext_getElem
  · simp
  · intro i h1 h2
    simp only [List.getElem_map, List.getElem_range]
    rw [List.getD_eq_getElem?_getD, List.getElem?_eq_getElem (by simpa using h1)]
    rfl
theorem all_loop (fin : Bool) (f : Nat → Bool) (n : Nat) (hn : (n : Int) ≤ 4611686018427387904) (K : Nat) (g : Nat → Int → Option Bool)
    (step : ∀ (k : Nat) (i : Int), K ≤ k → 0 ≤ i → i < n → g (k + 1) i = if f i.toNat = true then g k (wrap64 (i + 1)) else some false)
    (hfin : ∀ (k : Nat) (i : Int), K ≤ k → 0 ≤ i → (n : Int) ≤ i → g (k + 1) i = some fin) :
    ∀ (d k : Nat) (i : Int), 0 ≤ i → i + d = n → K + d < k → g k i = some ((List.range' i.toNat d).all f && fin)
  | 0, k, i, h0, hi, hk => by
    obtain ⟨k, rfl⟩ : ∃ q, k = q + 1 := ⟨k - 1, by omega⟩
    rw [hfin k i (by omega) h0 (by omega)]; simp
  | d + 1, k, i, h0, hi, hk => by
    obtain ⟨k, rfl⟩ : ∃ q, k = q + 1 := ⟨k - 1, by omega⟩
    rw [step k i (by omega) h0 (by omega), w64 (x := i + 1) (by omega) (by omega), List.range'_succ, List.all_cons]
    cases hf : f i.toNat with
    | false => simp
    | true =>
      rw [if_pos rfl, all_loop fin f n hn K g step hfin d k (i + 1) (by omega) (by omega) (by omega), show (i + 1).toNat = i.toNat + 1 by omega]
      simp

/-! Norm -/
/-- A capital as a small letter. -/
def up (c : Int) : Int := if 65 ≤ c ∧ c ≤ 90 then c + 32 else c
/-- A byte put behind what is there: no blank at the begin, none behind another. -/
def nput (l : List Int) (c : Int) : List Int := if c = 32 ∧ (l = [] ∨ rd l ((l.length : Int) - 1) = 32) then l else l ++ [c]
def nfold (l cs : List Int) : List Int := cs.foldl (fun l c => nput l (up c)) l
def ntrim (l : List Int) : List Int := if l ≠ [] ∧ rd l ((l.length : Int) - 1) = 32 then l.take (l.length - 1) else l
def prt (c : Int) : Bool := decide (32 ≤ c) && decide (c ≤ 126)
theorem prt_lo {c : Int} (h : c < 32) : prt c = false := by unfold prt; rw [decide_eq_false (by omega)]; rfl
theorem prt_hi {c : Int} (h : c > 126) : prt c = false := by unfold prt; rw [decide_eq_false (p := c ≤ 126) (by omega)]; simp
def plainP (s : ByteArray) : Bool := (bytesOf s).all prt
def NormL (s : ByteArray) : List Int := if s.size ≤ 100 ∧ plainP s = true then ntrim (nfold [] (bytesOf s)) else []
def NormP (s : ByteArray) : ByteArray := strOfNums (NormL s)
theorem son_nil : strOfNums [] = (⟨#[]⟩ : ByteArray) := rfl
theorem spec_l02Plain_l0 (s : ByteArray) (hs : s.size ≤ 4611686018427387904) : ∀ (d k : Nat) (i : Int), 0 ≤ i → i + d = s.size → d < k →
    spec_l02Plain.l0 k s i = some (((bytesOf s).drop i.toNat).all prt)
  | 0, k, i, h0, hd, hk => by
    obtain ⟨k, rfl⟩ : ∃ m, k = m + 1 := ⟨k - 1, by omega⟩
    simp only [spec_l02Plain.l0]
    rw [if_neg (by omega), List.drop_of_length_le (by rw [bytesOf_length]; omega)]; rfl
  | d + 1, k, i, h0, hd, hk => by
    obtain ⟨k, rfl⟩ : ∃ m, k = m + 1 := ⟨k - 1, by omega⟩
    simp only [spec_l02Plain.l0]
    rw [if_pos (by omega), if_pos h0, drop_bt s i h0 (by omega), List.all_cons]
    by_cases h1 : bt s i < 32
    · rw [if_pos h1, show prt (bt s i) = false from prt_lo h1]; rfl
    · rw [if_neg h1]
      by_cases h2 : bt s i > 126
      · rw [if_pos h2, show prt (bt s i) = false from prt_hi h2]; rfl
      · rw [if_neg h2, w64 (by omega) (by omega), spec_l02Plain_l0 s hs d k (i + 1) (by omega) (by omega) (by omega)]
        simp [prt, show 32 ≤ bt s i by omega, show bt s i ≤ 126 by omega]
theorem spec_l02Plain_f (s : ByteArray) (hs : s.size ≤ 4611686018427387904) (k : Nat) (hk : s.size < k) : spec_l02Plain.f k s = some (plainP s) := by
  unfold spec_l02Plain.f
  rw [spec_l02Plain_l0 s hs s.size k 0 (by omega) (by omega) hk]; rfl
theorem impl_isPrintable_l0 (s : ByteArray) (hs : s.size ≤ 4611686018427387904) : ∀ (d k : Nat) (i : Int), 0 ≤ i → i + d = s.size → d < k →
    impl_isPrintable.l0 k s (s.size : Int) i = some (((bytesOf s).drop i.toNat).all prt)
  | 0, k, i, h0, hd, hk => by
    obtain ⟨k, rfl⟩ : ∃ m, k = m + 1 := ⟨k - 1, by omega⟩
    simp only [impl_isPrintable.l0]
    rw [if_neg (by omega), List.drop_of_length_le (by rw [bytesOf_length]; omega)]; rfl
  | d + 1, k, i, h0, hd, hk => by
    obtain ⟨k, rfl⟩ : ∃ m, k = m + 1 := ⟨k - 1, by omega⟩
    simp only [impl_isPrintable.l0]
    rw [if_pos (by omega), if_pos h0, if_pos (by omega), drop_bt s i h0 (by omega), List.all_cons]
    by_cases h1 : bt s i < 32
    · rw [if_pos h1, show prt (bt s i) = false from prt_lo h1]; rfl
    · rw [if_neg h1]
      by_cases h2 : bt s i > 126
      · rw [if_pos h2, show prt (bt s i) = false from prt_hi h2]; rfl
      · rw [if_neg h2, w64 (by omega) (by omega), impl_isPrintable_l0 s hs d k (i + 1) (by omega) (by omega) (by omega)]
        simp [prt, show 32 ≤ bt s i by omega, show bt s i ≤ 126 by omega]
theorem impl_isPrintable_f (s : ByteArray) (hs : s.size ≤ 4611686018427387904) (k : Nat) (hk : s.size < k) : impl_isPrintable.f k s = some (plainP s) := by
  unfold impl_isPrintable.f
  rw [impl_isPrintable_l0 s hs s.size k 0 (by omega) (by omega) hk]; rfl
theorem nput_length (l : List Int) (c : Int) : (nput l c).length ≤ l.length + 1 := by
  unfold nput; split <;> simp
theorem up_of {c : Int} (h0 : 0 ≤ c) (h1 : c ≤ 255) (b : Bool) (hb : b = (decide (c ≥ 65) && decide (c ≤ 90))) : (if b = true then (c + 32) % 256 else c) = up c := by
  unfold up
  subst hb
  by_cases h : 65 ≤ c ∧ c ≤ 90
  · rw [if_pos h, if_pos (by simp [h.1, h.2])]; omega
  · rw [if_neg h, if_neg (by simpa using h)]
theorem spec_Norm_j2 (k : Nat) (s : ByteArray) (l : List Int) (i c : Int) (b : Bool) (hl : l.length < 1000) (h0 : 0 ≤ i) (h1 : i < 1000) :
    spec_Norm.j2 (k + 1) s l i c b = spec_Norm.l0 k s (nput l (if b = true then (c + 32) % 256 else c)) (i + 1) := by
  simp only [spec_Norm.j2]
  rw [w64 (x := i + 1) (by omega) (by omega), w64 (x := (l.length : Int) - 1) (by omega) (by omega), if_pos (show l.length < 140737488355328 by omega), if_pos (show l.length < 140737488355328 by omega)]
  have key : ∀ c : Int, (if c = 32 then (if (l.length : Int) = 0 then spec_Norm.l0 k s l (i + 1) else (if 0 ≤ (l.length : Int) - 1 then (if (l.length : Int) - 1 < (l.length : Int) then (if rd l ((l.length : Int) - 1) = 32 then spec_Norm.l0 k s l (i + 1) else spec_Norm.l0 k s (l ++ [c]) (i + 1)) else none) else none)) else spec_Norm.l0 k s (l ++ [c]) (i + 1)) = spec_Norm.l0 k s (nput l c) (i + 1) := by
    intro c
    unfold nput
    by_cases hc : c = 32
    · rw [if_pos hc]
      by_cases hn : l = []
      · rw [if_pos (by simp [hn]), if_pos ⟨hc, .inl hn⟩]
      · have : 0 < l.length := List.length_pos_iff.2 hn
        rw [if_neg (by omega), if_pos (by omega), if_pos (by omega)]
        by_cases hr : rd l ((l.length : Int) - 1) = 32
        · rw [if_pos hr, if_pos ⟨hc, .inr hr⟩]
        · rw [if_neg hr, if_neg (fun x => x.2.elim hn hr)]
    · rw [if_neg hc, if_neg (fun x => hc x.1)]
  cases b
  · exact key c
  · exact key _
theorem impl_Norm_j2 (k : Nat) (s : ByteArray) (l : List Int) (n i c : Int) (b : Bool) (hl : l.length < 1000) (h0 : 0 ≤ i) (h1 : i < 1000) :
    impl_Norm.j2 (k + 1) s l c n i b = impl_Norm.l0 k s (nput l (if b = true then (c + 32) % 256 else c)) n (i + 1) := by
  simp only [impl_Norm.j2]
  rw [w64 (x := i + 1) (by omega) (by omega), w64 (x := (l.length : Int) - 1) (by omega) (by omega), if_pos (show l.length < 140737488355328 by omega), if_pos (show l.length < 140737488355328 by omega)]
  have key : ∀ c : Int, (if c = 32 then (if (l.length : Int) > 0 then (if 0 ≤ (l.length : Int) - 1 then (if (l.length : Int) - 1 < (l.length : Int) then (if rd l ((l.length : Int) - 1) = 32 then impl_Norm.l0 k s l n (i + 1) else impl_Norm.l0 k s (l ++ [c]) n (i + 1)) else none) else none) else impl_Norm.l0 k s l n (i + 1)) else impl_Norm.l0 k s (l ++ [c]) n (i + 1)) = impl_Norm.l0 k s (nput l c) n (i + 1) := by
    intro c
    unfold nput
    by_cases hc : c = 32
    · rw [if_pos hc]
      by_cases hn : l = []
      · rw [if_neg (by simp [hn]), if_pos ⟨hc, .inl hn⟩]
      · have : 0 < l.length := List.length_pos_iff.2 hn
        rw [if_pos (by omega), if_pos (by omega), if_pos (by omega)]
        by_cases hr : rd l ((l.length : Int) - 1) = 32
        · rw [if_pos hr, if_pos ⟨hc, .inr hr⟩]
        · rw [if_neg hr, if_neg (fun x => x.2.elim hn hr)]
    · rw [if_neg hc, if_neg (fun x => hc x.1)]
  cases b
  · exact key c
  · exact key _
theorem spec_Norm_l0 (s : ByteArray) (hs : s.size ≤ 100) : ∀ (d k : Nat) (i : Int) (l : List Int), 0 ≤ i → i + d = s.size → 2 * d < k → l.length ≤ i →
    spec_Norm.l0 k s l i = some (strOfNums (ntrim (nfold l ((bytesOf s).drop i.toNat))))
  | 0, k, i, l, h0, hd, hk, hl => by
    obtain ⟨k, rfl⟩ : ∃ m, k = m + 1 := ⟨k - 1, by omega⟩
    simp only [spec_Norm.l0]
    rw [if_neg (by omega), List.drop_of_length_le (by rw [bytesOf_length]; omega)]
    rw [show nfold l [] = l from rfl]
    unfold ntrim
    by_cases hn : l = []
    · subst hn; simp
    · have : 0 < l.length := List.length_pos_iff.2 hn
      rw [w64 (x := (l.length : Int) - 1) (by omega) (by omega), if_pos (by omega), if_pos (by omega), if_pos (by omega)]
      by_cases hr : rd l ((l.length : Int) - 1) = 32
      · rw [if_pos hr, if_pos (show (l.length : Int) - 1 ≤ (l.length : Int) by omega), if_pos ⟨hn, hr⟩, show ((l.length : Int) - 1).toNat = l.length - 1 by omega]
      · rw [if_neg hr, if_neg (fun x => hr x.2)]
  | d + 1, k, i, l, h0, hd, hk, hl => by
    obtain ⟨k, rfl⟩ : ∃ m, k = m + 2 := ⟨k - 2, by omega⟩
    have hb := bt_range s i
    have hj : ∀ b : Bool, b = (decide (bt s i ≥ 65) && decide (bt s i ≤ 90)) → spec_Norm.j2 (k + 1) s l i (bt s i) b = some (strOfNums (ntrim (nfold l ((bytesOf s).drop i.toNat)))) := by
      intro b hbb
      rw [spec_Norm_j2 k s l i _ b (by omega) h0 (by omega), up_of hb.1 hb.2 b hbb]
      have := nput_length l (up (bt s i))
      rw [spec_Norm_l0 s hs d k (i + 1) _ (by omega) (by omega) (by omega) (by omega), drop_bt s i h0 (by omega)]; rfl
    simp only [spec_Norm.l0]
    rw [if_pos (by omega), if_pos h0]
    by_cases h : bt s i ≥ 65
    · rw [if_pos h]; exact hj _ (by simp [h])
    · rw [if_neg h]; exact hj _ (by simp [h])
theorem son_take (l : List Int) (n : Nat) : (strOfNums l).extract 0 n = strOfNums (l.take n) := by
  apply ba_ext
  rw [ByteArray.data_extract, Array.toList_extract, strOfNums_data, strOfNums_data]
  simp [List.extract]
theorem son_drop (l : List Int) (n : Nat) : (strOfNums l).extract n (strOfNums l).size = strOfNums (l.drop n) := by
  apply ba_ext
  rw [ByteArray.data_extract, Array.toList_extract, strOfNums_data, strOfNums_data, strOfNums_size]
  simp only [List.extract, List.map_drop]
  exact List.take_of_length_le (by simp)
theorem drop_last (l : List Int) (h : 0 < l.length) : l.drop (l.length - 1) = [rd l ((l.length : Int) - 1)] := by
  rw [List.drop_eq_getElem_cons (by omega), List.drop_of_length_le (by omega)]
  congr 1
  unfold rd
  rw [show ((l.length : Int) - 1).toNat = l.length - 1 by omega, List.getD_eq_getElem?_getD, List.getElem?_eq_getElem (by omega)]; rfl
theorem trim_blank (l : List Int) (hl : l.length < 1000) (hr : ∀ x ∈ l, 0 ≤ x ∧ x ≤ 255) : strings_TrimSuffix.f (strOfNums l) (⟨#[32]⟩ : ByteArray) = some (strOfNums (ntrim l)) := by
  have hz : (⟨#[32]⟩ : ByteArray).size = 1 := rfl
  unfold strings_TrimSuffix.f stringslite_TrimSuffix.f stringslite_HasSuffix.f ntrim
  rw [hz]
  by_cases hn : l = []
  · subst hn
    rw [if_neg (show ¬ (((strOfNums []).size : Int) ≥ ((1 : Nat) : Int)) by decide)]; rfl
  · have hp : 0 < l.length := List.length_pos_iff.2 hn
    have hin : rd l ((l.length : Int) - 1) ∈ l := by have h := drop_last l hp; exact List.mem_of_mem_drop (i := l.length - 1) (by rw [h]; simp)
    have hb := hr _ hin
    simp only [strOfNums_size, Int.natCast_one]
    rw [w64 (x := (l.length : Int) - 1) (by omega) (by omega), if_pos (by omega), if_pos (by omega), if_pos (by omega)]
    simp only [Option.bind_some]
    have e1 : (strOfNums l).extract ((l.length : Int) - 1).toNat l.length = strOfNums [rd l ((l.length : Int) - 1)] := by
      rw [← drop_last l hp, ← son_drop, strOfNums_size, show ((l.length : Int) - 1).toNat = l.length - 1 by omega]
    rw [e1]
    have e2 : ((strOfNums [rd l ((l.length : Int) - 1)]).toList == (⟨#[32]⟩ : ByteArray).toList) = decide (rd l ((l.length : Int) - 1) = 32) := by
      rw [Go.Lib.toList_data, Go.Lib.toList_data, strOfNums_data]
      generalize rd l ((l.length : Int) - 1) = x at hb
      have key : ∀ z : Fin 256, (([(z.val : Int)].map fun n => UInt8.ofNat n.toNat) == (⟨#[32]⟩ : ByteArray).data.toList) = decide ((z.val : Int) = 32) := by decide +kernel
      have := key ⟨x.toNat, by omega⟩
      simpa [Int.toNat_of_nonneg hb.1] using this
    rw [e2]
    by_cases h : rd l ((l.length : Int) - 1) = 32
    · rw [decide_eq_true h]
      simp only [if_true, Option.bind_some]
      rw [if_pos (show l ≠ [] ∧ rd l ((l.length : Int) - 1) = 32 from ⟨hn, h⟩), son_take, show ((l.length : Int) - 1).toNat = l.length - 1 by omega, if_pos (show 0 ≤ (l.length : Int) - 1 by omega), if_pos (show (l.length : Int) - 1 ≤ (l.length : Int) by omega)]; rfl
    · rw [decide_eq_false h, if_neg (show ¬ (l ≠ [] ∧ rd l ((l.length : Int) - 1) = 32) from fun x => h x.2)]; rfl
theorem nput_range {l : List Int} {c : Int} (hl : ∀ x ∈ l, 0 ≤ x ∧ x ≤ 255) (hc : 0 ≤ c ∧ c ≤ 255) : ∀ x ∈ nput l c, 0 ≤ x ∧ x ≤ 255 := by
  intro x hx
  unfold nput at hx
  split at hx
  · exact hl x hx
  · rcases List.mem_append.1 hx with h | h
    · exact hl x h
    · rw [List.mem_singleton.1 h]; exact hc
theorem up_range {c : Int} (hc : 0 ≤ c ∧ c ≤ 255) : 0 ≤ up c ∧ up c ≤ 255 := by unfold up; split <;> omega
theorem impl_Norm_l0 (s : ByteArray) (hs : s.size ≤ 100) : ∀ (d k : Nat) (i : Int) (l : List Int), 0 ≤ i → i + d = s.size → 2 * d < k → l.length ≤ i → (∀ x ∈ l, 0 ≤ x ∧ x ≤ 255) →
    impl_Norm.l0 k s l (s.size : Int) i = some (strOfNums (ntrim (nfold l ((bytesOf s).drop i.toNat))))
  | 0, k, i, l, h0, hd, hk, hl, hr => by
    obtain ⟨k, rfl⟩ : ∃ m, k = m + 1 := ⟨k - 1, by omega⟩
    simp only [impl_Norm.l0]
    rw [if_neg (by omega), List.drop_of_length_le (by rw [bytesOf_length]; omega), trim_blank l (by omega) hr]
    rfl
  | d + 1, k, i, l, h0, hd, hk, hl, hr => by
    obtain ⟨k, rfl⟩ : ∃ m, k = m + 2 := ⟨k - 2, by omega⟩
    have hb := bt_range s i
    have hj : ∀ b : Bool, b = (decide (bt s i ≥ 65) && decide (bt s i ≤ 90)) → impl_Norm.j2 (k + 1) s l (bt s i) (s.size : Int) i b = some (strOfNums (ntrim (nfold l ((bytesOf s).drop i.toNat)))) := by
      intro b hbb
      rw [impl_Norm_j2 k s l _ i _ b (by omega) h0 (by omega), up_of hb.1 hb.2 b hbb]
      have := nput_length l (up (bt s i))
      rw [impl_Norm_l0 s hs d k (i + 1) _ (by omega) (by omega) (by omega) (by omega) (nput_range hr (up_range hb)), drop_bt s i h0 (by omega)]; rfl
    simp only [impl_Norm.l0]
    rw [if_pos (by omega), if_pos h0, if_pos (by omega)]
    by_cases h : bt s i ≥ 65
    · rw [if_pos h]; exact hj _ (by simp [h])
    · rw [if_neg h]; exact hj _ (by simp [h])
theorem spec_Norm_f (s : ByteArray) (k : Nat) (hk : 2 * s.size + 2 < k) : spec_Norm.f k s = some (NormP s) := by
  obtain ⟨k, rfl⟩ : ∃ m, k = m + 1 := ⟨k - 1, by omega⟩
  unfold spec_Norm.f NormP NormL
  by_cases h : s.size ≤ 100
  · rw [if_neg (by omega), spec_l02Plain_f s (by omega) _ (by omega)]
    simp only [Option.bind_some, spec_Norm.j0]
    by_cases hp : plainP s = true
    · rw [if_neg (by simp [hp]), if_pos ⟨h, hp⟩, spec_Norm_l0 s h s.size k 0 [] (by omega) (by omega) (by omega) (by simp)]; rfl
    · rw [if_pos (by simp [hp]), if_neg (fun x => hp x.2)]; rfl
  · rw [if_pos (by omega), if_neg (fun x => h x.1)]
    simp only [spec_Norm.j0, if_true]; rfl
theorem impl_Norm_f (s : ByteArray) (k : Nat) (hk : 2 * s.size + 2 < k) : impl_Norm.f k s = some (NormP s) := by
  obtain ⟨k, rfl⟩ : ∃ m, k = m + 1 := ⟨k - 1, by omega⟩
  unfold impl_Norm.f NormP NormL
  by_cases h : s.size ≤ 100
  · rw [if_neg (by omega), impl_isPrintable_f s (by omega) _ (by omega)]
    simp only [Option.bind_some, impl_Norm.j0]
    by_cases hp : plainP s = true
    · rw [if_neg (by simp [hp]), if_pos ⟨h, hp⟩, impl_Norm_l0 s h s.size k 0 [] (by omega) (by omega) (by omega) (by simp) (by simp)]; rfl
    · rw [if_pos (by simp [hp]), if_neg (fun x => hp x.2)]; rfl
  · rw [if_pos (by omega), if_neg (fun x => h x.1)]
    simp only [impl_Norm.j0, if_true]; rfl

/-! NameRight -/
def lowc (c : Int) : Bool := decide (97 ≤ c) && decide (c ≤ 122)
def nch (c : Int) : Bool := lowc c || (decide (48 ≤ c) && decide (c ≤ 57)) || decide (c = 95)
/-- What NameRight says. -/
def NameP (s : ByteArray) : Bool := decide (1 ≤ s.size) && decide (s.size ≤ 20) && lowc (bt s 0) && (bytesOf s).all nch
theorem spec_NameRight_l0 (s : ByteArray) (hs : s.size ≤ 20) : ∀ (d k : Nat) (i : Int), 0 ≤ i → i + d = s.size → d < k →
    spec_NameRight.l0 k s i = some ((decide (i ≠ 0) || decide (s.size = 0) || lowc (bt s 0)) && ((bytesOf s).drop i.toNat).all nch)
  | 0, k, i, h0, hi, hk => by
    obtain ⟨k, rfl⟩ : ∃ q, k = q + 1 := ⟨k - 1, by omega⟩
    rw [spec_NameRight.l0, if_neg (by omega), List.drop_of_length_le (by rw [bytesOf_length]; omega), List.all_nil, Bool.and_true]
    by_cases hz : i = 0
    · rw [decide_eq_true (p := s.size = 0) (by omega)]; simp
    · rw [decide_eq_true (p := i ≠ 0) hz]; rfl
  | d + 1, k, i, h0, hi, hk => by
    obtain ⟨k, rfl⟩ : ∃ q, k = q + 1 := ⟨k - 1, by omega⟩
    have ih := spec_NameRight_l0 s hs d k (i + 1) (by omega) (by omega) (by omega)
    rw [decide_eq_true (p := i + 1 ≠ 0) (by omega), Bool.true_or, Bool.true_or, Bool.true_and] at ih
    rw [spec_NameRight.l0, if_pos (by omega), if_pos h0, drop_bt s i h0 (by omega), List.all_cons, w64 (x := i + 1) (by omega) (by omega), ih, decide_eq_false (p := s.size = 0) (by omega), Bool.or_false]
    have hc := bt_range s i
    generalize hcg : bt s i = c at hc ⊢
    have h00 : i = 0 → lowc (bt s 0) = lowc c := fun e => by rw [← hcg, e]
    unfold nch lowc at *
    by_cases c1 : c ≥ 97
    · rw [if_pos c1, decide_eq_true (p := 97 ≤ c) c1]
      by_cases c2 : c ≤ 122
      · rw [if_pos c2, decide_eq_true c2]
        by_cases hz : i = 0
        · rw [h00 hz, decide_eq_true (p := 97 ≤ c) c1, decide_eq_true c2]; simp
        · rw [decide_eq_true (p := i ≠ 0) hz]; simp
      · rw [if_neg c2, decide_eq_false c2, decide_eq_false (p := c ≤ 57) (by omega), decide_eq_false (p := c = 95) (by omega)]
        by_cases hz : i = 0
        · rw [if_pos hz, h00 hz, decide_eq_false c2, decide_eq_false (p := i ≠ 0) (by omega)]; simp
        · rw [if_neg hz, if_pos (by omega), if_neg (by omega), if_neg (by omega)]; simp
    · rw [if_neg c1, decide_eq_false (p := 97 ≤ c) c1]
      by_cases hz : i = 0
      · rw [if_pos hz, h00 hz, decide_eq_false (p := 97 ≤ c) c1, decide_eq_false (p := i ≠ 0) (by omega)]; simp
      · rw [if_neg hz, decide_eq_true (p := i ≠ 0) hz]
        by_cases c3 : c ≥ 48
        · rw [if_pos c3, decide_eq_true (p := 48 ≤ c) c3]
          by_cases c4 : c ≤ 57
          · rw [if_pos c4, decide_eq_true c4]; simp
          · rw [if_neg c4, decide_eq_false c4]
            by_cases c5 : c = 95
            · rw [if_pos c5, decide_eq_true c5]; simp
            · rw [if_neg c5, decide_eq_false c5]; simp
        · rw [if_neg c3, decide_eq_false (p := 48 ≤ c) c3, if_neg (by omega), decide_eq_false (p := c = 95) (by omega)]; simp
theorem spec_NameRight_f (s : ByteArray) (k : Nat) (hk : 30 ≤ k) : spec_NameRight.f k s = some (NameP s) := by
  obtain ⟨k, rfl⟩ : ∃ q, k = q + 1 := ⟨k - 1, by omega⟩
  unfold spec_NameRight.f NameP
  by_cases h1 : (s.size : Int) < 1
  · rw [if_pos h1, spec_NameRight.j0, if_pos rfl, decide_eq_false (p := 1 ≤ s.size) (by omega)]; rfl
  · rw [if_neg h1, decide_eq_true (p := 1 ≤ s.size) (by omega)]
    by_cases h2 : (s.size : Int) > 20
    · rw [decide_eq_true h2, spec_NameRight.j0, if_pos rfl, decide_eq_false (p := s.size ≤ 20) (by omega)]; rfl
    · rw [decide_eq_false h2, spec_NameRight.j0, if_neg (by simp), decide_eq_true (p := s.size ≤ 20) (by omega), spec_NameRight_l0 s (by omega) s.size k 0 (by omega) (by omega) (by omega), decide_eq_false (p := s.size = 0) (by omega)]
      simp
theorem dw_nil {α : Type} (p : α → Bool) : ∀ l : List α, (∀ x ∈ l, p x = true) → l.dropWhile p = []
  | [], _ => rfl
  | a :: l, h => by
    rw [List.dropWhile_cons, if_pos (h a (by simp))]
    exact dw_nil p l (fun x hx => h x (List.mem_cons_of_mem _ hx))
theorem dw_all {α : Type} (p : α → Bool) : ∀ l : List α, (∀ x ∈ l.dropWhile p, p x = true) → ∀ x ∈ l, p x = true
  | [], _, x, hx => by cases hx
  | a :: l, h, x, hx => by
    rw [List.dropWhile_cons] at h
    by_cases ha : p a = true
    · rw [if_pos ha] at h
      rcases List.mem_cons.1 hx with e | e
      · rw [e]; exact ha
      · exact dw_all p l h x e
    · rw [if_neg ha] at h
      exact absurd (h a (by simp)) ha
theorem trim_nil (l cs : List UInt8) : (Lib.trimS l cs == ([] : List UInt8)) = l.all (cs.contains ·) := by
  have key : Lib.trimS l cs = [] ↔ ∀ x ∈ l, cs.contains x = true := by
    unfold Lib.trimS Lib.trimLeftS Lib.trimRightS
    constructor
    · intro h x hx
      refine dw_all (cs.contains ·) l.reverse (fun y hy => ?_) x (List.mem_reverse.2 hx)
      refine dw_all (cs.contains ·) (l.reverse.dropWhile (cs.contains ·)).reverse (fun z hz => ?_) y (List.mem_reverse.2 hy)
      rw [h] at hz; cases hz
    · intro h
      rw [dw_nil (cs.contains ·) l.reverse (fun x hx => h x (List.mem_reverse.1 hx))]; rfl
  by_cases h : Lib.trimS l cs = []
  · rw [h, List.all_eq_true.2 (key.1 h)]; rfl
  · rw [beq_eq_false_iff_ne.2 h]
    symm
    rw [Bool.eq_false_iff]
    exact fun h2 => h (key.2 (List.all_eq_true.1 h2))
theorem nch_contains (b : UInt8) : ([97, 98, 99, 100, 101, 102, 103, 104, 105, 106, 107, 108, 109, 110, 111, 112, 113, 114, 115, 116, 117, 118, 119, 120, 121, 122, 48, 49, 50, 51, 52, 53, 54, 55, 56, 57, 95] : List UInt8).contains b = nch b.toNat := by
  have key : ∀ z : Fin 256, ([97, 98, 99, 100, 101, 102, 103, 104, 105, 106, 107, 108, 109, 110, 111, 112, 113, 114, 115, 116, 117, 118, 119, 120, 121, 122, 48, 49, 50, 51, 52, 53, 54, 55, 56, 57, 95] : List UInt8).contains (UInt8.ofNat z.val) = nch (z.val : Nat) := by decide +kernel
  have := key ⟨b.toNat, b.toNat_lt⟩
  simpa using this
theorem impl_NameRight_f (s : ByteArray) : impl_NameRight.f s = some (NameP s) := by
  unfold impl_NameRight.f NameP
  by_cases h1 : (s.size : Int) ≥ 1
  · rw [if_pos h1, decide_eq_true (p := 1 ≤ s.size) (by omega)]
    by_cases h2 : (s.size : Int) ≤ 20
    · rw [if_pos h2, decide_eq_true (p := s.size ≤ 20) (by omega), if_pos (by omega)]
      unfold lowc
      by_cases h3 : bt s 0 ≥ 97
      · rw [if_pos h3, decide_eq_true (p := 97 ≤ bt s 0) h3]
        by_cases h4 : bt s 0 ≤ 122
        · rw [if_pos h4, decide_eq_true h4]
          unfold strings_Trim.f
          rw [if_pos ⟨by omega, by decide, by decide⟩]
          simp only [Option.bind_some, Bool.true_and]
          congr 1
          rw [Go.Lib.toList_data]
          show (Lib.trimS s.data.toList _ == []) = _
          rw [trim_nil]
          unfold bytesOf
          rw [List.all_map]
          congr 1
          funext b
          exact nch_contains b
        · rw [if_neg h4, decide_eq_false h4]; rfl
      · rw [if_neg h3, decide_eq_false (p := 97 ≤ bt s 0) h3]; rfl
    · rw [if_neg h2, decide_eq_false (p := s.size ≤ 20) (by omega)]; rfl
  · rw [if_neg h1, decide_eq_false (p := 1 ≤ s.size) (by omega)]; rfl

/-! values -/
/-- Is a text a value. -/
def ValueP (s : ByteArray) : Bool := decide (1 ≤ s.size) && decide (s.size ≤ 40) && ((NormP s).toList != ([] : List UInt8))
theorem spec_l02Value_f (s : ByteArray) (k : Nat) (hk : 100 ≤ k) : spec_l02Value.f k s = some (ValueP s) := by
  unfold spec_l02Value.f ValueP
  by_cases h1 : (s.size : Int) ≥ 1
  · by_cases h2 : (s.size : Int) ≤ 40
    · rw [if_pos h1, if_pos h2, spec_Norm_f s k (by omega), decide_eq_true (p := 1 ≤ s.size) (by omega), decide_eq_true (p := s.size ≤ 40) (by omega)]
      simp
    · rw [if_pos h1, if_neg h2, decide_eq_false (p := s.size ≤ 40) (by omega)]; simp
  · rw [if_neg h1, decide_eq_false (p := 1 ≤ s.size) (by omega)]; simp
theorem impl_isProper_f (s : ByteArray) (k : Nat) (hk : 100 ≤ k) : impl_isProper.f k s = some (ValueP s) := by
  unfold impl_isProper.f ValueP
  by_cases h1 : (s.size : Int) ≥ 1
  · by_cases h2 : (s.size : Int) ≤ 40
    · rw [if_pos h1, if_pos h2, impl_Norm_f s k (by omega), decide_eq_true (p := 1 ≤ s.size) (by omega), decide_eq_true (p := s.size ≤ 40) (by omega)]
      simp
    · rw [if_pos h1, if_neg h2, decide_eq_false (p := s.size ≤ 40) (by omega)]; simp
  · rw [if_neg h1, decide_eq_false (p := 1 ≤ s.size) (by omega)]; simp

/-! DnRight -/
abbrev Rd := S42
def RdnP (x : Rd) : Bool := NameP x.f0 && ValueP x.f1
/-- What DnRight says. -/
def DnP (l : List Rd) : Bool := decide (l.length ≤ 6) && l.all RdnP
theorem rd_drop (l : List Rd) (i : Int) (h0 : 0 ≤ i) (h1 : i < l.length) : l.drop i.toNat = rd_T42 l i :: l.drop (i + 1).toNat := by
  have hi : i.toNat < l.length := by omega
  rw [List.drop_eq_getElem_cons hi, show (i + 1).toNat = i.toNat + 1 by omega]
  congr 1
  unfold rd_T42
  rw [List.getD_eq_getElem?_getD, List.getElem?_eq_getElem hi]; rfl
theorem spec_DnRight_l0 (l : List Rd) (hl : (l.length : Int) ≤ 4611686018427387904) : ∀ (d k : Nat) (i : Int), 0 ≤ i → i + d = l.length → 100 + d < k →
    spec_DnRight.l0 k l i = some ((l.drop i.toNat).all RdnP && decide (l.length ≤ 6))
  | 0, k, i, h0, hi, hk => by
    obtain ⟨k, rfl⟩ : ∃ q, k = q + 1 := ⟨k - 1, by omega⟩
    rw [spec_DnRight.l0, if_neg (by omega), List.drop_of_length_le (by omega), List.all_nil, Bool.true_and]
    congr 1
    by_cases h6 : l.length ≤ 6
    · rw [decide_eq_true h6, decide_eq_true (by omega)]
    · rw [decide_eq_false h6, decide_eq_false (by omega)]
  | d + 1, k, i, h0, hi, hk => by
    obtain ⟨k, rfl⟩ : ∃ q, k = q + 1 := ⟨k - 1, by omega⟩
    rw [spec_DnRight.l0, if_pos (by omega), if_pos h0, rd_drop l i h0 (by omega), List.all_cons, spec_NameRight_f _ k (by omega), spec_l02Value_f _ k (by omega),
      w64 (x := i + 1) (by omega) (by omega), spec_DnRight_l0 l hl d k (i + 1) (by omega) (by omega) (by omega)]
    unfold RdnP
    cases NameP (rd_T42 l i).f0 <;> cases ValueP (rd_T42 l i).f1 <;> simp
theorem spec_DnRight_f (l : List Rd) (hl : (l.length : Int) ≤ 4611686018427387904) (k : Nat) (hk : 101 + l.length ≤ k) : spec_DnRight.f k l = some (DnP l) := by
  unfold spec_DnRight.f DnP
  rw [spec_DnRight_l0 l hl l.length k 0 (by omega) (by omega) (by omega)]
  simp [Bool.and_comm]
theorem impl_DnRight_1_f (a b : ByteArray) (k : Nat) (hk : 100 ≤ k) : impl_DnRight_1.f k a b = some (!(NameP a && ValueP b)) := by
  unfold impl_DnRight_1.f impl_isRdn.f
  rw [impl_NameRight_f, impl_isProper_f _ k hk]
  cases NameP a <;> cases ValueP b <;> rfl
theorem impl_DnRight_ix (k : Nat) (hk : 100 ≤ k) : ∀ (l : List Rd) (i : Int), 0 ≤ i → ∃ r, impl_DnRight.ix k l i = some r ∧ (!(decide (r ≥ 0))) = l.all RdnP
  | [], i, h0 => ⟨-1, rfl, rfl⟩
  | x :: xs, i, h0 => by
    simp only [impl_DnRight.ix]
    rw [impl_DnRight_1_f _ _ k hk, List.all_cons, Option.bind_some]
    unfold RdnP
    cases NameP x.f0 && ValueP x.f1 with
    | true => exact impl_DnRight_ix k hk xs (i + 1) (by omega)
    | false => exact ⟨i, rfl, by rw [decide_eq_true (p := i ≥ 0) h0]; rfl⟩
theorem impl_DnRight_f (l : List Rd) (k : Nat) (hk : 100 ≤ k) : impl_DnRight.f k l = some (DnP l) := by
  unfold impl_DnRight.f DnP
  by_cases h : (l.length : Int) ≤ 6
  · obtain ⟨r, e, h2⟩ := impl_DnRight_ix k hk l 0 (by omega)
    rw [if_pos h, e, Option.bind_some, h2, decide_eq_true (p := l.length ≤ 6) (by omega)]; rfl
  · rw [if_neg h, decide_eq_false (p := l.length ≤ 6) (by omega)]; rfl
theorem DnP_mem {l : List Rd} (h : DnP l = true) : l.length ≤ 6 ∧ ∀ x ∈ l, RdnP x = true := by
  unfold DnP at h
  simp only [Bool.and_eq_true, decide_eq_true_eq, List.all_eq_true] at h
  exact h

/-! sizes -/
theorem ValueP_size {s : ByteArray} (h : ValueP s = true) : 1 ≤ s.size ∧ s.size ≤ 40 := by
  unfold ValueP at h
  simp only [Bool.and_eq_true, decide_eq_true_eq] at h
  omega
theorem NameP_size {s : ByteArray} (h : NameP s = true) : 1 ≤ s.size ∧ s.size ≤ 20 := by
  unfold NameP at h
  simp only [Bool.and_eq_true, decide_eq_true_eq] at h
  omega
theorem RdnP_size {x : Rd} (h : RdnP x = true) : x.f0.size ≤ 20 ∧ x.f1.size ≤ 40 := by
  unfold RdnP at h
  simp only [Bool.and_eq_true] at h
  exact ⟨(NameP_size h.1).2, (ValueP_size h.2).2⟩
theorem rd_mem (l : List Rd) (i : Int) (h0 : 0 ≤ i) (h1 : i < l.length) : rd_T42 l i ∈ l := by
  have hi : i.toNat < l.length := by omega
  unfold rd_T42
  rw [List.getD_eq_getElem?_getD, List.getElem?_eq_getElem hi]
  exact List.getElem_mem hi

/-! DnText -/
/-- Does a byte of a value stand behind a backslash. -/
def oddP (s : ByteArray) (i : Int) : Bool :=
  (decide (bt s i = 44) || decide (bt s i = 43) || decide (bt s i = 34) || decide (bt s i = 92) || decide (bt s i = 60) || decide (bt s i = 62) || decide (bt s i = 59) || decide (bt s i = 61)) ||
  ((decide (bt s i = 35) && decide (i = 0)) || (decide (bt s i = 32) && (decide (i = 0) || decide (i = (s.size : Int) - 1))))
/-- A value from a place on, with its backslashes. -/
def escF (s : ByteArray) : Nat → Int → List Int
  | 0, _ => []
  | d + 1, i => (if oddP s i = true then [92, bt s i] else [bt s i]) ++ escF s d (i + 1)
def escB (s : ByteArray) : List Int := escF s s.size 0
def textB : Bool → List Rd → List Int
  | _, [] => []
  | sep, x :: xs => (if sep = true then [44] else []) ++ (bytesOf x.f0 ++ ([61] ++ (escB x.f1 ++ textB true xs)))
/-- What DnText gives of a right DN. -/
def TextP (l : List Rd) : ByteArray := strOfNums (textB false l)
theorem escF_length (s : ByteArray) : ∀ (d : Nat) (i : Int), (escF s d i).length ≤ 2 * d
  | 0, i => by simp [escF]
  | d + 1, i => by
    have := escF_length s d (i + 1)
    simp only [escF, List.length_append]
    split <;> simp <;> omega
theorem escF_range (s : ByteArray) : ∀ (d : Nat) (i : Int), ∀ x ∈ escF s d i, 0 ≤ x ∧ x ≤ 255
  | 0, i, x, h => by simp [escF] at h
  | d + 1, i, x, h => by
    simp only [escF, List.mem_append] at h
    rcases h with h | h
    · have := bt_range s i
      split at h <;> simp at h
      · rcases h with rfl | rfl <;> omega
      · subst h; omega
    · exact escF_range s d (i + 1) x h
theorem spec_l02Odd_f (s : ByteArray) (i : Int) (h0 : 0 ≤ i) (h1 : i < s.size) (hs : s.size ≤ 4611686018427387904) (k : Nat) (hk : 1 ≤ k) : spec_l02Odd.f k s i = some (oddP s i) := by
  obtain ⟨k, rfl⟩ : ∃ q, k = q + 1 := ⟨k - 1, by omega⟩
  unfold spec_l02Odd.f oddP
  rw [if_pos h0, if_pos h1]
  simp only [spec_l02Odd.j0, w64 (x := (s.size : Int) - 1) (by omega) (by omega)]
  generalize bt s i = c
  by_cases c1 : c = 44; · subst c1; simp
  by_cases c2 : c = 43; · subst c2; simp
  by_cases c3 : c = 34; · subst c3; simp
  by_cases c4 : c = 92; · subst c4; simp
  by_cases c5 : c = 60; · subst c5; simp
  by_cases c6 : c = 62; · subst c6; simp
  by_cases c7 : c = 59; · subst c7; simp
  by_cases c8 : c = 61; · subst c8; simp
  by_cases c9 : c = 35; · subst c9; simp; by_cases hi : i = 0 <;> simp [hi]
  by_cases c10 : c = 32
  · subst c10; simp; by_cases hi : i = 0 <;> simp [hi]; by_cases h2 : i = (s.size : Int) - 1 <;> simp [h2]
  simp [c1, c2, c3, c4, c5, c6, c7, c8, c9, c10]
theorem spec_l02Escape_l0 (s : ByteArray) (hs : s.size ≤ 1000) : ∀ (d k : Nat) (a : List Int) (i : Int), 0 ≤ i → i + d = s.size → 1 + d < k → a.length ≤ 2 * i →
    spec_l02Escape.l0 k s a i = some (strOfNums (a ++ escF s d i))
  | 0, k, a, i, h0, hi, hk, ha => by
    obtain ⟨k, rfl⟩ : ∃ q, k = q + 1 := ⟨k - 1, by omega⟩
    rw [spec_l02Escape.l0, if_neg (by omega)]
    simp [escF]
  | d + 1, k, a, i, h0, hi, hk, ha => by
    obtain ⟨k, rfl⟩ : ∃ q, k = q + 1 := ⟨k - 1, by omega⟩
    rw [spec_l02Escape.l0, if_pos (by omega), spec_l02Odd_f s i h0 (by omega) (by omega) k (by omega), w64 (x := i + 1) (by omega) (by omega)]
    simp only [Option.bind_some, escF]
    cases oddP s i with
    | true =>
      rw [if_pos rfl, if_pos (by omega), if_pos h0, if_pos (by rw [List.length_append, List.length_singleton]; omega), spec_l02Escape_l0 s hs d k _ (i + 1) (by omega) (by omega) (by omega) (by simp; omega)]
      simp
    | false =>
      rw [if_neg (by simp), if_pos h0, if_pos (by omega), spec_l02Escape_l0 s hs d k _ (i + 1) (by omega) (by omega) (by omega) (by simp; omega)]
      simp
theorem spec_l02Escape_f (s : ByteArray) (hs : s.size ≤ 40) (k : Nat) (hk : 50 ≤ k) : spec_l02Escape.f k s = some (strOfNums (escB s)) := by
  unfold spec_l02Escape.f escB
  rw [spec_l02Escape_l0 s (by omega) s.size k [] 0 (by omega) (by omega) (by omega) (by simp)]
  simp
theorem escB_length (s : ByteArray) : (escB s).length ≤ 2 * s.size := escF_length s _ _
theorem spec_l02Text_l0 (l : List Rd) (hl : l.length ≤ 6) (hr : ∀ x ∈ l, RdnP x = true) : ∀ (d k : Nat) (a : ByteArray) (i : Int), 0 ≤ i → i + d = l.length → 60 + d < k → a.size ≤ 200 * i →
    spec_l02Text.l0 k l a i = some (a ++ strOfNums (textB (decide (0 < i)) (l.drop i.toNat)))
  | 0, k, a, i, h0, hi, hk, ha => by
    obtain ⟨k, rfl⟩ : ∃ q, k = q + 1 := ⟨k - 1, by omega⟩
    rw [spec_l02Text.l0, if_neg (by omega), List.drop_of_length_le (by omega)]
    simp only [textB]
    rw [show strOfNums [] = (⟨#[]⟩ : ByteArray) from rfl]
    congr 1
    apply ByteArray.ext
    simp
  | d + 1, k, a, i, h0, hi, hk, ha => by
    obtain ⟨k, rfl⟩ : ∃ q, k = q + 1 := ⟨k - 1, by omega⟩
    obtain ⟨hn, hv⟩ := RdnP_size (hr _ (rd_mem l i h0 (by omega)))
    have he := escB_length (rd_T42 l i).f1
    have s1 : (⟨#[44]⟩ : ByteArray).size = 1 := rfl
    have s2 : (⟨#[61]⟩ : ByteArray).size = 1 := rfl
    rw [spec_l02Text.l0, if_pos (by omega), spec_l02Escape_f _ hv k (by omega), w64 (x := i + 1) (by omega) (by omega), rd_drop l i h0 (by omega)]
    simp only [Option.bind_some, textB]
    by_cases hz : i > 0
    · rw [if_pos hz, if_pos (by omega), if_pos h0, if_pos (by simp only [ba_append_size, s1]; omega), if_pos (by simp only [ba_append_size, s1]; omega), if_pos (by simp only [ba_append_size, s1, s2, strOfNums_size]; omega),
        spec_l02Text_l0 l hl hr d k _ (i + 1) (by omega) (by omega) (by omega) (by simp only [ba_append_size, s1, s2, strOfNums_size]; omega), decide_eq_true (p := 0 < i) hz, decide_eq_true (p := 0 < i + 1) (by omega), if_pos rfl]
      simp only [son_append, son_bytesOf, ba_append_assoc]
      rfl
    · rw [if_neg hz, if_pos h0, if_pos (by omega), if_pos (by simp only [ba_append_size]; omega), if_pos (by simp only [ba_append_size, s2, strOfNums_size]; omega),
        spec_l02Text_l0 l hl hr d k _ (i + 1) (by omega) (by omega) (by omega) (by simp only [ba_append_size, s2, strOfNums_size]; omega), decide_eq_false (p := 0 < i) hz, decide_eq_true (p := 0 < i + 1) (by omega), if_neg (by simp), List.nil_append]
      simp only [son_append, son_bytesOf, ba_append_assoc]
      rfl
theorem spec_l02Text_f (l : List Rd) (h : DnP l = true) (k : Nat) (hk : 70 ≤ k) : spec_l02Text.f k l = some (TextP l) := by
  obtain ⟨hl, hr⟩ := DnP_mem h
  unfold spec_l02Text.f TextP
  rw [spec_l02Text_l0 l hl hr l.length k _ 0 (by omega) (by omega) (by omega) (by decide)]
  rw [show (0 : Int).toNat = 0 from rfl, List.drop_zero, decide_eq_false (p := (0 : Int) < 0) (by omega)]
  congr 1
theorem marked_key (c : Int) (h0 : 0 ≤ c) (h1 : c ≤ 255) : decide (Lib.indexByte [44, 43, 34, 92, 60, 62, 59, 61] (UInt8.ofNat c.toNat) ≥ 0) =
    (decide (c = 44) || decide (c = 43) || decide (c = 34) || decide (c = 92) || decide (c = 60) || decide (c = 62) || decide (c = 59) || decide (c = 61)) := by
  have key : ∀ z : Fin 256, decide (Lib.indexByte [44, 43, 34, 92, 60, 62, 59, 61] (UInt8.ofNat z.val) ≥ 0) = (decide (z.val = 44) || decide (z.val = 43) || decide (z.val = 34) || decide (z.val = 92) || decide (z.val = 60) || decide (z.val = 62) || decide (z.val = 59) || decide (z.val = 61)) := by decide +kernel
  have k2 : decide (Lib.indexByte [44, 43, 34, 92, 60, 62, 59, 61] (UInt8.ofNat c.toNat) ≥ 0) = (decide (c.toNat = 44) || decide (c.toNat = 43) || decide (c.toNat = 34) || decide (c.toNat = 92) || decide (c.toNat = 60) || decide (c.toNat = 62) || decide (c.toNat = 59) || decide (c.toNat = 61)) := key ⟨c.toNat, by omega⟩
  rw [k2]
  have e : ∀ q : Nat, decide (c.toNat = q) = decide (c = (q : Int)) := fun q => by
    by_cases h : c = (q : Int)
    · rw [decide_eq_true h, decide_eq_true (by omega)]
    · rw [decide_eq_false h, decide_eq_false (by omega)]
  simp only [e]
  rfl
theorem impl_isMarked_f (s : ByteArray) (i : Int) (h0 : 0 ≤ i) (h1 : i < s.size) (hs : s.size ≤ 4611686018427387904) : impl_isMarked.f s i = some (oddP s i) := by
  have hc := bt_range s i
  have k3 := marked_key (bt s i) hc.1 hc.2
  unfold impl_isMarked.f oddP strings_IndexByte.f
  rw [if_pos h0, if_pos h1, w64 (x := (s.size : Int) - 1) (by omega) (by omega)]
  simp only [Option.bind_some]
  generalize bt s i = c at hc k3 ⊢
  show (if Lib.indexByte [44, 43, 34, 92, 60, 62, 59, 61] (UInt8.ofNat c.toNat) ≥ 0 then some true else _) = some (_ || _)
  rw [← k3]
  by_cases hx : Lib.indexByte [44, 43, 34, 92, 60, 62, 59, 61] (UInt8.ofNat c.toNat) ≥ 0
  · rw [if_pos hx, decide_eq_true hx]; rfl
  · rw [if_neg hx, decide_eq_false hx, Bool.false_or]
    by_cases c9 : c = 35
    · subst c9; by_cases hi : i = 0 <;> simp [hi]
    · by_cases c10 : c = 32
      · subst c10; by_cases hi : i = 0 <;> simp [hi]; by_cases h2 : i = (s.size : Int) - 1 <;> simp [h2]
      · simp [c9, c10]
theorem impl_dnText_l1 (l : List Rd) (len i : Int) (n s : ByteArray) (hs : s.size ≤ 1000) : ∀ (d k : Nat) (a : List Int) (j : Int), 0 ≤ j → j + d = s.size → a.length + 2 * d ≤ 1000000 →
    impl_dnText.l1 (k + d + 1) a l len i (s.size : Int) j n s = impl_dnText.l0 k (a ++ escF s d j) l len (wrap64 (i + 1))
  | 0, k, a, j, h0, hj, ha => by
    rw [Nat.add_zero, impl_dnText.l1, if_neg (by omega)]
    simp [escF]
  | d + 1, k, a, j, h0, hj, ha => by
    rw [show k + (d + 1) + 1 = (k + d + 1) + 1 by omega, impl_dnText.l1, if_pos (by omega), impl_isMarked_f s j h0 (by omega) (by omega), w64 (x := j + 1) (by omega) (by omega)]
    simp only [Option.bind_some, escF]
    cases oddP s j with
    | true =>
      rw [if_pos rfl, if_pos (by omega), if_pos h0, if_pos (by omega), if_pos (by rw [List.length_append, List.length_singleton]; omega), impl_dnText_l1 l len i n s hs d k _ (j + 1) (by omega) (by omega) (by simp; omega)]
      simp
    | false =>
      rw [if_neg (by simp), if_pos h0, if_pos (by omega), if_pos (by omega), impl_dnText_l1 l len i n s hs d k _ (j + 1) (by omega) (by omega) (by simp; omega)]
      simp
theorem impl_dnText_l0 (l : List Rd) (hl : l.length ≤ 6) (hr : ∀ x ∈ l, RdnP x = true) : ∀ (d k : Nat) (a : List Int) (i : Int), 0 ≤ i → i + d = l.length → 50 * d < k → a.length ≤ 200 * i →
    impl_dnText.l0 k a l (l.length : Int) i = some (strOfNums (a ++ textB (decide (0 < i)) (l.drop i.toNat)))
  | 0, k, a, i, h0, hi, hk, ha => by
    obtain ⟨k, rfl⟩ : ∃ q, k = q + 1 := ⟨k - 1, by omega⟩
    rw [impl_dnText.l0, if_neg (by omega), List.drop_of_length_le (by omega)]
    simp [textB]
  | d + 1, k, a, i, h0, hi, hk, ha => by
    obtain ⟨hn, hv⟩ := RdnP_size (hr _ (rd_mem l i h0 (by omega)))
    obtain ⟨k, rfl⟩ : ∃ q, k = (q + (rd_T42 l i).f1.size + 1) + 2 := ⟨k - (rd_T42 l i).f1.size - 3, by omega⟩
    have he := escB_length (rd_T42 l i).f1
    have key : ∀ b : List Int, b.length ≤ 200 * i + 1 → impl_dnText.j1 ((k + (rd_T42 l i).f1.size + 1) + 1) b l (l.length : Int) i (rd_T42 l i).f0 (rd_T42 l i).f1 = some (strOfNums (b ++ (bytesOf (rd_T42 l i).f0 ++ ([61] ++ (escB (rd_T42 l i).f1 ++ textB true (l.drop (i + 1).toNat)))))) := by
      intro b hb
      have hbl := bytesOf_length (rd_T42 l i).f0
      rw [impl_dnText.j1, if_pos (by omega)]
      simp only [Option.bind_some]
      rw [if_pos (by rw [List.length_append]; omega), impl_dnText_l1 l _ i _ _ (by omega) _ k _ 0 (by omega) (by omega) (by simp; omega), w64 (x := i + 1) (by omega) (by omega)]
      show impl_dnText.l0 k (_ ++ escB (rd_T42 l i).f1) l _ _ = _
      rw [impl_dnText_l0 l hl hr d k _ (i + 1) (by omega) (by omega) (by omega) (by simp only [List.length_append, List.length_singleton]; omega), decide_eq_true (p := 0 < i + 1) (by omega)]
      simp only [List.append_assoc]
    rw [impl_dnText.l0, if_pos (by omega), if_pos h0, if_pos (by omega), rd_drop l i h0 (by omega)]
    simp only [textB]
    by_cases hz : i > 0
    · rw [if_pos hz, if_pos (by omega), key _ (by rw [List.length_append, List.length_singleton]; omega), decide_eq_true (p := 0 < i) hz, if_pos rfl]
      simp only [List.append_assoc]
    · rw [if_neg hz, key _ (by omega), decide_eq_false (p := 0 < i) hz, if_neg (by simp), List.nil_append]
theorem impl_dnText_f (l : List Rd) (h : DnP l = true) (k : Nat) (hk : 310 ≤ k) : impl_dnText.f k l = some (TextP l) := by
  obtain ⟨hl, hr⟩ := DnP_mem h
  unfold impl_dnText.f TextP
  rw [impl_dnText_l0 l hl hr l.length k _ 0 (by omega) (by omega) (by omega) (by simp)]
  rw [show (0 : Int).toNat = 0 from rfl, List.drop_zero, decide_eq_false (p := (0 : Int) < 0) (by omega)]
  rfl

/-! isLong -/
theorem impl_isLong_l0 (l : List ByteArray) (hl : l.length ≤ 4611686018427387904) : ∀ (d k : Nat) (i : Int), 0 ≤ i → i + d = l.length → d < k →
    impl_isLong.l0 k l (l.length : Int) i = some ((l.drop i.toNat).any fun t => decide (t.size > 8000))
  | 0, k, i, h0, hd, hk => by
    obtain ⟨k, rfl⟩ : ∃ m, k = m + 1 := ⟨k - 1, by omega⟩
    simp only [impl_isLong.l0]
    rw [if_neg (by omega), List.drop_of_length_le (by omega)]; rfl
  | d + 1, k, i, h0, hd, hk => by
    obtain ⟨k, rfl⟩ : ∃ m, k = m + 1 := ⟨k - 1, by omega⟩
    have hlt : i.toNat < l.length := by omega
    simp only [impl_isLong.l0]
    rw [if_pos (by omega), if_pos h0, if_pos (by omega), List.drop_eq_getElem_cons hlt, List.any_cons]
    have e : rdOf ByteArray.empty l i = l[i.toNat] := by unfold rdOf; rw [List.getD_eq_getElem?_getD, List.getElem?_eq_getElem hlt]; rfl
    rw [e]
    by_cases h : (l[i.toNat].size : Int) > 8000
    · rw [if_pos h, decide_eq_true (by omega)]; rfl
    · rw [if_neg h, decide_eq_false (by omega), w64 (by omega) (by omega), impl_isLong_l0 l hl d k (i + 1) (by omega) (by omega) (by omega), show (i + 1).toNat = i.toNat + 1 by omega]; rfl
theorem impl_isLong_f (l : List ByteArray) (hl : l.length ≤ 4611686018427387904) (k : Nat) (hk : l.length < k) : impl_isLong.f k l = some (l.any fun t => decide (t.size > 8000)) := by
  unfold impl_isLong.f
  rw [impl_isLong_l0 l hl l.length k 0 (by omega) (by omega) hk]; rfl

/-! DnRead -/
/-- Bytes cut at commas without a backslash ahead. -/
def cutL : List Int → List Int → List (List Int)
  | [], cur => [cur]
  | c :: r, cur =>
    if c = 92 then (match r with
      | [] => [cur ++ [c]]
      | d :: r' => cutL r' (cur ++ [c, d]))
    else if c = 44 then cur :: cutL r [] else cutL r (cur ++ [c])
/-- Bytes without the backslashes. -/
def unesc : List Int → List Int
  | [] => []
  | c :: r => if c = 92 then (match r with
      | [] => [c]
      | d :: r' => d :: unesc r') else c :: unesc r
theorem cutL_nil (cur : List Int) : cutL [] cur = [cur] := by rw [cutL.eq_def]
theorem cutL_cons (c : Int) (r cur : List Int) : cutL (c :: r) cur = if c = 92 then (match r with
      | [] => [cur ++ [c]]
      | d :: r' => cutL r' (cur ++ [c, d]))
    else if c = 44 then cur :: cutL r [] else cutL r (cur ++ [c]) := by rw [cutL.eq_def]
theorem unesc_nil : unesc [] = [] := by rw [unesc.eq_def]
theorem unesc_cons (c : Int) (r : List Int) : unesc (c :: r) = if c = 92 then (match r with
      | [] => [c]
      | d :: r' => d :: unesc r') else c :: unesc r := by rw [unesc.eq_def]
theorem cutL_length : ∀ (n : Nat) (l cur : List Int), l.length ≤ n → (cutL l cur).length ≤ l.length + 1
  | n, [], cur, h => by simp [cutL_nil]
  | 0, c :: r, cur, h => by simp at h
  | n + 1, c :: r, cur, h => by
    rw [cutL_cons]
    simp only [List.length_cons] at h ⊢
    split
    · match r, h with
      | [], h => simp
      | d :: r', h =>
        have := cutL_length n r' (cur ++ [c, d]) (by simp at h; omega)
        simp only [List.length_cons]; omega
    · split
      · have := cutL_length n r [] (by omega)
        simp only [List.length_cons]; omega
      · have := cutL_length n r (cur ++ [c]) (by omega)
        omega
theorem cutL_sizes : ∀ (n : Nat) (l cur : List Int), l.length ≤ n → ∀ x ∈ cutL l cur, x.length ≤ cur.length + l.length
  | n, [], cur, h, x, hx => by simp [cutL_nil] at hx; rw [hx]; simp
  | 0, c :: r, cur, h, x, hx => by simp at h
  | n + 1, c :: r, cur, h, x, hx => by
    rw [cutL_cons] at hx
    simp only [List.length_cons] at h ⊢
    split at hx
    · match r, h, hx with
      | [], h, hx => simp at hx; rw [hx]; simp
      | d :: r', h, hx =>
        have := cutL_sizes n r' (cur ++ [c, d]) (by simp at h; omega) x hx
        simp at this ⊢; omega
    · split at hx
      · rcases List.mem_cons.1 hx with e | e
        · rw [e]; omega
        · have := cutL_sizes n r [] (by omega) x e
          simp at this; omega
      · have := cutL_sizes n r (cur ++ [c]) (by omega) x hx
        simp at this; omega
theorem spec_l02Cut_l0 (t : ByteArray) (ht : t.size ≤ 8000) : ∀ (d k : Nat) (out : List ByteArray) (cur : List Int) (i : Int), 0 ≤ i → i + d = t.size → 2 * d + 1 < k → out.length ≤ i → cur.length ≤ i →
    spec_l02Cut.l0 k t out cur i = some (out ++ (cutL ((bytesOf t).drop i.toNat) cur).map strOfNums)
  | 0, k, out, cur, i, h0, hi, hk, ho, hc => by
    obtain ⟨k, rfl⟩ : ∃ q, k = q + 1 := ⟨k - 1, by omega⟩
    rw [spec_l02Cut.l0, if_neg (by omega), if_pos (by omega), List.drop_of_length_le (by rw [bytesOf_length]; omega)]
    rfl
  | d + 1, k, out, cur, i, h0, hi, hk, ho, hc => by
    obtain ⟨k, rfl⟩ : ∃ q, k = q + 2 := ⟨k - 2, by omega⟩
    rw [spec_l02Cut.l0, if_pos (by omega), if_pos h0, w64 (x := i + 1) (by omega) (by omega), drop_bt t i h0 (by omega)]
    by_cases h92 : bt t i = 92
    · rw [if_pos h92]
      by_cases hn : i + 1 < (t.size : Int)
      · rw [decide_eq_true hn, spec_l02Cut.j1, if_pos rfl, if_pos h0, if_pos (by omega), w64 (x := i + 1) (by omega) (by omega), if_pos (by omega), if_pos hn]
        simp only [Option.bind_some]
        obtain ⟨d, rfl⟩ : ∃ q, d = q + 1 := ⟨d - 1, by omega⟩
        rw [if_pos (by simp; omega), w64 (x := i + 1 + 1) (by omega) (by omega), spec_l02Cut_l0 t ht d k out _ (i + 1 + 1) (by omega) (by omega) (by omega) (by omega) (by simp; omega), drop_bt t (i + 1) (by omega) hn]
        congr 2
        rw [cutL_cons, if_pos h92]
      · rw [decide_eq_false hn, spec_l02Cut.j1, if_neg (by simp), if_pos h0, if_pos (by omega), if_neg (by omega), if_pos (by omega), w64 (x := i + 1) (by omega) (by omega), spec_l02Cut_l0 t ht d k out _ (i + 1) (by omega) (by omega) (by omega) (by omega) (by simp; omega)]
        rw [List.drop_of_length_le (l := bytesOf t) (i := (i + 1).toNat) (by rw [bytesOf_length]; omega)]
        congr 2
        rw [cutL_nil, cutL_cons, if_pos h92]
    · rw [if_neg h92, spec_l02Cut.j1, if_neg (by simp), if_pos h0, if_pos (by omega)]
      by_cases h44 : bt t i = 44
      · rw [if_pos h44, if_pos (by omega), w64 (x := i + 1) (by omega) (by omega), spec_l02Cut_l0 t ht d k _ [] (i + 1) (by omega) (by omega) (by omega) (by simp; omega) (by simp; omega), cutL_cons, if_neg h92, if_pos h44]
        simp
      · rw [if_neg h44, if_pos (by omega), w64 (x := i + 1) (by omega) (by omega), spec_l02Cut_l0 t ht d k out _ (i + 1) (by omega) (by omega) (by omega) (by omega) (by simp; omega), cutL_cons, if_neg h92, if_neg h44]
/-- The bytes ahead of the first '=', and what is behind it; false: there is none. -/
def splitEq : List Int → List Int × List Int × Bool
  | [] => ([], [], false)
  | c :: r => if c = 61 then ([], r, true) else (c :: (splitEq r).1, (splitEq r).2.1, (splitEq r).2.2)
def rdnL (l : List Int) : List Int × List Int := if (splitEq l).2.2 = true then ((splitEq l).1, unesc (splitEq l).2.1) else ([], [])
theorem unesc_length : ∀ (n : Nat) (l : List Int), l.length ≤ n → (unesc l).length ≤ l.length
  | n, [], h => by simp [unesc_nil]
  | 0, c :: r, h => by simp at h
  | n + 1, c :: r, h => by
    rw [unesc_cons]
    simp only [List.length_cons] at h
    split
    · match r, h with
      | [], h => simp
      | d :: r', h =>
        have := unesc_length n r' (by simp at h; omega)
        simp; omega
    · have := unesc_length n r (by omega)
      simp; omega
theorem spec_l02Rdn_l1 (t : ByteArray) (ht : t.size ≤ 8000) (e : Int) (he0 : 0 ≤ e) (he1 : e ≤ t.size) : ∀ (n d k : Nat) (a : List Int) (i : Int), d ≤ n → 0 ≤ i → i + d = t.size → d + 1 < k → a.length ≤ i →
    spec_l02Rdn.l1 k t e a i = some (t.extract 0 e.toNat, strOfNums (a ++ unesc ((bytesOf t).drop i.toNat)))
  | n, 0, k, a, i, hn, h0, hi, hk, ha => by
    obtain ⟨k, rfl⟩ : ∃ q, k = q + 1 := ⟨k - 1, by omega⟩
    rw [spec_l02Rdn.l1, if_neg (by omega), if_pos he0, if_pos he1, List.drop_of_length_le (by rw [bytesOf_length]; omega)]
    simp [unesc_nil, unesc_cons]
  | 0, d + 1, k, a, i, hn, h0, hi, hk, ha => by omega
  | n + 1, d + 1, k, a, i, hn, h0, hi, hk, ha => by
    obtain ⟨k, rfl⟩ : ∃ q, k = q + 1 := ⟨k - 1, by omega⟩
    rw [spec_l02Rdn.l1, if_pos (by omega), if_pos h0, w64 (x := i + 1) (by omega) (by omega), drop_bt t i h0 (by omega), unesc_cons]
    by_cases h92 : bt t i = 92
    · rw [if_pos h92, if_pos h92]
      by_cases hlt : i + 1 < (t.size : Int)
      · obtain ⟨d, rfl⟩ : ∃ q, d = q + 1 := ⟨d - 1, by omega⟩
        rw [if_pos hlt, if_pos (by omega), if_pos (by omega), w64 (x := i + 1 + 1) (by omega) (by omega), spec_l02Rdn_l1 t ht e he0 he1 n d k _ (i + 1 + 1) (by omega) (by omega) (by omega) (by omega) (by simp; omega), drop_bt t (i + 1) (by omega) hlt]
        simp
      · rw [if_neg hlt, if_pos (by omega), spec_l02Rdn_l1 t ht e he0 he1 n d k _ (i + 1) (by omega) (by omega) (by omega) (by omega) (by simp; omega), List.drop_of_length_le (l := bytesOf t) (i := (i + 1).toNat) (by rw [bytesOf_length]; omega)]
        simp [unesc_nil, unesc_cons]
    · rw [if_neg h92, if_neg h92, if_pos (by omega), spec_l02Rdn_l1 t ht e he0 he1 n d k _ (i + 1) (by omega) (by omega) (by omega) (by omega) (by simp; omega)]
      simp
theorem spec_l02Rdn_l0 (t : ByteArray) (ht : t.size ≤ 8000) : ∀ (d k : Nat) (i : Int), 0 ≤ i → i + d = t.size → 2 * d + 3 < k →
    spec_l02Rdn.l0 k t i = some (if (splitEq ((bytesOf t).drop i.toNat)).2.2 = true then (t.extract 0 (i.toNat + (splitEq ((bytesOf t).drop i.toNat)).1.length), strOfNums (unesc (splitEq ((bytesOf t).drop i.toNat)).2.1)) else ((⟨#[]⟩ : ByteArray), (⟨#[]⟩ : ByteArray)))
  | 0, k, i, h0, hi, hk => by
    obtain ⟨k, rfl⟩ : ∃ q, k = q + 2 := ⟨k - 2, by omega⟩
    rw [spec_l02Rdn.l0, if_neg (by omega), spec_l02Rdn.j1, if_pos (by omega), List.drop_of_length_le (by rw [bytesOf_length]; omega)]
    rfl
  | d + 1, k, i, h0, hi, hk => by
    obtain ⟨k, rfl⟩ : ∃ q, k = q + 2 := ⟨k - 2, by omega⟩
    rw [spec_l02Rdn.l0, if_pos (by omega), if_pos h0, drop_bt t i h0 (by omega)]
    by_cases h61 : bt t i = 61
    · have e : splitEq (bt t i :: (bytesOf t).drop (i + 1).toNat) = ([], (bytesOf t).drop (i + 1).toNat, true) := by rw [splitEq, if_pos h61]
      rw [if_pos h61, spec_l02Rdn.j1, if_neg (by omega), w64 (x := i + 1) (by omega) (by omega), spec_l02Rdn_l1 t ht i h0 (by omega) d d k [] (i + 1) (by omega) (by omega) (by omega) (by omega) (by simp; omega), e]
      simp
    · have e : splitEq (bt t i :: (bytesOf t).drop (i + 1).toNat) = (bt t i :: (splitEq ((bytesOf t).drop (i + 1).toNat)).1, (splitEq ((bytesOf t).drop (i + 1).toNat)).2.1, (splitEq ((bytesOf t).drop (i + 1).toNat)).2.2) := by rw [splitEq, if_neg h61]
      rw [if_neg h61, w64 (x := i + 1) (by omega) (by omega), spec_l02Rdn_l0 t ht d (k + 1) (i + 1) (by omega) (by omega) (by omega), e]
      simp only [List.length_cons]
      rw [show (i + 1).toNat + (splitEq ((bytesOf t).drop (i + 1).toNat)).1.length = i.toNat + ((splitEq ((bytesOf t).drop (i + 1).toNat)).1.length + 1) by omega]
theorem splitEq_take : ∀ (l : List Int), (splitEq l).2.2 = true → l.take (splitEq l).1.length = (splitEq l).1
  | [], h => by simp [splitEq] at h
  | c :: r, h => by
    simp only [splitEq] at h ⊢
    split
    · rfl
    · rename_i hc
      rw [if_neg hc] at h
      simp only [List.length_cons, List.take_succ_cons]
      rw [splitEq_take r h]
/-- What is read of an RDN's bytes. -/
def rdnP (l : List Int) : Rd := ⟨strOfNums (rdnL l).1, strOfNums (rdnL l).2⟩
theorem spec_l02Rdn_f (l : List Int) (hl : l.length ≤ 8000) (hr : ∀ x ∈ l, 0 ≤ x ∧ x ≤ 255) (k : Nat) (hk : 16010 < k) : spec_l02Rdn.f k (strOfNums l) = some ((rdnP l).f0, (rdnP l).f1) := by
  unfold spec_l02Rdn.f rdnP rdnL
  have hs : (strOfNums l).size = l.length := strOfNums_size l
  rw [spec_l02Rdn_l0 (strOfNums l) (by omega) l.length k 0 (by omega) (by omega) (by omega), show (0 : Int).toNat = 0 from rfl, List.drop_zero, bytesOf_son l hr, Nat.zero_add]
  split
  · rename_i h
    have := splitEq_take l h
    rw [ext_son, bytesOf_son l hr, List.drop_zero, Nat.sub_zero, this]
  · rfl
theorem cutL_range : ∀ (n : Nat) (l cur : List Int), l.length ≤ n → (∀ x ∈ l, 0 ≤ x ∧ x ≤ 255) → (∀ x ∈ cur, 0 ≤ x ∧ x ≤ 255) → ∀ y ∈ cutL l cur, ∀ x ∈ y, 0 ≤ x ∧ x ≤ 255
  | n, [], cur, h, hl, hc, y, hy => by simp [cutL_nil] at hy; rw [hy]; exact hc
  | 0, c :: r, cur, h, hl, hc, y, hy => by simp at h
  | n + 1, c :: r, cur, h, hl, hc, y, hy => by
    rw [cutL_cons] at hy
    simp only [List.length_cons] at h
    have hc0 := hl c (by simp)
    have hr : ∀ x ∈ r, 0 ≤ x ∧ x ≤ 255 := fun x hx => hl x (List.mem_cons_of_mem _ hx)
    split at hy
    · match r, h, hr, hy with
      | [], h, hr, hy =>
        simp only [List.mem_singleton] at hy
        rw [hy]
        intro x hx
        rcases List.mem_append.1 hx with e | e
        · exact hc x e
        · rw [List.mem_singleton.1 e]; exact hc0
      | d :: r', h, hr, hy =>
        refine cutL_range n r' _ (by simp at h; omega) (fun x hx => hr x (List.mem_cons_of_mem _ hx)) (fun x hx => ?_) y hy
        rcases List.mem_append.1 hx with e | e
        · exact hc x e
        · rcases List.mem_cons.1 e with e | e
          · rw [e]; exact hc0
          · rw [List.mem_singleton.1 e]; exact hr d (by simp)
    · split at hy
      · rcases List.mem_cons.1 hy with e | e
        · rw [e]; exact hc
        · exact cutL_range n r [] (by omega) hr (fun x hx => by cases hx) y e
      · refine cutL_range n r _ (by omega) hr (fun x hx => ?_) y hy
        rcases List.mem_append.1 hx with e | e
        · exact hc x e
        · rw [List.mem_singleton.1 e]; exact hc0
/-- What DnText gives, and "" where the DN isn't right. -/
def DnTextP (l : List Rd) : ByteArray := if DnP l = true then TextP l else ⟨#[]⟩
theorem spec_DnText_f (l : List Rd) (hl : l.length ≤ 10000) (k : Nat) (hk : 10200 ≤ k) : spec_DnText.f k l = some (DnTextP l) := by
  unfold spec_DnText.f DnTextP
  by_cases h4 : (l.length : Int) > 400
  · rw [if_pos h4, if_neg (fun h => by have := (DnP_mem h).1; omega)]
  · rw [if_neg h4, spec_DnRight_f _ (by omega) _ (by omega), Option.bind_some]
    by_cases h : DnP l = true
    · rw [if_pos h, if_pos h, spec_l02Text_f l h _ (by omega)]; rfl
    · rw [if_neg h, if_neg h]
/-- What the reference reads of a text, and whether that is right. -/
def readS (t : ByteArray) : List Rd := (cutL (bytesOf t) []).map rdnP
theorem spec_l02Read_l0 (t : ByteArray) (ht : t.size ≤ 8000) (ps : List (List Int)) (hp : ps.length ≤ 8001) (hs : ∀ x ∈ ps, x.length ≤ 8000) (hr : ∀ y ∈ ps, ∀ x ∈ y, 0 ≤ x ∧ x ≤ 255) : ∀ (d k : Nat) (a : List Rd) (i : Int), 0 ≤ i → i + d = ps.length → 20000 + d < k → a.length ≤ i →
    spec_l02Read.l0 k t a (ps.map strOfNums) i = some (a ++ (ps.drop i.toNat).map rdnP, (DnTextP (a ++ (ps.drop i.toNat).map rdnP)).toList == t.toList)
  | 0, k, a, i, h0, hi, hk, ha => by
    obtain ⟨k, rfl⟩ : ∃ q, k = q + 1 := ⟨k - 1, by omega⟩
    rw [spec_l02Read.l0, if_neg (by rw [List.length_map]; omega), List.drop_of_length_le (by omega), List.map_nil, List.append_nil, spec_DnText_f a (by omega) k (by omega)]
    rfl
  | d + 1, k, a, i, h0, hi, hk, ha => by
    obtain ⟨k, rfl⟩ : ∃ q, k = q + 1 := ⟨k - 1, by omega⟩
    have hil : i.toNat < ps.length := by omega
    have hm : ps[i.toNat] ∈ ps := List.getElem_mem hil
    have hrd : rdOf ByteArray.empty (ps.map strOfNums) i = strOfNums ps[i.toNat] := by
      unfold rdOf
      rw [List.getD_eq_getElem?_getD, List.getElem?_map, List.getElem?_eq_getElem hil]; rfl
    rw [spec_l02Read.l0, if_pos (by rw [List.length_map]; omega), if_pos h0, hrd, spec_l02Rdn_f _ (hs _ hm) (hr _ hm) k (by omega)]
    simp only [Option.bind_some]
    rw [if_pos (by omega), w64 (x := i + 1) (by omega) (by omega), spec_l02Read_l0 t ht ps hp hs hr d k _ (i + 1) (by omega) (by omega) (by omega) (by simp; omega), List.drop_eq_getElem_cons hil, show (i + 1).toNat = i.toNat + 1 by omega]
    simp only [List.map_cons, List.append_assoc, List.cons_append, List.nil_append]
theorem spec_l02Read_f (t : ByteArray) (ht : t.size ≤ 8000) (k : Nat) (hk : 30000 ≤ k) : spec_l02Read.f k t = some (if t.toList = [] then ([], true) else (readS t, (DnTextP (readS t)).toList == t.toList)) := by
  unfold spec_l02Read.f
  simp only [Option.bind_some]
  by_cases h : t.toList = []
  · rw [if_pos h, if_pos h]
  · have hb := bytesOf_length t
    unfold spec_l02Cut.f
    rw [if_neg h, if_neg h, spec_l02Cut_l0 t ht t.size k [] [] 0 (by omega) (by omega) (by omega) (by simp) (by simp), show (0 : Int).toNat = 0 from rfl, List.drop_zero, List.nil_append]
    simp only [Option.bind_some]
    have h1 := cutL_length (bytesOf t).length (bytesOf t) [] (by omega)
    rw [spec_l02Read_l0 t ht _ (by omega) (fun x hx => by have := cutL_sizes (bytesOf t).length (bytesOf t) [] (by omega) x hx; simp at this; omega)
      (cutL_range (bytesOf t).length (bytesOf t) [] (by omega) (fun x hx => by obtain ⟨b, _, rfl⟩ := List.mem_map.1 hx; have := b.toNat_lt; omega) (fun x hx => by cases hx)) (cutL (bytesOf t) []).length k [] 0 (by omega) (by omega) (by omega) (by simp)]
    rfl
/-! the program's reading -/
def scanL : List Int → List Rd → Bool → List Int → List Int → List Rd
  | [], acc, _, a, v => acc ++ [⟨strOfNums a, strOfNums v⟩]
  | c :: r, acc, inV, a, v =>
    if inV = true then
      (if c = 44 then scanL r (acc ++ [⟨strOfNums a, strOfNums v⟩]) false [] []
      else if c = 92 then (match r with
        | [] => acc ++ [⟨strOfNums a, strOfNums (v ++ [c])⟩]
        | d :: r' => scanL r' acc true a (v ++ [d]))
      else scanL r acc true a (v ++ [c]))
    else if c = 61 then scanL r acc true a v else scanL r acc false (a ++ [c]) v
theorem scanL_nil (acc : List Rd) (b : Bool) (a v : List Int) : scanL [] acc b a v = acc ++ [⟨strOfNums a, strOfNums v⟩] := by rw [scanL.eq_def]
theorem scanL_cons (c : Int) (r : List Int) (acc : List Rd) (inV : Bool) (a v : List Int) : scanL (c :: r) acc inV a v =
    if inV = true then
      (if c = 44 then scanL r (acc ++ [⟨strOfNums a, strOfNums v⟩]) false [] []
      else if c = 92 then (match r with
        | [] => acc ++ [⟨strOfNums a, strOfNums (v ++ [c])⟩]
        | d :: r' => scanL r' acc true a (v ++ [d]))
      else scanL r acc true a (v ++ [c]))
    else if c = 61 then scanL r acc true a v else scanL r acc false (a ++ [c]) v := by rw [scanL.eq_def]
def readI (t : ByteArray) : List Rd := scanL (bytesOf t) [] false [] []
theorem ext_one (t : ByteArray) (i : Int) (h0 : 0 ≤ i) (h1 : i < t.size) : t.extract i.toNat (i + 1).toNat = strOfNums [bt t i] := by
  rw [ext_son, drop_bt t i h0 h1, show (i + 1).toNat - i.toNat = 1 by omega]
  rfl
theorem impl_readDn_l0 (t : ByteArray) (ht : t.size ≤ 8000) : ∀ (d k : Nat) (acc : List Rd) (inV : Bool) (i : Int) (a v : List Int), 0 ≤ i → i + d = t.size → 10200 + 2 * d < k → acc.length ≤ i → a.length ≤ i → v.length ≤ i →
    impl_readDn.l0 k t acc inV i (strOfNums a) (strOfNums v) = some (scanL ((bytesOf t).drop i.toNat) acc inV a v, if DnP (scanL ((bytesOf t).drop i.toNat) acc inV a v) = true then (TextP (scanL ((bytesOf t).drop i.toNat) acc inV a v)).toList == t.toList else false)
  | 0, k, acc, inV, i, a, v, h0, hi, hk, h1, h2, h3 => by
    obtain ⟨k, rfl⟩ : ∃ q, k = q + 1 := ⟨k - 1, by omega⟩
    rw [impl_readDn.l0, if_neg (by omega), if_pos (by omega), List.drop_of_length_le (by rw [bytesOf_length]; omega)]
    simp only [Option.bind_some, scanL_nil]
    rw [impl_DnRight_f _ _ (by omega), Option.bind_some]
    by_cases h : DnP (acc ++ [(⟨strOfNums a, strOfNums v⟩ : Rd)]) = true
    · rw [if_pos h, if_pos h, impl_dnText_f _ h _ (by omega)]; rfl
    · rw [if_neg h, if_neg h]
  | d + 1, k, acc, inV, i, a, v, h0, hi, hk, h1, h2, h3 => by
    obtain ⟨k, rfl⟩ : ∃ q, k = q + 2 := ⟨k - 2, by omega⟩
    have ha := strOfNums_size a
    have hv := strOfNums_size v
    rw [impl_readDn.l0, if_pos (by omega), if_pos h0, drop_bt t i h0 (by omega)]
    cases inV with
    | false =>
      rw [if_neg (by simp)]
      by_cases h61 : bt t i = 61
      · rw [h61, show ((61 : Int) == 61) = true from rfl, impl_readDn.j1, if_pos rfl, w64 (x := i + 1) (by omega) (by omega), impl_readDn_l0 t ht d k acc true (i + 1) a v (by omega) (by omega) (by omega) (by omega) (by omega) (by omega)]
        have e : scanL (61 :: (bytesOf t).drop (i + 1).toNat) acc false a v = scanL ((bytesOf t).drop (i + 1).toNat) acc true a v := by rw [scanL_cons, if_neg (by simp), if_pos rfl]
        rw [e]
      · rw [beq_eq_false_iff_ne.2 h61, impl_readDn.j1, if_neg (by simp), if_neg (by simp)]
        simp only [Option.bind_some]
        rw [if_pos (by rw [strOfNums_size [bt t i]]; simp; omega), w64 (x := i + 1) (by omega) (by omega), ← son_append, impl_readDn_l0 t ht d k acc false (i + 1) (a ++ [bt t i]) v (by omega) (by omega) (by omega) (by omega) (by simp; omega) (by omega)]
        have e : scanL (bt t i :: (bytesOf t).drop (i + 1).toNat) acc false a v = scanL ((bytesOf t).drop (i + 1).toNat) acc false (a ++ [bt t i]) v := by rw [scanL_cons, if_neg (by simp), if_neg h61]
        rw [e]
    | true =>
      rw [if_pos rfl, impl_readDn.j1, if_neg (by simp), if_pos rfl]
      by_cases h44 : bt t i = 44
      · rw [if_pos h44, if_pos (by omega), w64 (x := i + 1) (by omega) (by omega)]
        have := impl_readDn_l0 t ht d k (acc ++ [⟨strOfNums a, strOfNums v⟩]) false (i + 1) [] [] (by omega) (by omega) (by omega) (by simp; omega) (by simp; omega) (by simp; omega)
        rw [show strOfNums [] = (⟨#[]⟩ : ByteArray) from rfl] at this
        rw [this]
        have e : scanL (bt t i :: (bytesOf t).drop (i + 1).toNat) acc true a v = scanL ((bytesOf t).drop (i + 1).toNat) (acc ++ [⟨strOfNums a, strOfNums v⟩]) false [] [] := by rw [scanL_cons, if_pos rfl, if_pos h44]
        rw [e]
      · rw [if_neg h44, w64 (x := i + 1) (by omega) (by omega)]
        by_cases h92 : bt t i = 92
        · rw [if_pos h92]
          by_cases hn : i + 1 < (t.size : Int)
          · obtain ⟨d, rfl⟩ : ∃ q, d = q + 1 := ⟨d - 1, by omega⟩
            rw [if_pos hn, w64 (x := i + 1 + 1) (by omega) (by omega), if_pos (by omega), if_pos (by omega), if_pos (by omega), ext_one t (i + 1) (by omega) hn, if_pos (by rw [strOfNums_size [bt t (i + 1)]]; simp; omega), ← son_append,
              impl_readDn_l0 t ht d k acc true (i + 1 + 1) a (v ++ [bt t (i + 1)]) (by omega) (by omega) (by omega) (by omega) (by omega) (by simp; omega)]
            have e : scanL (bt t i :: (bytesOf t).drop (i + 1).toNat) acc true a v = scanL ((bytesOf t).drop (i + 1 + 1).toNat) acc true a (v ++ [bt t (i + 1)]) := by
              rw [drop_bt t (i + 1) (by omega) hn, scanL_cons, if_pos rfl, if_neg h44, if_pos h92]
            rw [e]
          · rw [if_neg hn, if_pos h0, if_pos (by omega), if_pos (by omega), ext_one t i h0 (by omega), if_pos (by rw [strOfNums_size [bt t i]]; simp; omega), ← son_append,
              impl_readDn_l0 t ht d k acc true (i + 1) a (v ++ [bt t i]) (by omega) (by omega) (by omega) (by omega) (by omega) (by simp; omega)]
            have e : scanL (bt t i :: (bytesOf t).drop (i + 1).toNat) acc true a v = scanL ((bytesOf t).drop (i + 1).toNat) acc true a (v ++ [bt t i]) := by
              rw [List.drop_of_length_le (l := bytesOf t) (i := (i + 1).toNat) (by rw [bytesOf_length]; omega), scanL_cons, if_pos rfl, if_neg h44, if_pos h92, scanL_nil]
            rw [e]
        · rw [if_neg h92, if_pos h0, if_pos (by omega), if_pos (by omega), ext_one t i h0 (by omega), if_pos (by rw [strOfNums_size [bt t i]]; simp; omega), ← son_append,
            impl_readDn_l0 t ht d k acc true (i + 1) a (v ++ [bt t i]) (by omega) (by omega) (by omega) (by omega) (by omega) (by simp; omega)]
          have e : scanL (bt t i :: (bytesOf t).drop (i + 1).toNat) acc true a v = scanL ((bytesOf t).drop (i + 1).toNat) acc true a (v ++ [bt t i]) := by rw [scanL_cons, if_pos rfl, if_neg h44, if_neg h92]
          rw [e]
theorem impl_readDn_f (t : ByteArray) (ht : t.size ≤ 8000) (k : Nat) (hk : 30000 ≤ k) : impl_readDn.f k t = some (if t.toList = [] then ([], true) else (readI t, if DnP (readI t) = true then (TextP (readI t)).toList == t.toList else false)) := by
  unfold impl_readDn.f
  simp only [Option.bind_some]
  by_cases h : t.toList = []
  · rw [if_pos h, if_pos h]
  · rw [if_neg h, if_neg h]
    have := impl_readDn_l0 t ht t.size k [] false 0 [] [] (by omega) (by omega) (by omega) (by simp) (by simp) (by simp)
    rw [show strOfNums [] = (⟨#[]⟩ : ByteArray) from rfl, show (0 : Int).toNat = 0 from rfl, List.drop_zero] at this
    exact this
/-! there and back -/
theorem nch_plain {c : Int} (h : nch c = true) : c ≠ 44 ∧ c ≠ 61 ∧ c ≠ 92 := by
  unfold nch lowc at h
  simp only [Bool.or_eq_true, Bool.and_eq_true, decide_eq_true_eq] at h
  omega
theorem NameP_bytes {s : ByteArray} (h : NameP s = true) : ∀ c ∈ bytesOf s, nch c = true := by
  unfold NameP at h
  simp only [Bool.and_eq_true, List.all_eq_true] at h
  exact h.2
theorem oddP_not {s : ByteArray} {i : Int} (h : oddP s i = false) : bt s i ≠ 44 ∧ bt s i ≠ 92 := by
  unfold oddP at h
  simp only [Bool.or_eq_false_iff, decide_eq_false_iff_not] at h
  exact ⟨h.1.1.1.1.1.1.1.1, h.1.1.1.1.1.2⟩
theorem cutL_name : ∀ (l cur rest : List Int), (∀ c ∈ l, nch c = true) → cutL (l ++ rest) cur = cutL rest (cur ++ l)
  | [], cur, rest, h => by simp
  | c :: l, cur, rest, h => by
    have hc := nch_plain (h c (by simp))
    rw [List.cons_append, cutL_cons, if_neg hc.2.2, if_neg hc.1, cutL_name l _ rest (fun x hx => h x (List.mem_cons_of_mem _ hx))]
    simp
theorem cutL_esc (s : ByteArray) : ∀ (d : Nat) (i : Int) (cur rest : List Int), cutL (escF s d i ++ rest) cur = cutL rest (cur ++ escF s d i)
  | 0, i, cur, rest => by simp [escF]
  | d + 1, i, cur, rest => by
    simp only [escF]
    cases ho : oddP s i with
    | true =>
      rw [if_pos rfl]
      simp only [List.cons_append, List.nil_append]
      rw [cutL_cons, if_pos rfl]
      show cutL (escF s d (i + 1) ++ rest) (cur ++ [92, bt s i]) = _
      rw [cutL_esc s d (i + 1)]
      simp
    | false =>
      obtain ⟨h44, h92⟩ := oddP_not ho
      rw [if_neg (by simp)]
      simp only [List.cons_append, List.nil_append]
      rw [cutL_cons, if_neg h92, if_neg h44, cutL_esc s d (i + 1)]
      simp
/-- The bytes of an RDN's text. -/
def rdnB (x : Rd) : List Int := bytesOf x.f0 ++ ([61] ++ escB x.f1)
theorem cutL_text : ∀ (l : List Rd) (cur : List Int), (∀ x ∈ l, RdnP x = true) → cutL (textB true l) cur = cur :: l.map rdnB
  | [], cur, h => by simp [textB, cutL_nil]
  | x :: xs, cur, h => by
    have hx := h x (by simp)
    unfold RdnP at hx
    simp only [Bool.and_eq_true] at hx
    simp only [textB]
    rw [if_pos trivial, List.cons_append, List.nil_append, cutL_cons, if_neg (by decide), if_pos rfl, cutL_name _ _ _ (NameP_bytes hx.1), List.nil_append]
    rw [List.cons_append, List.nil_append, cutL_cons, if_neg (by decide), if_neg (by decide)]
    show cur :: cutL (escF x.f1 x.f1.size 0 ++ textB true xs) _ = _
    rw [cutL_esc, cutL_text xs _ (fun y hy => h y (List.mem_cons_of_mem _ hy))]
    simp [rdnB, escB]
theorem cutL_text0 (x : Rd) (xs : List Rd) (h : ∀ y ∈ x :: xs, RdnP y = true) : cutL (textB false (x :: xs)) [] = (x :: xs).map rdnB := by
  have hx := h x (by simp)
  unfold RdnP at hx
  simp only [Bool.and_eq_true] at hx
  simp only [textB]
  rw [if_neg (by simp), List.nil_append, cutL_name _ _ _ (NameP_bytes hx.1), List.nil_append, List.cons_append, List.nil_append, cutL_cons, if_neg (by decide), if_neg (by decide)]
  show cutL (escF x.f1 x.f1.size 0 ++ textB true xs) _ = _
  rw [cutL_esc, cutL_text xs _ (fun y hy => h y (List.mem_cons_of_mem _ hy))]
  simp [rdnB, escB]
theorem unesc_esc (s : ByteArray) : ∀ (d : Nat) (i : Int), 0 ≤ i → i + d = s.size → unesc (escF s d i) = (bytesOf s).drop i.toNat
  | 0, i, h0, hi => by
    rw [List.drop_of_length_le (by rw [bytesOf_length]; omega)]
    simp [escF, unesc_nil]
  | d + 1, i, h0, hi => by
    simp only [escF]
    rw [drop_bt s i h0 (by omega)]
    cases ho : oddP s i with
    | true =>
      rw [if_pos rfl]
      simp only [List.cons_append, List.nil_append]
      rw [unesc_cons, if_pos rfl]
      show bt s i :: unesc (escF s d (i + 1)) = _
      rw [unesc_esc s d (i + 1) (by omega) (by omega)]
    | false =>
      obtain ⟨h44, h92⟩ := oddP_not ho
      rw [if_neg (by simp)]
      simp only [List.cons_append, List.nil_append]
      rw [unesc_cons, if_neg h92, unesc_esc s d (i + 1) (by omega) (by omega)]
theorem splitEq_name : ∀ (l rest : List Int), (∀ c ∈ l, nch c = true) → splitEq (l ++ 61 :: rest) = (l, rest, true)
  | [], rest, h => by simp [splitEq]
  | c :: l, rest, h => by
    have hc := nch_plain (h c (by simp))
    rw [List.cons_append, splitEq, if_neg hc.2.1, splitEq_name l rest (fun x hx => h x (List.mem_cons_of_mem _ hx))]
theorem rdnP_rdnB (x : Rd) (h : RdnP x = true) : rdnP (rdnB x) = x := by
  unfold RdnP at h
  simp only [Bool.and_eq_true] at h
  unfold rdnP rdnL rdnB
  rw [List.cons_append, List.nil_append, splitEq_name _ _ (NameP_bytes h.1)]
  rw [if_pos rfl]
  show (⟨strOfNums (bytesOf x.f0), strOfNums (unesc (escF x.f1 x.f1.size 0))⟩ : Rd) = x
  rw [unesc_esc x.f1 x.f1.size 0 (by omega) (by omega), show (0 : Int).toNat = 0 from rfl, List.drop_zero, son_bytesOf, son_bytesOf]
theorem textB_range : ∀ (l : List Rd) (b : Bool), ∀ x ∈ textB b l, 0 ≤ x ∧ x ≤ 255
  | [], b, x, h => by simp [textB] at h
  | y :: ys, b, x, h => by
    simp only [textB, List.mem_append] at h
    rcases h with h | h | h | h | h
    · split at h <;> simp at h
      omega
    · obtain ⟨c, _, rfl⟩ := List.mem_map.1 h
      have := c.toNat_lt; omega
    · simp at h; omega
    · exact escF_range _ _ _ x h
    · exact textB_range ys true x h
theorem bytesOf_TextP (l : List Rd) : bytesOf (TextP l) = textB false l := bytesOf_son _ (textB_range l false)
theorem readS_TextP (l : List Rd) (h : DnP l = true) (hn : l ≠ []) : readS (TextP l) = l := by
  unfold readS
  rw [bytesOf_TextP]
  match l, hn, h with
  | x :: xs, _, h =>
    have hr := (DnP_mem h).2
    rw [cutL_text0 x xs hr, List.map_map]
    have : ∀ l : List Rd, (∀ y ∈ l, RdnP y = true) → l.map (rdnP ∘ rdnB) = l := by
      intro l hl
      induction l with
      | nil => rfl
      | cons y ys ih =>
        rw [List.map_cons, ih (fun z hz => hl z (List.mem_cons_of_mem _ hz))]
        show rdnP (rdnB y) :: ys = _
        rw [rdnP_rdnB y (hl y (by simp))]
    exact this _ hr
theorem scanL_name : ∀ (l rest : List Int) (acc : List Rd) (a v : List Int), (∀ c ∈ l, nch c = true) → scanL (l ++ rest) acc false a v = scanL rest acc false (a ++ l) v
  | [], rest, acc, a, v, h => by simp
  | c :: l, rest, acc, a, v, h => by
    have hc := nch_plain (h c (by simp))
    rw [List.cons_append, scanL_cons, if_neg (by simp), if_neg hc.2.1, scanL_name l rest acc _ v (fun x hx => h x (List.mem_cons_of_mem _ hx))]
    simp
theorem scanL_esc (s : ByteArray) : ∀ (d : Nat) (i : Int) (rest : List Int) (acc : List Rd) (a v : List Int), 0 ≤ i → i + d = s.size → scanL (escF s d i ++ rest) acc true a v = scanL rest acc true a (v ++ (bytesOf s).drop i.toNat)
  | 0, i, rest, acc, a, v, h0, hi => by
    rw [List.drop_of_length_le (by rw [bytesOf_length]; omega)]
    simp [escF]
  | d + 1, i, rest, acc, a, v, h0, hi => by
    simp only [escF]
    rw [drop_bt s i h0 (by omega)]
    cases ho : oddP s i with
    | true =>
      rw [if_pos rfl]
      simp only [List.cons_append, List.nil_append]
      rw [scanL_cons, if_pos rfl, if_neg (by decide), if_pos rfl]
      show scanL (escF s d (i + 1) ++ rest) acc true a (v ++ [bt s i]) = _
      rw [scanL_esc s d (i + 1) rest acc a _ (by omega) (by omega)]
      simp
    | false =>
      obtain ⟨h44, h92⟩ := oddP_not ho
      rw [if_neg (by simp)]
      simp only [List.cons_append, List.nil_append]
      rw [scanL_cons, if_pos rfl, if_neg h44, if_neg h92, scanL_esc s d (i + 1) rest acc a _ (by omega) (by omega)]
      simp
theorem scanL_one (x : Rd) (h : RdnP x = true) (rest : List Int) (acc : List Rd) : scanL (bytesOf x.f0 ++ ([61] ++ (escB x.f1 ++ rest))) acc false [] [] = scanL rest acc true (bytesOf x.f0) (bytesOf x.f1) := by
  unfold RdnP at h
  simp only [Bool.and_eq_true] at h
  rw [scanL_name _ _ _ _ _ (NameP_bytes h.1), List.nil_append, List.cons_append, List.nil_append, scanL_cons, if_neg (by simp), if_pos rfl]
  show scanL (escF x.f1 x.f1.size 0 ++ rest) acc true _ _ = _
  rw [scanL_esc x.f1 x.f1.size 0 rest acc _ _ (by omega) (by omega)]
  simp
theorem scanL_text : ∀ (l : List Rd) (x : Rd) (acc : List Rd), (∀ y ∈ l, RdnP y = true) → scanL (textB true l) acc true (bytesOf x.f0) (bytesOf x.f1) = acc ++ x :: l
  | [], x, acc, h => by
    simp only [textB, scanL_nil]
    rw [son_bytesOf, son_bytesOf]
  | y :: ys, x, acc, h => by
    simp only [textB]
    rw [if_pos trivial, List.cons_append, List.nil_append, scanL_cons, if_pos rfl, if_pos rfl, son_bytesOf, son_bytesOf, scanL_one y (h y (by simp)), scanL_text ys y _ (fun z hz => h z (List.mem_cons_of_mem _ hz))]
    simp
theorem readI_TextP (l : List Rd) (h : DnP l = true) (hn : l ≠ []) : readI (TextP l) = l := by
  unfold readI
  rw [bytesOf_TextP]
  match l, hn, h with
  | x :: xs, _, h =>
    have hr := (DnP_mem h).2
    simp only [textB]
    rw [if_neg (by simp), List.nil_append, scanL_one x (hr x (by simp)), scanL_text xs x [] (fun z hz => hr z (List.mem_cons_of_mem _ hz))]
    rfl
/-- What DnRead gives of a text. -/
def ReadP (t : ByteArray) : List Rd × Int := if t.size > 8000 then ([], 2) else if t.toList = [] then ([], 0) else if DnP (readS t) = true ∧ (TextP (readS t)).toList = t.toList then (readS t, 0) else ([], 3)

/-! DnRead: both give the same -/
theorem ba_nil_toList : (⟨#[]⟩ : ByteArray).toList = [] := by rw [Go.Lib.toList_data]
theorem TextP_nil : TextP [] = (⟨#[]⟩ : ByteArray) := rfl
theorem readI_nil_ne {t : ByteArray} (h : t.toList ≠ []) {l : List Rd} (e : (TextP l).toList = t.toList) : l ≠ [] := by
  rintro rfl
  apply h
  rw [← e, TextP_nil, ba_nil_toList]
theorem read_both {t : ByteArray} (h : t.toList ≠ []) : (DnP (readI t) = true ∧ (TextP (readI t)).toList = t.toList) ↔ (DnP (readS t) = true ∧ (TextP (readS t)).toList = t.toList) := by
  constructor
  · rintro ⟨h1, h2⟩
    have e : readS t = readI t := by
      conv => lhs; rw [← ba_inj.1 h2]
      exact readS_TextP _ h1 (readI_nil_ne h h2)
    rw [e]; exact ⟨h1, h2⟩
  · rintro ⟨h1, h2⟩
    have e : readI t = readS t := by
      conv => lhs; rw [← ba_inj.1 h2]
      exact readI_TextP _ h1 (readI_nil_ne h h2)
    rw [e]; exact ⟨h1, h2⟩
theorem read_same {t : ByteArray} (h : t.toList ≠ []) (h1 : DnP (readS t) = true) (h2 : (TextP (readS t)).toList = t.toList) : readI t = readS t := by
  conv => lhs; rw [← ba_inj.1 h2]
  exact readI_TextP _ h1 (readI_nil_ne h h2)
theorem spec_DnRead_f (t : ByteArray) (k : Nat) (hk : 30000 ≤ k) : spec_DnRead.f k t = some (ReadP t) := by
  unfold spec_DnRead.f ReadP
  by_cases h8 : t.size > 8000
  · rw [if_pos (by omega), if_pos h8]
  · rw [if_neg (by omega), if_neg h8, spec_l02Read_f t (by omega) k hk, Option.bind_some]
    by_cases h : t.toList = []
    · rw [if_pos h, if_pos h]; rfl
    · rw [if_neg h, if_neg h]
      have hn : ((⟨#[]⟩ : ByteArray).toList == t.toList) = false := by
        rw [beq_eq_false_iff_ne, ba_nil_toList]
        exact Ne.symm h
      unfold DnTextP
      by_cases h1 : DnP (readS t) = true
      · by_cases h2 : (TextP (readS t)).toList = t.toList
        · rw [if_pos h1, if_pos (show DnP (readS t) = true ∧ (TextP (readS t)).toList = t.toList from ⟨h1, h2⟩)]
          simp only [h2, beq_self_eq_true, if_true]
        · rw [if_pos h1, if_neg (show ¬ (DnP (readS t) = true ∧ (TextP (readS t)).toList = t.toList) from fun hh => h2 hh.2)]
          simp only [beq_eq_false_iff_ne.2 h2]
          rfl
      · rw [if_neg h1, if_neg (show ¬ (DnP (readS t) = true ∧ (TextP (readS t)).toList = t.toList) from fun hh => h1 hh.1)]
        simp only [hn]
        rfl
theorem impl_DnRead_f (t : ByteArray) (k : Nat) (hk : 30000 ≤ k) : impl_DnRead.f k t = some (ReadP t) := by
  unfold impl_DnRead.f ReadP
  rw [impl_isLong_f _ (by simp) k (by simp; omega), Option.bind_some]
  by_cases h8 : t.size > 8000
  · rw [if_pos (by simp; omega), if_pos h8]
  · rw [if_neg (by simp; omega), if_neg h8, impl_readDn_f t (by omega) k hk, Option.bind_some]
    by_cases h : t.toList = []
    · rw [if_pos h, if_pos h]; rfl
    · rw [if_neg h, if_neg h]
      by_cases h3 : DnP (readS t) = true ∧ (TextP (readS t)).toList = t.toList
      · have h4 := (read_both h).2 h3
        rw [if_pos h3, if_pos h4.1]
        simp only [h4.2, beq_self_eq_true, if_true]
        rw [read_same h h3.1 h3.2]
      · rw [if_neg h3]
        by_cases h5 : DnP (readI t) = true
        · rw [if_pos h5]
          simp only [beq_eq_false_iff_ne.2 (fun e => h3 ((read_both h).1 ⟨h5, e⟩))]
          rfl
        · rw [if_neg h5]; rfl
theorem ReadP_len (t : ByteArray) : (ReadP t).1.length ≤ 6 := by
  unfold ReadP
  split
  · simp
  · split
    · simp
    · split
      · rename_i h; exact (DnP_mem h.1).1
      · simp

/-! the draws -/
def SrcOK (b : List Int) (a m : Int) : Prop := b.length ≤ 140737488351232 ∧ (∀ x ∈ b, 0 ≤ x ∧ x ≤ 255) ∧ 0 ≤ a ∧ a ≤ b.length ∧ 0 ≤ m ∧ m < 18446744073709551616
theorem u64_bits_range (op : BinOp) (x y : Int) : 0 ≤ Go.bits op .u64 x y ∧ Go.bits op .u64 x y < 18446744073709551616 := by
  unfold Go.bits
  rw [IntKind.wrap_u64]
  omega
theorem wf_u8 {n : Int} (h : (Lit.int .u8 n).wf = true) : 0 ≤ n ∧ n ≤ 255 := by
  simpa [Lit.wf, IntKind.min, IntKind.max, IntKind.bits, IntKind.signed] using h
theorem draw_n (b : List Int) (a m z most : Int) (h : SrcOK b a m) (h1 : most ≤ 9223372036854775807) :
    ∃ r a' m', spec_l01Src_n.f b a m z most = some (r, a', m', z) ∧ 0 ≤ r ∧ (1 ≤ most → r < most) ∧ SrcOK b a' m' := by
  obtain ⟨hb, hr, ha0, ha1, hm0, hm1⟩ := h
  unfold spec_l01Src_n.f
  by_cases hm : most ≤ 1
  · rw [if_pos hm]
    exact ⟨0, a, m, rfl, by omega, by omega, hb, hr, ha0, ha1, hm0, hm1⟩
  · rw [if_neg hm]
    have hw : IntKind.u64.wrap most = most := u64w (by omega) (by omega)
    have fin : ∀ X : Int, 0 ≤ X → wrap64 (Int.tmod X most) = X % most ∧ 0 ≤ X % most ∧ X % most < most := by
      intro X hX
      have h3 : 0 ≤ X % most := Int.emod_nonneg _ (by omega)
      have h4 : X % most < most := Int.emod_lt_of_pos _ (by omega)
      rw [Int.tmod_eq_emod_of_nonneg hX]
      exact ⟨w64 (by omega) (by omega), h3, h4⟩
    have uw : ∀ x : Int, 0 ≤ IntKind.u64.wrap x := fun x => by rw [IntKind.wrap_u64]; omega
    generalize hM : Go.bits .xor .u64 (Go.bits .xor .u64 (Go.bits .xor .u64 m (IntKind.u64.wrap (m * 8192))) ((Go.bits .xor .u64 m (IntKind.u64.wrap (m * 8192))) / 128)) (IntKind.u64.wrap ((Go.bits .xor .u64 (Go.bits .xor .u64 m (IntKind.u64.wrap (m * 8192))) ((Go.bits .xor .u64 m (IntKind.u64.wrap (m * 8192))) / 128)) * 131072)) = M
    have hMr : 0 ≤ M ∧ M < 18446744073709551616 := by rw [← hM]; exact u64_bits_range _ _ _
    rw [hw, if_neg (show ¬ most = 0 by omega), if_neg (show ¬ most = 0 by omega)]
    by_cases hl : a < (b.length : Int)
    · rw [if_pos hl, if_pos ha0, w64 (x := a + 1) (by omega) (by omega)]
      obtain ⟨e, e0, e1⟩ := fin (IntKind.u64.wrap (IntKind.u64.wrap (rd b a) + M / 1048576)) (uw _)
      rw [e]
      exact ⟨_, _, _, rfl, e0, fun _ => e1, hb, hr, by omega, by omega, hMr.1, hMr.2⟩
    · rw [if_neg hl]
      obtain ⟨e, e0, e1⟩ := fin (IntKind.u64.wrap (0 + M / 1048576)) (uw _)
      rw [e]
      exact ⟨_, _, _, rfl, e0, fun _ => e1, hb, hr, ha0, ha1, hMr.1, hMr.2⟩
theorem draw_source_l0 (l : List Int) : ∀ (d k : Nat) (i m : Int), 0 ≤ i → i + d = 64 → d < k → 0 ≤ m → m < 18446744073709551616 →
    ∃ m' z', spec_l01Source.l0 k l i l 0 m 0 = some (l, 0, m', z') ∧ 0 ≤ m' ∧ m' < 18446744073709551616
  | d, k, i, m, h0, hd, hk, hm0, hm1 => by
    obtain ⟨k, rfl⟩ : ∃ q, k = q + 1 := ⟨k - 1, by omega⟩
    rw [spec_l01Source.l0]
    have fin : ∀ X : Int, ∃ m' z', (if X > 12 then some (l, (0 : Int), m, (12 : Int)) else some (l, (0 : Int), m, X)) = some (l, 0, m', z') ∧ 0 ≤ m' ∧ m' < 18446744073709551616 := by
      intro X
      split
      · exact ⟨m, _, rfl, hm0, hm1⟩
      · exact ⟨m, _, rfl, hm0, hm1⟩
    by_cases hl : i < (l.length : Int)
    · rw [if_pos hl]
      by_cases h64 : i < 64
      · rw [if_pos h64, if_pos h0, w64 (x := i + 1) (by omega) (by omega)]
        cases d with
        | zero => omega
        | succ d =>
          have hr : ∀ x : Int, 0 ≤ IntKind.u64.wrap x ∧ IntKind.u64.wrap x < 18446744073709551616 := fun x => by rw [IntKind.wrap_u64]; omega
          exact draw_source_l0 l d k (i + 1) _ (by omega) (by omega) (by omega) (hr _).1 (hr _).2
      · rw [if_neg h64]; exact fin _
    · rw [if_neg hl]; exact fin _
theorem draw_source (l : List Int) (hl : l.length ≤ 140737488351232) (hr : ∀ x ∈ l, 0 ≤ x ∧ x ≤ 255) (k : Nat) (hk : 65 ≤ k) :
    ∃ m z, spec_l01Source.f k l = some (l, 0, m, z) ∧ SrcOK l 0 m := by
  obtain ⟨m, z, e, h0, h1⟩ := draw_source_l0 l 64 k 0 88172645463325252 (by omega) (by omega) (by omega) (by omega) (by omega)
  exact ⟨m, z, e, hl, hr, by omega, by omega, h0, h1⟩
theorem draw_one (b : List Int) (a m z most : Int) (h : SrcOK b a m) (h1 : most ≤ 9223372036854775807) :
    ∃ r a' m', spec_l01Src_one.f b a m z most = some (r, a', m', z) ∧ SrcOK b a' m' := by
  obtain ⟨r, a', m', e, _, _, h'⟩ := draw_n b a m z most h h1
  unfold spec_l01Src_one.f
  rw [e]
  exact ⟨_, _, _, rfl, h'⟩

theorem draw_pick (b : List Int) (a m z : Int) (l : List ByteArray) (h : SrcOK b a m) (h0 : 0 < l.length) (h1 : l.length ≤ 1000) :
    ∃ v a' m', spec_l01Src_pick.f b a m z l = some (v, a', m', z) ∧ v ∈ l ∧ SrcOK b a' m' := by
  obtain ⟨r, a', m', e, r0, r1, h'⟩ := draw_n b a m z (l.length : Int) h (by omega)
  unfold spec_l01Src_pick.f
  rw [e]
  simp only [Option.bind_some]
  have := r1 (by omega)
  rw [if_pos r0, if_pos this]
  refine ⟨_, _, _, rfl, ?_, h'⟩
  unfold rdOf
  rw [List.getD_eq_getElem?_getD, List.getElem?_eq_getElem (by omega)]
  exact List.getElem_mem _

/-! drawn DNs -/
def smallRd (y : Rd) : Prop := y.f0.size ≤ 100 ∧ y.f1.size ≤ 100
theorem draw_l02Rdn (b : List Int) (a m z : Int) (h : SrcOK b a m) : ∃ u v a' m', spec_l01Src_l02Rdn.f b a m z = some (u, v, a', m', z) ∧ u.size ≤ 100 ∧ v.size ≤ 100 ∧ SrcOK b a' m' := by
  unfold spec_l01Src_l02Rdn.f
  obtain ⟨u, a1, m1, e1, hu, h1⟩ := draw_pick b a m z [(⟨#[99, 110]⟩ : ByteArray), (⟨#[111, 117]⟩ : ByteArray), (⟨#[100, 99]⟩ : ByteArray)] h (by decide) (by decide)
  rw [e1, Option.bind_some]
  obtain ⟨v, a2, m2, e2, hv, h2⟩ := draw_pick b a1 m1 z [(⟨#[97, 110, 110]⟩ : ByteArray), (⟨#[65, 110, 110]⟩ : ByteArray), (⟨#[98, 111, 98, 32, 32, 98]⟩ : ByteArray), (⟨#[120]⟩ : ByteArray), (⟨#[97, 44, 98]⟩ : ByteArray), (⟨#[35, 49]⟩ : ByteArray), (⟨#[32, 121, 32]⟩ : ByteArray), (⟨#[61]⟩ : ByteArray), (⟨#[92]⟩ : ByteArray)] h1 (by decide) (by decide)
  simp only []
  rw [e2, Option.bind_some]
  obtain ⟨o, a3, m3, e3, h3⟩ := draw_one b a2 m2 z 30 h2 (by omega)
  simp only []
  rw [e3, Option.bind_some]
  simp only []
  cases o with
  | false =>
    rw [if_neg (by simp)]
    refine ⟨u, v, a3, m3, rfl, ?_, ?_, h3⟩
    · simp only [List.mem_cons, List.not_mem_nil, or_false] at hu
      rcases hu with rfl | rfl | rfl <;> decide
    · simp only [List.mem_cons, List.not_mem_nil, or_false] at hv
      rcases hv with rfl | rfl | rfl | rfl | rfl | rfl | rfl | rfl | rfl <;> decide
  | true =>
    rw [if_pos rfl]
    obtain ⟨u2, a4, m4, e4, hu2, h4⟩ := draw_pick b a3 m3 z [(⟨#[99, 110]⟩ : ByteArray), (⟨#[65]⟩ : ByteArray), (⟨#[]⟩ : ByteArray)] h3 (by decide) (by decide)
    rw [e4, Option.bind_some, if_pos (by decide)]
    obtain ⟨v2, a5, m5, e5, hv2, h5⟩ := draw_pick b a4 m4 z [(⟨#[]⟩ : ByteArray), (⟨#[32]⟩ : ByteArray), (⟨#[10]⟩ : ByteArray), strOfNums (List.replicate 41 0)] h4 (by decide) (by decide)
    simp only []
    rw [e5, Option.bind_some]
    refine ⟨u2, v2, a5, m5, rfl, ?_, ?_, h5⟩
    · simp only [List.mem_cons, List.not_mem_nil, or_false] at hu2
      rcases hu2 with rfl | rfl | rfl <;> decide
    · simp only [List.mem_cons, List.not_mem_nil, or_false] at hv2
      rcases hv2 with rfl | rfl | rfl | rfl
      · decide
      · decide
      · decide
      · rw [strOfNums_size, List.length_replicate]; decide
theorem draw_l02Dn_l1 (b : List Int) (z : Int) : ∀ (d k : Nat) (x : List Rd) (a m : Int), x.length + d = 7 → d < k → (∀ y ∈ x, smallRd y) → SrcOK b a m →
    ∃ x' a' m', spec_l01Src_l02Dn.l1 k x b a m z = some (x', a', m', z) ∧ x'.length ≤ 7 ∧ (∀ y ∈ x', smallRd y) ∧ SrcOK b a' m'
  | d, k, x, a, m, hd, hk, hx, h => by
    obtain ⟨k, rfl⟩ : ∃ q, k = q + 1 := ⟨k - 1, by omega⟩
    obtain ⟨r, a1, m1, e1, r0, r1, h1⟩ := draw_n b a m z 3 h (by omega)
    rw [spec_l01Src_l02Dn.l1, e1, Option.bind_some]
    have hr := r1 (by omega)
    simp only []
    rw [w64 (x := 5 + r) (by omega) (by omega)]
    by_cases hc : (x.length : Int) < 5 + r
    · rw [if_pos hc, if_pos (by omega)]
      cases d with
      | zero => omega
      | succ d =>
        exact draw_l02Dn_l1 b z d k _ a1 m1 (by simp; omega) (by omega) (fun y hy => by
          rcases List.mem_append.1 hy with e | e
          · exact hx y e
          · rw [List.mem_singleton.1 e]; exact ⟨by decide, by decide⟩) h1
    · rw [if_neg hc]
      exact ⟨x, a1, m1, rfl, by omega, hx, h1⟩
theorem draw_l02Dn_l0 (b : List Int) (z : Int) : ∀ (d k : Nat) (x : List Rd) (a m : Int), x.length + d ≤ 7 → d + 9 < k → (∀ y ∈ x, smallRd y) → SrcOK b a m →
    ∃ x' a' m', spec_l01Src_l02Dn.l0 k x (d : Int) b a m z = some (x', a', m', z) ∧ x'.length ≤ 7 ∧ (∀ y ∈ x', smallRd y) ∧ SrcOK b a' m'
  | 0, k, x, a, m, hd, hk, hx, h => by
    obtain ⟨k, rfl⟩ : ∃ q, k = q + 1 := ⟨k - 1, by omega⟩
    obtain ⟨o, a1, m1, e1, h1⟩ := draw_one b a m z 30 h (by omega)
    rw [spec_l01Src_l02Dn.l0, if_neg (by omega), e1, Option.bind_some]
    simp only []
    cases o with
    | false => rw [if_neg (by simp)]; exact ⟨x, a1, m1, rfl, by omega, hx, h1⟩
    | true => rw [if_pos rfl]; exact draw_l02Dn_l1 b z (7 - x.length) k x a1 m1 (by omega) (by omega) hx h1
  | d + 1, k, x, a, m, hd, hk, hx, h => by
    obtain ⟨k, rfl⟩ : ∃ q, k = q + 1 := ⟨k - 1, by omega⟩
    obtain ⟨u, v, a1, m1, e1, hu, hv, h1⟩ := draw_l02Rdn b a m z h
    rw [spec_l01Src_l02Dn.l0, if_pos (by omega), e1, Option.bind_some, if_pos (by omega)]
    simp only []
    rw [w64 (x := ((d + 1 : Nat) : Int) - 1) (by omega) (by omega), show ((d + 1 : Nat) : Int) - 1 = (d : Int) by omega]
    exact draw_l02Dn_l0 b z d k _ a1 m1 (by simp; omega) (by omega) (fun y hy => by
      rcases List.mem_append.1 hy with e | e
      · exact hx y e
      · rw [List.mem_singleton.1 e]; exact ⟨hu, hv⟩) h1
theorem draw_l02Dn (b : List Int) (a m z : Int) (h : SrcOK b a m) (k : Nat) (hk : 20 ≤ k) :
    ∃ x a' m', spec_l01Src_l02Dn.f k b a m z = some (x, a', m', z) ∧ x.length ≤ 7 ∧ (∀ y ∈ x, smallRd y) ∧ SrcOK b a' m' := by
  obtain ⟨r, a1, m1, e1, r0, r1, h1⟩ := draw_n b a m z 4 h (by omega)
  have hr := r1 (by omega)
  unfold spec_l01Src_l02Dn.f
  rw [e1, Option.bind_some]
  simp only []
  obtain ⟨x, a2, m2, e2, hx, hs, h2⟩ := draw_l02Dn_l0 b z r.toNat k [] a1 m1 (by simp; omega) (by omega) (fun y hy => by cases hy) h1
  rw [show ((r.toNat : Nat) : Int) = r by omega] at e2
  exact ⟨x, a2, m2, e2, hx, hs, h2⟩

/-! lwDn -/
theorem laws_lwDn_l0 (l : List Rd) (hl : l.length ≤ 4611686018427387904) : ∀ (d k : Nat) (i : Int), 0 ≤ i → i + d = l.length → d < k → laws_lwDn.l0 k l l i = some true
  | 0, k, i, h0, hi, hk => by
    obtain ⟨k, rfl⟩ : ∃ q, k = q + 1 := ⟨k - 1, by omega⟩
    rw [laws_lwDn.l0, if_neg (by omega)]
  | d + 1, k, i, h0, hi, hk => by
    obtain ⟨k, rfl⟩ : ∃ q, k = q + 1 := ⟨k - 1, by omega⟩
    rw [laws_lwDn.l0, if_pos (by omega), if_pos h0, if_pos (by omega), if_neg (by simp), w64 (x := i + 1) (by omega) (by omega), laws_lwDn_l0 l hl d k (i + 1) (by omega) (by omega) (by omega)]
theorem laws_lwDn_f (l : List Rd) (hl : l.length ≤ 4611686018427387904) (k : Nat) (hk : l.length < k) : laws_lwDn.f k l l = some true := by
  unfold laws_lwDn.f
  rw [if_pos rfl, laws_lwDn_l0 l hl l.length k 0 (by omega) (by omega) (by omega)]

theorem draw_DnText (c : List Int) (hc : c.length ≤ 140737488351232) (hr : ∀ x ∈ c, 0 ≤ x ∧ x ≤ 255) (k : Nat) (hk : 70 ≤ k) : ∃ x : List Rd, spec_DrawDnText.f k c = some x ∧ x.length ≤ 7 := by
  unfold spec_DrawDnText.f
  obtain ⟨m0, z, e0, h0⟩ := draw_source c hc hr k (by omega)
  rw [e0, Option.bind_some]
  simp only []
  obtain ⟨x, a2, m2, e2, hx, _, _⟩ := draw_l02Dn c 0 m0 z h0 k (by omega)
  rw [e2, Option.bind_some]
  exact ⟨x, rfl, hx⟩
theorem draw_spoil (b : List Int) (a m z : Int) (h : SrcOK b a m) (t : ByteArray) (ht : t.size ≤ 1000000) (k : Nat) (hk : 1 ≤ k) : ∃ u a' m', spec_l01Src_spoil.f k b a m z t = some (u, a', m', z) := by
  obtain ⟨k, rfl⟩ : ∃ q, k = q + 1 := ⟨k - 1, by omega⟩
  unfold spec_l01Src_spoil.f
  rw [w64 (x := (t.size : Int) + 1) (by omega) (by omega)]
  obtain ⟨r, a1, m1, e1, r0, r1, h1⟩ := draw_n b a m z ((t.size : Int) + 1) h (by omega)
  have hr := r1 (by omega)
  rw [e1, Option.bind_some]
  simp only []
  obtain ⟨q, a2, m2, e2, q0, q1, h2⟩ := draw_n b a1 m1 z 17 h1 (by omega)
  have hq := q1 (by omega)
  rw [e2, Option.bind_some]
  simp only []
  rw [if_pos q0, if_pos hq, Option.bind_some]
  have hz : ∀ y : Int, (strOfNums [y]).size = 1 := fun y => by rw [strOfNums_size]; rfl
  have key : ∀ (y : Int) (o : Bool) (a m : Int), SrcOK b a m → (r = (t.size : Int) → o = true) → ∃ u a' m', spec_l01Src_spoil.j0 (k + 1) t r (strOfNums [y]) o b a m z = some (u, a', m', z) := by
    intro y o a m h3 ho
    have s1 : (t.extract 0 r.toNat).size = r.toNat := by rw [ba_extract_size _ _ _ (by omega)]; omega
    have s2 : (t.extract r.toNat t.size).size ≤ t.size := by rw [ba_extract_size _ _ _ (by omega)]; omega
    rw [spec_l01Src_spoil.j0]
    cases o with
    | true =>
      rw [if_pos rfl, if_pos r0, if_pos (by omega), if_pos (by rw [s1, hz]; omega), if_pos (by rw [ba_append_size, s1, hz]; omega)]
      exact ⟨_, _, _, rfl⟩
    | false =>
      have hne : r ≠ (t.size : Int) := fun e => by have := ho e; cases this
      have s3 : (t.extract (r + 1).toNat t.size).size ≤ t.size := by rw [ba_extract_size _ _ _ (by omega)]; omega
      obtain ⟨o2, a4, m4, e4, h4⟩ := draw_one b a m z 2 h3 (by omega)
      rw [if_neg (by simp), e4, Option.bind_some]
      simp only []
      rw [w64 (x := r + 1) (by omega) (by omega)]
      cases o2 with
      | true =>
        rw [if_pos rfl, if_pos r0, if_pos (by omega), if_pos (by omega), if_pos (by omega), if_pos (by rw [s1]; omega)]
        exact ⟨_, _, _, rfl⟩
      | false =>
        rw [if_neg (by simp), if_pos r0, if_pos (by omega), if_pos (by rw [s1, hz]; omega), if_pos (by omega), if_pos (by omega), if_pos (by rw [ba_append_size, s1, hz]; omega)]
        exact ⟨_, _, _, rfl⟩
  by_cases he : r = (t.size : Int)
  · rw [if_pos he]
    exact key _ true _ _ h2 (fun _ => rfl)
  · rw [if_neg he]
    obtain ⟨o, a3, m3, e3, h3⟩ := draw_one b a2 m2 z 3 h2 (by omega)
    rw [e3, Option.bind_some]
    exact key _ o _ _ h3 (fun e => absurd e he)
theorem TextP_size {l : List Rd} (h : DnP l = true) : (TextP l).size ≤ 2000 := by
  obtain ⟨h1, h2⟩ := DnP_mem h
  have key : ∀ (l : List Rd) (b : Bool), (∀ x ∈ l, RdnP x = true) → (textB b l).length ≤ 200 * l.length := by
    intro l
    induction l with
    | nil => intro b _; simp [textB]
    | cons x xs ih =>
      intro b hx
      obtain ⟨s0, s1⟩ := RdnP_size (hx x (by simp))
      have h3 := ih true (fun y hy => hx y (List.mem_cons_of_mem _ hy))
      have h4 := escB_length x.f1
      have h5 := bytesOf_length x.f0
      simp only [textB, List.length_append, List.length_cons, List.length_nil]
      split <;> simp <;> omega
  unfold TextP
  rw [strOfNums_size]
  have := key l false h2
  omega
theorem draw_DnRead (c : List Int) (hc : c.length ≤ 140737488351232) (hr : ∀ x ∈ c, 0 ≤ x ∧ x ≤ 255) (k : Nat) (hk : 20000 ≤ k) : ∃ t, spec_DrawDnRead.f k c = some t := by
  unfold spec_DrawDnRead.f
  obtain ⟨m0, z, e0, h0⟩ := draw_source c hc hr k (by omega)
  rw [e0, Option.bind_some]
  simp only []
  obtain ⟨x, a1, m1, e1, hx, _, h1⟩ := draw_l02Dn c 0 m0 z h0 k (by omega)
  rw [e1, Option.bind_some]
  simp only []
  rw [spec_DnText_f x (by omega) k (by omega), Option.bind_some]
  have hs : (DnTextP x).size ≤ 2000 := by
    unfold DnTextP
    split
    · rename_i h; exact TextP_size h
    · exact Nat.zero_le _
  obtain ⟨r, a2, m2, e2, _, _, h2⟩ := draw_n c a1 m1 z 4 h1 (by omega)
  rw [e2, Option.bind_some]
  simp only []
  by_cases hr0 : r = 0
  · obtain ⟨u, a3, m3, e3⟩ := draw_spoil c a2 m2 z h2 (DnTextP x) (by omega) k (by omega)
    rw [if_pos hr0, e3, Option.bind_some]
    exact ⟨u, rfl⟩
  · rw [if_neg hr0]
    by_cases hr1 : r = 1
    · obtain ⟨u, a3, m3, e3, _, _⟩ := draw_pick c a2 m2 z [(⟨#[]⟩ : ByteArray), (⟨#[99, 110, 61]⟩ : ByteArray), (⟨#[99, 110]⟩ : ByteArray), (⟨#[61, 97]⟩ : ByteArray), (⟨#[99, 110, 61, 97, 44]⟩ : ByteArray), (⟨#[99, 110, 61, 92, 97]⟩ : ByteArray), (⟨#[99, 110, 61, 97, 92]⟩ : ByteArray), (⟨#[99, 110, 61, 32, 97]⟩ : ByteArray), (⟨#[99, 110, 61, 97, 44, 111, 117, 61, 98]⟩ : ByteArray), (⟨#[99, 110, 61, 97, 92, 44, 98]⟩ : ByteArray)] h2 (by decide) (by decide)
      rw [if_pos hr1, e3, Option.bind_some]
      exact ⟨u, rfl⟩
    · rw [if_neg hr1]; exact ⟨_, rfl⟩
theorem impl_DnText_f (l : List Rd) (k : Nat) (hk : 400 ≤ k) : impl_DnText.f k l = some (DnTextP l) := by
  unfold impl_DnText.f DnTextP
  rw [impl_DnRight_f _ _ (by omega), Option.bind_some]
  by_cases h : DnP l = true
  · rw [if_pos h, if_pos h, impl_dnText_f l h _ (by omega)]; rfl
  · rw [if_neg h, if_neg h]
theorem em_toList : (⟨#[]⟩ : ByteArray).toList = [] := by rw [Go.Lib.toList_data]
theorem readS_empty (t : ByteArray) (h : t.toList = []) : t = ⟨#[]⟩ := ba_inj.1 (h.trans em_toList.symm)
theorem TextL_nil : (TextP ([] : List Rd)).toList = [] := by
  have e : TextP ([] : List Rd) = ⟨#[]⟩ := rfl
  rw [e, em_toList]
theorem DnTextL_nil : DnTextP ([] : List Rd) = TextP [] := by
  unfold DnTextP
  rw [if_pos (by rfl)]
theorem ReadP_text {l : List Rd} (h : DnP l = true) : (ReadP (DnTextP l)).1 = l := by
  have e : DnTextP l = TextP l := by unfold DnTextP; rw [if_pos h]
  have hs := TextP_size h
  rw [e]
  unfold ReadP
  rw [if_neg (by omega)]
  match l, h with
  | [], h => rw [if_pos TextL_nil]
  | x :: xs, h =>
    have hne : (TextP (x :: xs)).toList ≠ [] := by
      intro e
      have h1 : (TextP (x :: xs)).size = 0 := by rw [readS_empty _ e]; rfl
      unfold TextP at h1
      rw [strOfNums_size] at h1
      have := List.eq_nil_of_length_eq_zero h1
      simp [textB] at this
    have hr := readS_TextP (x :: xs) h (by simp)
    rw [if_neg hne, hr, if_pos ⟨h, rfl⟩]
theorem ReadP_back {t : ByteArray} (h : (ReadP t).2 = 0) : (DnTextP (ReadP t).1).toList = t.toList := by
  unfold ReadP at h ⊢
  by_cases h8 : t.size > 8000
  · rw [if_pos h8] at h; exact absurd h (by simp)
  · rw [if_neg h8] at h ⊢
    by_cases h0 : t.toList = []
    · rw [if_pos h0, h0]; exact (congrArg _ DnTextL_nil).trans TextL_nil
    · rw [if_neg h0] at h ⊢
      by_cases h1 : DnP (readS t) = true ∧ (TextP (readS t)).toList = t.toList
      · rw [if_pos h1]
        simp only []
        unfold DnTextP
        rw [if_pos h1.1, h1.2]
      · rw [if_neg h1] at h; exact absurd h (by simp)
theorem FnDn : laws_FnDn.Pure := by
  intro c1 c2 ⟨hc1, hw1⟩ ⟨hc2, hw2⟩
  obtain ⟨K, hK⟩ : ∃ K : Nat, K = 50000 := ⟨_, rfl⟩
  refine ⟨K + 3, ?_⟩
  unfold laws_FnDn.f
  have h0 : laws_FnDn.j0 (K + 3) c1 c2 true = some true := by rw [laws_FnDn.j0, if_pos rfl]
  split
  · exact h0
  · cases hb : decide ((c2.length : Int) > 1048576) with
    | true => exact h0
    | false =>
      obtain ⟨l, e1, hl⟩ := draw_DnText c1 (by omega) (fun z hz => wf_u8 (hw1 z hz)) (K + 2) (by omega)
      obtain ⟨u, e2⟩ := draw_DnRead c2 (by omega) (fun z hz => wf_u8 (hw2 z hz)) (K + 1) (by omega)
      have hfin : laws_FnDn.j1 (K + 2) c2 false = some true := by
        have hu := ReadP_len u
        rw [laws_FnDn.j1, if_neg (by simp), e2, Option.bind_some, impl_DnRead_f u _ (by omega), Option.bind_some, spec_DnRead_f u _ (by omega), Option.bind_some, if_pos rfl, Option.bind_some, laws_lwDn_f _ (by omega) _ (by omega), Option.bind_some, if_pos rfl]
        by_cases h2 : (ReadP u).2 = 0
        · rw [if_pos h2, impl_DnText_f _ _ (by omega), Option.bind_some, ReadP_back h2]; simp
        · rw [if_neg h2]
      rw [laws_FnDn.j0, if_neg (by simp), e1, Option.bind_some, impl_DnText_f _ _ (by omega), Option.bind_some, spec_DnText_f l (by omega) _ (by omega), Option.bind_some, if_pos rfl, impl_DnRight_f _ _ (by omega), Option.bind_some,
        spec_DnRight_f _ (by omega) _ (by omega), Option.bind_some, if_neg (by simp), Option.bind_some]
      by_cases h : DnP l = true
      · rw [if_pos h, impl_DnRead_f _ _ (by omega), Option.bind_some, ReadP_text h, laws_lwDn_f _ (by omega) _ (by omega), Option.bind_some]
        exact hfin
      · rw [if_neg h]; exact hfin

end Go.Proofs.YtdbboelacgehoaaDoor.Pure
