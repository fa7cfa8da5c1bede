/- The law FnExactDnUnder answers true at every two lists of RDNs: the program's DnUnder gives what the reference's gives. No condition. -/
import Derived.Test.YticbafilcicdjaaDoorQFnExactDnUnderx6
import Derived.Laws.Bits64
import Derived.Lib.Strings
namespace Go.Proofs.YticbafilcicdjaaDoor.Pure
open Go.RowKit Go.Proofs.YticbafilcicdjaaDoor.PFnExactDnUnder Go.Proofs.YticbafilcicdjaaDoorW.PrintWords Go.Proofs.YticbafilcicdjaaDoorW.PrintLast
set_option linter.unusedVariables false
set_option linter.unusedSimpArgs false

/-! plain lemmas -/
theorem w64 {x : Int} (h0 : -9223372036854775808 ≤ x) (h1 : x ≤ 9223372036854775807) : wrap64 x = x := by unfold wrap64; omega
theorem u64w {x : Int} (h0 : 0 ≤ x) (h1 : x < 18446744073709551616) : IntKind.u64.wrap x = x := by rw [IntKind.wrap_u64]; omega
theorem son_append (xs ys : List Int) : strOfNums (xs ++ ys) = strOfNums xs ++ strOfNums ys := by
  unfold strOfNums
  apply ByteArray.ext
  simp
theorem ba_append_size (a b : ByteArray) : (a ++ b).size = a.size + b.size := by simp
theorem ba_append_assoc (a b c : ByteArray) : (a ++ b) ++ c = a ++ (b ++ c) := by
  apply ByteArray.ext
  simp
/-- The comparison at the end of a law. -/
theorem law_end {A B : Option ByteArray} {r : ByteArray} (hA : A = some r) (hB : B = some r) :
    (A.bind fun t => B.bind fun t' => if t'.toList = t.toList then some true else some false) = some true := by
  rw [hA, hB]; simp
theorem wf_i64 {n : Int} (h : (Lit.int .i64 n).wf = true) : -9223372036854775808 ≤ n ∧ n ≤ 9223372036854775807 := by
  simpa [Lit.wf, IntKind.min, IntKind.max, IntKind.bits, IntKind.signed] using h
/-- The same of two numbers. -/
theorem law_endI {A B : Option Int} {r : Int} (hA : A = some r) (hB : B = some r) :
    (A.bind fun t => B.bind fun t' => if t' = t then some true else some false) = some true := by
  rw [hA, hB]; simp

/-! strings of bytes -/
theorem ba_ext {a b : ByteArray} (h : a.data.toList = b.data.toList) : a = b := ByteArray.ext (Array.toList_inj.1 h)
theorem ba_inj {a b : ByteArray} : a.toList = b.toList ↔ a = b :=
  ⟨fun h => ba_ext (by rwa [Go.Lib.toList_data, Go.Lib.toList_data] at h), fun h => by rw [h]⟩
theorem ba_data_append (a b : ByteArray) : (a ++ b).data.toList = a.data.toList ++ b.data.toList := by simp
theorem ba_data_extract (s : ByteArray) (i j : Nat) : (s.extract i j).data.toList = (s.data.toList.drop i).take (j - i) := Go.Lib.extract_data s i j
theorem ba_split (s : ByteArray) (m : Nat) : s.extract 0 m ++ s.extract m s.size = s := by
  apply ba_ext
  rw [ba_data_append, ba_data_extract, ba_data_extract, Nat.sub_zero, List.drop_zero]
  rw [List.take_of_length_le (l := s.data.toList.drop m) (by rw [List.length_drop, data_length]; omega), List.take_append_drop]
theorem ba_append_inj {a b c : ByteArray} : a ++ b = a ++ c ↔ b = c := by
  constructor
  · intro h
    have h2 := congrArg (fun x : ByteArray => x.data.toList) h
    simp only [ba_data_append] at h2
    exact ba_ext (List.append_cancel_left h2)
  · intro h; rw [h]
theorem son_bytesOf (s : ByteArray) : strOfNums (bytesOf s) = s := by
  apply ba_ext
  rw [strOfNums_data, bytesOf, List.map_map]
  conv => rhs; rw [← List.map_id s.data.toList]
  apply List.map_congr_left
  intro b _
  simp
theorem ext_son (s : ByteArray) (i j : Nat) : s.extract i j = strOfNums (((bytesOf s).drop i).take (j - i)) := by
  apply ba_ext
  rw [ba_data_extract, strOfNums_data, List.map_take, List.map_drop]
  congr 2
  have := congrArg (fun x : ByteArray => x.data.toList) (son_bytesOf s)
  simp only [strOfNums_data] at this
  exact this.symm
theorem ba_extract_size (s : ByteArray) (i j : Nat) (hj : j ≤ s.size) : (s.extract i j).size = j - i := by
  rw [ByteArray.size_extract]; omega
theorem ba_nil_data : (⟨#[]⟩ : ByteArray).data.toList = [] := rfl
theorem ba_size0 {s : ByteArray} (h : s.size = 0) : s = ⟨#[]⟩ := by
  apply ba_ext
  rw [ba_nil_data]
  exact List.eq_nil_of_length_eq_zero (by rw [data_length]; exact h)
theorem bytesOf_son (l : List Int) (h : ∀ x ∈ l, 0 ≤ x ∧ x ≤ 255) : bytesOf (strOfNums l) = l := by
  unfold bytesOf
  rw [strOfNums_data, List.map_map]
  conv => rhs; rw [← List.map_id l]
  apply List.map_congr_left
  intro x hx
  have := h x hx
  simp only [Function.comp, id]
  rw [UInt8.toNat_ofNat']
  omega

theorem drop_bt (s : ByteArray) (i : Int) (h0 : 0 ≤ i) (h1 : i < s.size) : (bytesOf s).drop i.toNat = bt s i :: (bytesOf s).drop (i + 1).toNat := by
  have hl : i.toNat < (bytesOf s).length := by rw [bytesOf_length]; omega
  rw [List.drop_eq_getElem_cons hl, ← rd_bytesOf, show (i + 1).toNat = i.toNat + 1 by omega]
  congr 1
  unfold rd
  rw [List.getD_eq_getElem?_getD, List.getElem?_eq_getElem hl]; rfl

/-! loops that go over a row once -/
theorem some_loop {ρ : Type} (n : Nat) (hn : (n : Int) ≤ 4611686018427387904) (K : Nat) (g : Nat → Int → Int → Option ρ)
    (step : ∀ (k : Nat) (a i : Int), K ≤ k → 0 ≤ i → i < n → (∃ r, g (k + 1) a i = some r) ∨ ∃ a', g (k + 1) a i = g k a' (wrap64 (i + 1)))
    (fin : ∀ (k : Nat) (a i : Int), K ≤ k → 0 ≤ i → (n : Int) ≤ i → ∃ r, g (k + 1) a i = some r) :
    ∀ (d k : Nat) (a i : Int), 0 ≤ i → i + d = n → K + d < k → ∃ r, g k a i = some r
  | 0, k, a, i, h0, hi, hk => by
    obtain ⟨k, rfl⟩ : ∃ q, k = q + 1 := ⟨k - 1, by omega⟩
    exact fin k a i (by omega) h0 (by omega)
  | d + 1, k, a, i, h0, hi, hk => by
    obtain ⟨k, rfl⟩ : ∃ q, k = q + 1 := ⟨k - 1, by omega⟩
    rcases step k a i (by omega) h0 (by omega) with h | ⟨a', e⟩
    · exact h
    · rw [e, w64 (x := i + 1) (by omega) (by omega)]
      exact some_loop n hn K g step fin d k a' (i + 1) (by omega) (by omega) (by omega)
theorem skip_loop {ρ : Type} (r : ρ) (n : Nat) (hn : (n : Int) ≤ 4611686018427387904) (K : Nat) (g : Nat → Int → Option ρ)
    (step : ∀ (k : Nat) (i : Int), K ≤ k → 0 ≤ i → i < n → g (k + 1) i = g k (wrap64 (i + 1)))
    (fin : ∀ (k : Nat) (i : Int), K ≤ k → 0 ≤ i → (n : Int) ≤ i → g (k + 1) i = some r) :
    ∀ (d k : Nat) (i : Int), 0 ≤ i → i + d = n → K + d < k → g k i = some r
  | 0, k, i, h0, hi, hk => by
    obtain ⟨k, rfl⟩ : ∃ q, k = q + 1 := ⟨k - 1, by omega⟩
    exact fin k i (by omega) h0 (by omega)
  | d + 1, k, i, h0, hi, hk => by
    obtain ⟨k, rfl⟩ : ∃ q, k = q + 1 := ⟨k - 1, by omega⟩
    rw [step k i (by omega) h0 (by omega), w64 (x := i + 1) (by omega) (by omega)]
    exact skip_loop r n hn K g step fin d k (i + 1) (by omega) (by omega) (by omega)
theorem copy_loop {β : Type} (n : Nat) (hn : (n : Int) ≤ 4611686018427387904) (src : Nat → β) (K : Nat) (g : Nat → List β → Int → Option (List β))
    (step : ∀ (k : Nat) (x : List β) (i : Int), K ≤ k → 0 ≤ i → i < n → x.length = n → g (k + 1) x i = g k (x.set i.toNat (src i.toNat)) (wrap64 (i + 1)))
    (fin : ∀ (k : Nat) (x : List β) (i : Int), (n : Int) ≤ i → g (k + 1) x i = some x) :
    ∀ (d k : Nat) (x : List β) (i : Int), 0 ≤ i → i + d = n → K + d < k → x.length = n → g k x i = some (x.take i.toNat ++ (List.range' i.toNat d).map src)
  | 0, k, x, i, h0, hi, hk, hx => by
    obtain ⟨k, rfl⟩ : ∃ q, k = q + 1 := ⟨k - 1, by omega⟩
    rw [fin k x i (by omega), List.take_of_length_le (by omega)]
    simp
  | d + 1, k, x, i, h0, hi, hk, hx => by
    obtain ⟨k, rfl⟩ : ∃ q, k = q + 1 := ⟨k - 1, by omega⟩
    rw [step k x i (by omega) h0 (by omega) hx, w64 (x := i + 1) (by omega) (by omega),
      copy_loop n hn src K g step fin d k _ (i + 1) (by omega) (by omega) (by omega) (by rw [List.length_set]; exact hx)]
    congr 1
    rw [show (i + 1).toNat = i.toNat + 1 by omega, List.range'_succ, List.map_cons, List.take_succ_eq_append_getElem (by rw [List.length_set]; omega), List.getElem_set_self, List.take_set_of_le (by omega), List.append_assoc]
    rfl
theorem copy_all {β : Type} (n : Nat) (hn : (n : Int) ≤ 4611686018427387904) (src : Nat → β) (K : Nat) (g : Nat → List β → Int → Option (List β)) (z : β)
    (step : ∀ (k : Nat) (x : List β) (i : Int), K ≤ k → 0 ≤ i → i < n → x.length = n → g (k + 1) x i = g k (x.set i.toNat (src i.toNat)) (wrap64 (i + 1)))
    (fin : ∀ (k : Nat) (x : List β) (i : Int), (n : Int) ≤ i → g (k + 1) x i = some x) (k : Nat) (hk : K + n < k) :
    g k (List.replicate n z) 0 = some ((List.range n).map src) := by
  rw [copy_loop n hn src K g step fin n k _ 0 (by omega) (by omega) hk (by simp)]
  simp [List.range_eq_range']
theorem range_map_getD {α β : Type} (l : List α) (z : α) (f : α → β) : (List.range l.length).map (fun j => f (l.getD j z)) = l.map f := by
  apply List.ext_getElem
  · simp
  · intro i h1 h2
    simp only [List.getElem_map, List.getElem_range]
    rw [List.getD_eq_getElem?_getD, List.getElem?_eq_getElem (by simpa using h1)]
    rfl
theorem all_loop (fin : Bool) (f : Nat → Bool) (n : Nat) (hn : (n : Int) ≤ 4611686018427387904) (K : Nat) (g : Nat → Int → Option Bool)
    (step : ∀ (k : Nat) (i : Int), K ≤ k → 0 ≤ i → i < n → g (k + 1) i = if f i.toNat = true then g k (wrap64 (i + 1)) else some false)
    (hfin : ∀ (k : Nat) (i : Int), K ≤ k → 0 ≤ i → (n : Int) ≤ i → g (k + 1) i = some fin) :
    ∀ (d k : Nat) (i : Int), 0 ≤ i → i + d = n → K + d < k → g k i = some ((List.range' i.toNat d).all f && fin)
  | 0, k, i, h0, hi, hk => by
    obtain ⟨k, rfl⟩ : ∃ q, k = q + 1 := ⟨k - 1, by omega⟩
    rw [hfin k i (by omega) h0 (by omega)]; simp
  | d + 1, k, i, h0, hi, hk => by
    obtain ⟨k, rfl⟩ : ∃ q, k = q + 1 := ⟨k - 1, by omega⟩
    rw [step k i (by omega) h0 (by omega), w64 (x := i + 1) (by omega) (by omega), List.range'_succ, List.all_cons]
    cases hf : f i.toNat with
    | false => simp
    | true =>
      rw [if_pos rfl, all_loop fin f n hn K g step hfin d k (i + 1) (by omega) (by omega) (by omega), show (i + 1).toNat = i.toNat + 1 by omega]
      simp

/-! lists of RDNs: brought over, held beside each other, weighed -/
def cvRdn (x : S37) : S38 := ⟨x.f0, x.f1⟩
theorem laws_szRdnS_f (l : List S37) (hl : (l.length : Int) ≤ 4611686018427387904) (a : Int) (k : Nat) (hk : l.length < k) : ∃ r, laws_szRdnS.f k l a = some r := by
  unfold laws_szRdnS.f
  split
  · exact ⟨_, rfl⟩
  · refine some_loop l.length hl 0 (fun k a i => laws_szRdnS.l0 k l a i) (fun k a i _ h0 hi => ?_) (fun k a i _ h0 hi => ?_) l.length k _ 0 (by omega) (by omega) (by omega)
    · show (∃ r, laws_szRdnS.l0 (k + 1) l a i = some r) ∨ ∃ a', laws_szRdnS.l0 (k + 1) l a i = laws_szRdnS.l0 k l a' (wrap64 (i + 1))
      rw [laws_szRdnS.l0, if_pos hi, if_pos h0]
      unfold laws_szRdn.f
      repeat' split
      all_goals simp only [Option.bind_some]
      all_goals (try split)
      all_goals first | exact .inl ⟨_, rfl⟩ | exact .inr ⟨_, rfl⟩
    · show ∃ r, laws_szRdnS.l0 (k + 1) l a i = some r
      rw [laws_szRdnS.l0, if_neg (by omega)]
      exact ⟨_, rfl⟩
theorem laws_toRdnS_f (l : List S37) (hl : l.length ≤ 8796093022208) (k : Nat) (hk : l.length < k) : laws_toRdnS.f k l = some (l.map cvRdn) := by
  unfold laws_toRdnS.f
  rw [if_pos (by omega), if_pos (by omega), show ((l.length : Int)).toNat = l.length from rfl,
    copy_all l.length (by omega) (fun j => cvRdn (l.getD j z37)) 0 (fun k x i => laws_toRdnS.l0 k l x i) z38 (fun k x i _ h0 hi hx => ?_) (fun k x i hi => ?_) k (by omega), range_map_getD]
  · show laws_toRdnS.l0 (k + 1) l x i = _
    rw [laws_toRdnS.l0, if_pos hi, if_pos h0]
    unfold laws_toRdn.f
    simp only [Option.bind_some]
    rw [if_pos (by omega)]
    rfl
  · show laws_toRdnS.l0 (k + 1) l x i = _
    rw [laws_toRdnS.l0, if_neg (by omega)]

/-! lists of RDNs held beside each other -/
theorem laws_eqRdnS_f (l : List S38) (hl : (l.length : Int) ≤ 4611686018427387904) (k : Nat) (hk : l.length < k) : laws_eqRdnS.f k l l = some true := by
  unfold laws_eqRdnS.f
  rw [if_pos rfl]
  refine skip_loop true l.length hl 0 (fun k i => laws_eqRdnS.l0 k l l i) (fun k i _ h0 hi => ?_) (fun k i _ h0 hi => ?_) l.length k 0 (by omega) (by omega) (by omega)
  · show laws_eqRdnS.l0 (k + 1) l l i = laws_eqRdnS.l0 k l l (wrap64 (i + 1))
    rw [laws_eqRdnS.l0, if_pos hi, if_pos h0, if_pos hi]
    unfold laws_eqRdn.f
    rw [if_pos rfl, if_pos rfl]
    simp
  · show laws_eqRdnS.l0 (k + 1) l l i = _
    rw [laws_eqRdnS.l0, if_neg (by omega)]

/-! Norm -/
/-- A capital as a small letter. -/
def up (c : Int) : Int := if 65 ≤ c ∧ c ≤ 90 then c + 32 else c
/-- A byte put behind what is there: no blank at the begin, none behind another. -/
def nput (l : List Int) (c : Int) : List Int := if c = 32 ∧ (l = [] ∨ rd l ((l.length : Int) - 1) = 32) then l else l ++ [c]
def nfold (l cs : List Int) : List Int := cs.foldl (fun l c => nput l (up c)) l
def ntrim (l : List Int) : List Int := if l ≠ [] ∧ rd l ((l.length : Int) - 1) = 32 then l.take (l.length - 1) else l
def prt (c : Int) : Bool := decide (32 ≤ c) && decide (c ≤ 126)
theorem prt_lo {c : Int} (h : c < 32) : prt c = false := by unfold prt; rw [decide_eq_false (by omega)]; rfl
theorem prt_hi {c : Int} (h : c > 126) : prt c = false := by unfold prt; rw [decide_eq_false (p := c ≤ 126) (by omega)]; simp
def plainP (s : ByteArray) : Bool := (bytesOf s).all prt
def NormL (s : ByteArray) : List Int := if s.size ≤ 100 ∧ plainP s = true then ntrim (nfold [] (bytesOf s)) else []
def NormP (s : ByteArray) : ByteArray := strOfNums (NormL s)
theorem son_nil : strOfNums [] = (⟨#[]⟩ : ByteArray) := rfl
theorem spec_l02Plain_l0 (s : ByteArray) (hs : s.size ≤ 4611686018427387904) : ∀ (d k : Nat) (i : Int), 0 ≤ i → i + d = s.size → d < k →
    spec_l02Plain.l0 k s i = some (((bytesOf s).drop i.toNat).all prt)
  | 0, k, i, h0, hd, hk => by
    obtain ⟨k, rfl⟩ : ∃ m, k = m + 1 := ⟨k - 1, by omega⟩
    simp only [spec_l02Plain.l0]
    rw [if_neg (by omega), List.drop_of_length_le (by rw [bytesOf_length]; omega)]; rfl
  | d + 1, k, i, h0, hd, hk => by
    obtain ⟨k, rfl⟩ : ∃ m, k = m + 1 := ⟨k - 1, by omega⟩
    simp only [spec_l02Plain.l0]
    rw [if_pos (by omega), if_pos h0, drop_bt s i h0 (by omega), List.all_cons]
    by_cases h1 : bt s i < 32
    · rw [if_pos h1, show prt (bt s i) = false from prt_lo h1]; rfl
    · rw [if_neg h1]
      by_cases h2 : bt s i > 126
      · rw [if_pos h2, show prt (bt s i) = false from prt_hi h2]; rfl
      · rw [if_neg h2, w64 (by omega) (by omega), spec_l02Plain_l0 s hs d k (i + 1) (by omega) (by omega) (by omega)]
        simp [prt, show 32 ≤ bt s i by omega, show bt s i ≤ 126 by omega]
theorem spec_l02Plain_f (s : ByteArray) (hs : s.size ≤ 4611686018427387904) (k : Nat) (hk : s.size < k) : spec_l02Plain.f k s = some (plainP s) := by
  unfold spec_l02Plain.f
  rw [spec_l02Plain_l0 s hs s.size k 0 (by omega) (by omega) hk]; rfl
theorem impl_isPrintable_l0 (s : ByteArray) (hs : s.size ≤ 4611686018427387904) : ∀ (d k : Nat) (i : Int), 0 ≤ i → i + d = s.size → d < k →
    impl_isPrintable.l0 k s (s.size : Int) i = some (((bytesOf s).drop i.toNat).all prt)
  | 0, k, i, h0, hd, hk => by
    obtain ⟨k, rfl⟩ : ∃ m, k = m + 1 := ⟨k - 1, by omega⟩
    simp only [impl_isPrintable.l0]
    rw [if_neg (by omega), List.drop_of_length_le (by rw [bytesOf_length]; omega)]; rfl
  | d + 1, k, i, h0, hd, hk => by
    obtain ⟨k, rfl⟩ : ∃ m, k = m + 1 := ⟨k - 1, by omega⟩
    simp only [impl_isPrintable.l0]
    rw [if_pos (by omega), if_pos h0, if_pos (by omega), drop_bt s i h0 (by omega), List.all_cons]
    by_cases h1 : bt s i < 32
    · rw [if_pos h1, show prt (bt s i) = false from prt_lo h1]; rfl
    · rw [if_neg h1]
      by_cases h2 : bt s i > 126
      · rw [if_pos h2, show prt (bt s i) = false from prt_hi h2]; rfl
      · rw [if_neg h2, w64 (by omega) (by omega), impl_isPrintable_l0 s hs d k (i + 1) (by omega) (by omega) (by omega)]
        simp [prt, show 32 ≤ bt s i by omega, show bt s i ≤ 126 by omega]
theorem impl_isPrintable_f (s : ByteArray) (hs : s.size ≤ 4611686018427387904) (k : Nat) (hk : s.size < k) : impl_isPrintable.f k s = some (plainP s) := by
  unfold impl_isPrintable.f
  rw [impl_isPrintable_l0 s hs s.size k 0 (by omega) (by omega) hk]; rfl
theorem nput_length (l : List Int) (c : Int) : (nput l c).length ≤ l.length + 1 := by
  unfold nput; split <;> simp
theorem up_of {c : Int} (h0 : 0 ≤ c) (h1 : c ≤ 255) (b : Bool) (hb : b = (decide (c ≥ 65) && decide (c ≤ 90))) : (if b = true then (c + 32) % 256 else c) = up c := by
  unfold up
  subst hb
  by_cases h : 65 ≤ c ∧ c ≤ 90
  · rw [if_pos h, if_pos (by simp [h.1, h.2])]; omega
  · rw [if_neg h, if_neg (by simpa using h)]
theorem spec_Norm_j2 (k : Nat) (s : ByteArray) (l : List Int) (i c : Int) (b : Bool) (hl : l.length < 1000) (h0 : 0 ≤ i) (h1 : i < 1000) :
    spec_Norm.j2 (k + 1) s l i c b = spec_Norm.l0 k s (nput l (if b = true then (c + 32) % 256 else c)) (i + 1) := by
  simp only [spec_Norm.j2]
  rw [w64 (x := i + 1) (by omega) (by omega), w64 (x := (l.length : Int) - 1) (by omega) (by omega), if_pos (show l.length < 140737488355328 by omega), if_pos (show l.length < 140737488355328 by omega)]
  have key : ∀ c : Int, (if c = 32 then (if (l.length : Int) = 0 then spec_Norm.l0 k s l (i + 1) else (if 0 ≤ (l.length : Int) - 1 then (if (l.length : Int) - 1 < (l.length : Int) then (if rd l ((l.length : Int) - 1) = 32 then spec_Norm.l0 k s l (i + 1) else spec_Norm.l0 k s (l ++ [c]) (i + 1)) else none) else none)) else spec_Norm.l0 k s (l ++ [c]) (i + 1)) = spec_Norm.l0 k s (nput l c) (i + 1) := by
    intro c
    unfold nput
    by_cases hc : c = 32
    · rw [if_pos hc]
      by_cases hn : l = []
      · rw [if_pos (by simp [hn]), if_pos ⟨hc, .inl hn⟩]
      · have : 0 < l.length := List.length_pos_iff.2 hn
        rw [if_neg (by omega), if_pos (by omega), if_pos (by omega)]
        by_cases hr : rd l ((l.length : Int) - 1) = 32
        · rw [if_pos hr, if_pos ⟨hc, .inr hr⟩]
        · rw [if_neg hr, if_neg (fun x => x.2.elim hn hr)]
    · rw [if_neg hc, if_neg (fun x => hc x.1)]
  cases b
  · exact key c
  · exact key _
theorem impl_Norm_j2 (k : Nat) (s : ByteArray) (l : List Int) (n i c : Int) (b : Bool) (hl : l.length < 1000) (h0 : 0 ≤ i) (h1 : i < 1000) :
    impl_Norm.j2 (k + 1) s l c n i b = impl_Norm.l0 k s (nput l (if b = true then (c + 32) % 256 else c)) n (i + 1) := by
  simp only [impl_Norm.j2]
  rw [w64 (x := i + 1) (by omega) (by omega), w64 (x := (l.length : Int) - 1) (by omega) (by omega), if_pos (show l.length < 140737488355328 by omega), if_pos (show l.length < 140737488355328 by omega)]
  have key : ∀ c : Int, (if c = 32 then (if (l.length : Int) > 0 then (if 0 ≤ (l.length : Int) - 1 then (if (l.length : Int) - 1 < (l.length : Int) then (if rd l ((l.length : Int) - 1) = 32 then impl_Norm.l0 k s l n (i + 1) else impl_Norm.l0 k s (l ++ [c]) n (i + 1)) else none) else none) else impl_Norm.l0 k s l n (i + 1)) else impl_Norm.l0 k s (l ++ [c]) n (i + 1)) = impl_Norm.l0 k s (nput l c) n (i + 1) := by
    intro c
    unfold nput
    by_cases hc : c = 32
    · rw [if_pos hc]
      by_cases hn : l = []
      · rw [if_neg (by simp [hn]), if_pos ⟨hc, .inl hn⟩]
      · have : 0 < l.length := List.length_pos_iff.2 hn
        rw [if_pos (by omega), if_pos (by omega), if_pos (by omega)]
        by_cases hr : rd l ((l.length : Int) - 1) = 32
        · rw [if_pos hr, if_pos ⟨hc, .inr hr⟩]
        · rw [if_neg hr, if_neg (fun x => x.2.elim hn hr)]
    · rw [if_neg hc, if_neg (fun x => hc x.1)]
  cases b
  · exact key c
  · exact key _
theorem spec_Norm_l0 (s : ByteArray) (hs : s.size ≤ 100) : ∀ (d k : Nat) (i : Int) (l : List Int), 0 ≤ i → i + d = s.size → 2 * d < k → l.length ≤ i →
    spec_Norm.l0 k s l i = some (strOfNums (ntrim (nfold l ((bytesOf s).drop i.toNat))))
  | 0, k, i, l, h0, hd, hk, hl => by
    obtain ⟨k, rfl⟩ : ∃ m, k = m + 1 := ⟨k - 1, by omega⟩
    simp only [spec_Norm.l0]
    rw [if_neg (by omega), List.drop_of_length_le (by rw [bytesOf_length]; omega)]
    rw [show nfold l [] = l from rfl]
    unfold ntrim
    by_cases hn : l = []
    · subst hn; simp
    · have : 0 < l.length := List.length_pos_iff.2 hn
      rw [w64 (x := (l.length : Int) - 1) (by omega) (by omega), if_pos (by omega), if_pos (by omega), if_pos (by omega)]
      by_cases hr : rd l ((l.length : Int) - 1) = 32
      · rw [if_pos hr, if_pos (show (l.length : Int) - 1 ≤ (l.length : Int) by omega), if_pos ⟨hn, hr⟩, show ((l.length : Int) - 1).toNat = l.length - 1 by omega]
      · rw [if_neg hr, if_neg (fun x => hr x.2)]
  | d + 1, k, i, l, h0, hd, hk, hl => by
    obtain ⟨k, rfl⟩ : ∃ m, k = m + 2 := ⟨k - 2, by omega⟩
    have hb := bt_range s i
    have hj : ∀ b : Bool, b = (decide (bt s i ≥ 65) && decide (bt s i ≤ 90)) → spec_Norm.j2 (k + 1) s l i (bt s i) b = some (strOfNums (ntrim (nfold l ((bytesOf s).drop i.toNat)))) := by
      intro b hbb
      rw [spec_Norm_j2 k s l i _ b (by omega) h0 (by omega), up_of hb.1 hb.2 b hbb]
      have := nput_length l (up (bt s i))
      rw [spec_Norm_l0 s hs d k (i + 1) _ (by omega) (by omega) (by omega) (by omega), drop_bt s i h0 (by omega)]; rfl
    simp only [spec_Norm.l0]
    rw [if_pos (by omega), if_pos h0]
    by_cases h : bt s i ≥ 65
    · rw [if_pos h]; exact hj _ (by simp [h])
    · rw [if_neg h]; exact hj _ (by simp [h])
theorem son_take (l : List Int) (n : Nat) : (strOfNums l).extract 0 n = strOfNums (l.take n) := by
  apply ba_ext
  rw [ByteArray.data_extract, Array.toList_extract, strOfNums_data, strOfNums_data]
  simp [List.extract]
theorem son_drop (l : List Int) (n : Nat) : (strOfNums l).extract n (strOfNums l).size = strOfNums (l.drop n) := by
  apply ba_ext
  rw [ByteArray.data_extract, Array.toList_extract, strOfNums_data, strOfNums_data, strOfNums_size]
  simp only [List.extract, List.map_drop]
  exact List.take_of_length_le (by simp)
theorem drop_last (l : List Int) (h : 0 < l.length) : l.drop (l.length - 1) = [rd l ((l.length : Int) - 1)] := by
  rw [List.drop_eq_getElem_cons (by omega), List.drop_of_length_le (by omega)]
  congr 1
  unfold rd
  rw [show ((l.length : Int) - 1).toNat = l.length - 1 by omega, List.getD_eq_getElem?_getD, List.getElem?_eq_getElem (by omega)]; rfl
theorem trim_blank (l : List Int) (hl : l.length < 1000) (hr : ∀ x ∈ l, 0 ≤ x ∧ x ≤ 255) : strings_TrimSuffix.f (strOfNums l) (⟨#[32]⟩ : ByteArray) = some (strOfNums (ntrim l)) := by
  have hz : (⟨#[32]⟩ : ByteArray).size = 1 := rfl
  unfold strings_TrimSuffix.f stringslite_TrimSuffix.f stringslite_HasSuffix.f ntrim
  rw [hz]
  by_cases hn : l = []
  · subst hn
    rw [if_neg (show ¬ (((strOfNums []).size : Int) ≥ ((1 : Nat) : Int)) by decide)]; rfl
  · have hp : 0 < l.length := List.length_pos_iff.2 hn
    have hin : rd l ((l.length : Int) - 1) ∈ l := by have h := drop_last l hp; exact List.mem_of_mem_drop (i := l.length - 1) (by rw [h]; simp)
    have hb := hr _ hin
    simp only [strOfNums_size, Int.natCast_one]
    rw [w64 (x := (l.length : Int) - 1) (by omega) (by omega), if_pos (by omega), if_pos (by omega), if_pos (by omega)]
    simp only [Option.bind_some]
    have e1 : (strOfNums l).extract ((l.length : Int) - 1).toNat l.length = strOfNums [rd l ((l.length : Int) - 1)] := by
      rw [← drop_last l hp, ← son_drop, strOfNums_size, show ((l.length : Int) - 1).toNat = l.length - 1 by omega]
    rw [e1]
    have e2 : ((strOfNums [rd l ((l.length : Int) - 1)]).toList == (⟨#[32]⟩ : ByteArray).toList) = decide (rd l ((l.length : Int) - 1) = 32) := by
      rw [Go.Lib.toList_data, Go.Lib.toList_data, strOfNums_data]
      generalize rd l ((l.length : Int) - 1) = x at hb
      have key : ∀ z : Fin 256, (([(z.val : Int)].map fun n => UInt8.ofNat n.toNat) == (⟨#[32]⟩ : ByteArray).data.toList) = decide ((z.val : Int) = 32) := by decide +kernel
      have := key ⟨x.toNat, by omega⟩
      simpa [Int.toNat_of_nonneg hb.1] using this
    rw [e2]
    by_cases h : rd l ((l.length : Int) - 1) = 32
    · rw [decide_eq_true h]
      simp only [if_true, Option.bind_some]
      rw [if_pos (show l ≠ [] ∧ rd l ((l.length : Int) - 1) = 32 from ⟨hn, h⟩), son_take, show ((l.length : Int) - 1).toNat = l.length - 1 by omega, if_pos (show 0 ≤ (l.length : Int) - 1 by omega), if_pos (show (l.length : Int) - 1 ≤ (l.length : Int) by omega)]; rfl
    · rw [decide_eq_false h, if_neg (show ¬ (l ≠ [] ∧ rd l ((l.length : Int) - 1) = 32) from fun x => h x.2)]; rfl
theorem nput_range {l : List Int} {c : Int} (hl : ∀ x ∈ l, 0 ≤ x ∧ x ≤ 255) (hc : 0 ≤ c ∧ c ≤ 255) : ∀ x ∈ nput l c, 0 ≤ x ∧ x ≤ 255 := by
  intro x hx
  unfold nput at hx
  split at hx
  · exact hl x hx
  · rcases List.mem_append.1 hx with h | h
    · exact hl x h
    · rw [List.mem_singleton.1 h]; exact hc
theorem up_range {c : Int} (hc : 0 ≤ c ∧ c ≤ 255) : 0 ≤ up c ∧ up c ≤ 255 := by unfold up; split <;> omega
theorem impl_Norm_l0 (s : ByteArray) (hs : s.size ≤ 100) : ∀ (d k : Nat) (i : Int) (l : List Int), 0 ≤ i → i + d = s.size → 2 * d < k → l.length ≤ i → (∀ x ∈ l, 0 ≤ x ∧ x ≤ 255) →
    impl_Norm.l0 k s l (s.size : Int) i = some (strOfNums (ntrim (nfold l ((bytesOf s).drop i.toNat))))
  | 0, k, i, l, h0, hd, hk, hl, hr => by
    obtain ⟨k, rfl⟩ : ∃ m, k = m + 1 := ⟨k - 1, by omega⟩
    simp only [impl_Norm.l0]
    rw [if_neg (by omega), List.drop_of_length_le (by rw [bytesOf_length]; omega), trim_blank l (by omega) hr]
    rfl
  | d + 1, k, i, l, h0, hd, hk, hl, hr => by
    obtain ⟨k, rfl⟩ : ∃ m, k = m + 2 := ⟨k - 2, by omega⟩
    have hb := bt_range s i
    have hj : ∀ b : Bool, b = (decide (bt s i ≥ 65) && decide (bt s i ≤ 90)) → impl_Norm.j2 (k + 1) s l (bt s i) (s.size : Int) i b = some (strOfNums (ntrim (nfold l ((bytesOf s).drop i.toNat)))) := by
      intro b hbb
      rw [impl_Norm_j2 k s l _ i _ b (by omega) h0 (by omega), up_of hb.1 hb.2 b hbb]
      have := nput_length l (up (bt s i))
      rw [impl_Norm_l0 s hs d k (i + 1) _ (by omega) (by omega) (by omega) (by omega) (nput_range hr (up_range hb)), drop_bt s i h0 (by omega)]; rfl
    simp only [impl_Norm.l0]
    rw [if_pos (by omega), if_pos h0, if_pos (by omega)]
    by_cases h : bt s i ≥ 65
    · rw [if_pos h]; exact hj _ (by simp [h])
    · rw [if_neg h]; exact hj _ (by simp [h])
theorem spec_Norm_f (s : ByteArray) (k : Nat) (hk : 2 * s.size + 2 < k) : spec_Norm.f k s = some (NormP s) := by
  obtain ⟨k, rfl⟩ : ∃ m, k = m + 1 := ⟨k - 1, by omega⟩
  unfold spec_Norm.f NormP NormL
  by_cases h : s.size ≤ 100
  · rw [if_neg (by omega), spec_l02Plain_f s (by omega) _ (by omega)]
    simp only [Option.bind_some, spec_Norm.j0]
    by_cases hp : plainP s = true
    · rw [if_neg (by simp [hp]), if_pos ⟨h, hp⟩, spec_Norm_l0 s h s.size k 0 [] (by omega) (by omega) (by omega) (by simp)]; rfl
    · rw [if_pos (by simp [hp]), if_neg (fun x => hp x.2)]; rfl
  · rw [if_pos (by omega), if_neg (fun x => h x.1)]
    simp only [spec_Norm.j0, if_true]; rfl
theorem impl_Norm_f (s : ByteArray) (k : Nat) (hk : 2 * s.size + 2 < k) : impl_Norm.f k s = some (NormP s) := by
  obtain ⟨k, rfl⟩ : ∃ m, k = m + 1 := ⟨k - 1, by omega⟩
  unfold impl_Norm.f NormP NormL
  by_cases h : s.size ≤ 100
  · rw [if_neg (by omega), impl_isPrintable_f s (by omega) _ (by omega)]
    simp only [Option.bind_some, impl_Norm.j0]
    by_cases hp : plainP s = true
    · rw [if_neg (by simp [hp]), if_pos ⟨h, hp⟩, impl_Norm_l0 s h s.size k 0 [] (by omega) (by omega) (by omega) (by simp) (by simp)]; rfl
    · rw [if_pos (by simp [hp]), if_neg (fun x => hp x.2)]; rfl
  · rw [if_pos (by omega), if_neg (fun x => h x.1)]
    simp only [impl_Norm.j0, if_true]; rfl

/-! what Norm leaves -/
/-- No capital, no other byte than a printable one, no blank at the begin, none behind another. -/
def Good (l : List Int) : Prop := ∀ p c s, l = p ++ c :: s → (prt c = true ∧ ¬ (65 ≤ c ∧ c ≤ 90)) ∧ (c = 32 → p ≠ [] ∧ rd p ((p.length : Int) - 1) ≠ 32)
theorem rd_last (p : List Int) (c : Int) : rd (p ++ [c]) (((p ++ [c]).length : Int) - 1) = c := by
  unfold rd
  rw [show (((p ++ [c]).length : Int) - 1).toNat = p.length by simp, List.getD_eq_getElem?_getD, List.getElem?_append_right (by omega)]
  simp
theorem Good.nil : Good [] := by
  intro p c s h
  simp at h
theorem Good.take {l : List Int} (h : Good l) (n : Nat) : Good (l.take n) := by
  intro p c s e
  have e2 : l = p ++ c :: (s ++ l.drop n) := by
    conv => lhs; rw [← List.take_append_drop n l]
    rw [e]; simp
  exact h p c _ e2
theorem Good.snoc {l : List Int} {c : Int} (h : Good l) (hc : prt c = true ∧ ¬ (65 ≤ c ∧ c ≤ 90)) (h2 : c = 32 → l ≠ [] ∧ rd l ((l.length : Int) - 1) ≠ 32) : Good (l ++ [c]) := by
  intro p d s e
  rcases List.eq_nil_or_concat s with rfl | ⟨s', x, rfl⟩
  · have := List.append_inj' e rfl
    obtain ⟨e1, e2⟩ := this
    subst e1
    simp only [List.cons.injEq, and_true] at e2
    subst e2
    exact ⟨hc, h2⟩
  · have e' : l ++ [c] = (p ++ d :: s') ++ [x] := by rw [e]; simp
    have := List.append_inj' e' rfl
    exact h p d s' this.1
theorem Good.put {l : List Int} {c : Int} (h : Good l) (hc : prt c = true ∧ ¬ (65 ≤ c ∧ c ≤ 90)) : Good (nput l c) := by
  unfold nput
  split
  · exact h
  · rename_i hn
    refine h.snoc hc (fun hc2 => ⟨fun e => hn ⟨hc2, .inl e⟩, fun e => hn ⟨hc2, .inr e⟩⟩)
theorem prt_iff {c : Int} : prt c = true ↔ 32 ≤ c ∧ c ≤ 126 := by unfold prt; simp
theorem up_good {c : Int} (h : prt c = true) : prt (up c) = true ∧ ¬ (65 ≤ up c ∧ up c ≤ 90) := by
  rw [prt_iff] at h ⊢
  unfold up
  split <;> omega
theorem Good.fold : ∀ (cs l : List Int), Good l → (∀ c ∈ cs, prt c = true) → Good (nfold l cs)
  | [], l, h, _ => h
  | c :: cs, l, h, hc => Good.fold cs _ (h.put (up_good (hc c (by simp)))) (fun x hx => hc x (by simp [hx]))
/-- What Norm gives: and no blank at the end. -/
def Normal (l : List Int) : Prop := Good l ∧ (l ≠ [] → rd l ((l.length : Int) - 1) ≠ 32) ∧ l.length ≤ 100
theorem Normal.nil : Normal [] := ⟨Good.nil, fun h => absurd rfl h, by simp⟩
theorem nfold_length : ∀ (cs l : List Int), (nfold l cs).length ≤ l.length + cs.length
  | [], l => by simp [nfold]
  | c :: cs, l => by
    have h1 := nfold_length cs (nput l (up c))
    have h2 := nput_length l (up c)
    have h3 : nfold l (c :: cs) = nfold (nput l (up c)) cs := rfl
    rw [h3, List.length_cons]; omega
theorem NormL_normal (s : ByteArray) : Normal (NormL s) := by
  unfold NormL
  split
  · rename_i h
    have hg : Good (nfold [] (bytesOf s)) := Good.fold _ _ Good.nil (by
      have := h.2
      unfold plainP at this
      exact List.all_eq_true.1 this)
    have hl := nfold_length (bytesOf s) []
    rw [bytesOf_length] at hl
    simp only [List.length_nil, Nat.zero_add] at hl
    generalize nfold [] (bytesOf s) = l at hg hl
    unfold ntrim
    split
    · rename_i h2
      have hp : 0 < l.length := List.length_pos_iff.2 h2.1
      refine ⟨hg.take _, fun hne => ?_, by rw [List.length_take]; omega⟩
      have e : l = l.take (l.length - 1) ++ [32] := by
        have := drop_last l hp
        rw [h2.2] at this
        conv => lhs; rw [← List.take_append_drop (l.length - 1) l]
        rw [this]
      exact ((hg _ _ _ e).2 rfl).2
    · rename_i h2
      exact ⟨hg, fun hne h3 => h2 ⟨hne, h3⟩, by omega⟩
  · exact Normal.nil
theorem Good.range {l : List Int} (h : Good l) : ∀ x ∈ l, 0 ≤ x ∧ x ≤ 255 := by
  intro x hx
  obtain ⟨p, s, e⟩ := List.append_of_mem hx
  have := (h p x s e).1.1
  rw [prt_iff] at this
  omega
theorem up_id {c : Int} (h : ¬ (65 ≤ c ∧ c ≤ 90)) : up c = c := by unfold up; rw [if_neg h]
theorem nput_snoc {p : List Int} {c : Int} (h : c = 32 → p ≠ [] ∧ rd p ((p.length : Int) - 1) ≠ 32) : nput p c = p ++ [c] := by
  unfold nput
  rw [if_neg]
  rintro ⟨hc, h1 | h2⟩
  · exact (h hc).1 h1
  · exact (h hc).2 h2
theorem Good.refold {l : List Int} (h : Good l) : ∀ (s p : List Int), l = p ++ s → nfold p s = l
  | [], p, e => by rw [e]; simp [nfold]
  | c :: s, p, e => by
    have hc := h p c s e
    have h3 : nfold p (c :: s) = nfold (nput p (up c)) s := rfl
    rw [h3, up_id hc.1.2, nput_snoc hc.2]
    exact Good.refold h s (p ++ [c]) (by rw [e]; simp)
theorem Normal.trim {l : List Int} (h : Normal l) : ntrim l = l := by
  unfold ntrim
  rw [if_neg (fun x => h.2.1 x.1 x.2)]
theorem Good.plain {l : List Int} (h : Good l) : plainP (strOfNums l) = true := by
  unfold plainP
  rw [bytesOf_son l h.range, List.all_eq_true]
  intro x hx
  obtain ⟨p, s, e⟩ := List.append_of_mem hx
  exact (h p x s e).1.1
theorem Normal.norm {l : List Int} (h : Normal l) : NormL (strOfNums l) = l := by
  unfold NormL
  rw [if_pos ⟨by rw [strOfNums_size]; exact h.2.2, h.1.plain⟩, bytesOf_son l h.1.range, h.1.refold l [] rfl, h.trim]
theorem NormP_idem (s : ByteArray) : NormP (NormP s) = NormP s := by
  unfold NormP
  rw [(NormL_normal s).norm]

/-! NameRight -/
def lowc (c : Int) : Bool := decide (97 ≤ c) && decide (c ≤ 122)
def nch (c : Int) : Bool := lowc c || (decide (48 ≤ c) && decide (c ≤ 57)) || decide (c = 95)
/-- What NameRight says. -/
def NameP (s : ByteArray) : Bool := decide (1 ≤ s.size) && decide (s.size ≤ 20) && lowc (bt s 0) && (bytesOf s).all nch
theorem spec_NameRight_l0 (s : ByteArray) (hs : s.size ≤ 20) : ∀ (d k : Nat) (i : Int), 0 ≤ i → i + d = s.size → d < k →
    spec_NameRight.l0 k s i = some ((decide (i ≠ 0) || decide (s.size = 0) || lowc (bt s 0)) && ((bytesOf s).drop i.toNat).all nch)
  | 0, k, i, h0, hi, hk => by
    obtain ⟨k, rfl⟩ : ∃ q, k = q + 1 := ⟨k - 1, by omega⟩
    rw [spec_NameRight.l0, if_neg (by omega), List.drop_of_length_le (by rw [bytesOf_length]; omega), List.all_nil, Bool.and_true]
    by_cases hz : i = 0
    · rw [decide_eq_true (p := s.size = 0) (by omega)]; simp
    · rw [decide_eq_true (p := i ≠ 0) hz]; rfl
  | d + 1, k, i, h0, hi, hk => by
    obtain ⟨k, rfl⟩ : ∃ q, k = q + 1 := ⟨k - 1, by omega⟩
    have ih := spec_NameRight_l0 s hs d k (i + 1) (by omega) (by omega) (by omega)
    rw [decide_eq_true (p := i + 1 ≠ 0) (by omega), Bool.true_or, Bool.true_or, Bool.true_and] at ih
    rw [spec_NameRight.l0, if_pos (by omega), if_pos h0, drop_bt s i h0 (by omega), List.all_cons, w64 (x := i + 1) (by omega) (by omega), ih, decide_eq_false (p := s.size = 0) (by omega), Bool.or_false]
    have hc := bt_range s i
    generalize hcg : bt s i = c at hc ⊢
    have h00 : i = 0 → lowc (bt s 0) = lowc c := fun e => by rw [← hcg, e]
    unfold nch lowc at *
    by_cases c1 : c ≥ 97
    · rw [if_pos c1, decide_eq_true (p := 97 ≤ c) c1]
      by_cases c2 : c ≤ 122
      · rw [if_pos c2, decide_eq_true c2]
        by_cases hz : i = 0
        · rw [h00 hz, decide_eq_true (p := 97 ≤ c) c1, decide_eq_true c2]; simp
        · rw [decide_eq_true (p := i ≠ 0) hz]; simp
      · rw [if_neg c2, decide_eq_false c2, decide_eq_false (p := c ≤ 57) (by omega), decide_eq_false (p := c = 95) (by omega)]
        by_cases hz : i = 0
        · rw [if_pos hz, h00 hz, decide_eq_false c2, decide_eq_false (p := i ≠ 0) (by omega)]; simp
        · rw [if_neg hz, if_pos (by omega), if_neg (by omega), if_neg (by omega)]; simp
    · rw [if_neg c1, decide_eq_false (p := 97 ≤ c) c1]
      by_cases hz : i = 0
      · rw [if_pos hz, h00 hz, decide_eq_false (p := 97 ≤ c) c1, decide_eq_false (p := i ≠ 0) (by omega)]; simp
      · rw [if_neg hz, decide_eq_true (p := i ≠ 0) hz]
        by_cases c3 : c ≥ 48
        · rw [if_pos c3, decide_eq_true (p := 48 ≤ c) c3]
          by_cases c4 : c ≤ 57
          · rw [if_pos c4, decide_eq_true c4]; simp
          · rw [if_neg c4, decide_eq_false c4]
            by_cases c5 : c = 95
            · rw [if_pos c5, decide_eq_true c5]; simp
            · rw [if_neg c5, decide_eq_false c5]; simp
        · rw [if_neg c3, decide_eq_false (p := 48 ≤ c) c3, if_neg (by omega), decide_eq_false (p := c = 95) (by omega)]; simp
theorem spec_NameRight_f (s : ByteArray) (k : Nat) (hk : 30 ≤ k) : spec_NameRight.f k s = some (NameP s) := by
  obtain ⟨k, rfl⟩ : ∃ q, k = q + 1 := ⟨k - 1, by omega⟩
  unfold spec_NameRight.f NameP
  by_cases h1 : (s.size : Int) < 1
  · rw [if_pos h1, spec_NameRight.j0, if_pos rfl, decide_eq_false (p := 1 ≤ s.size) (by omega)]; rfl
  · rw [if_neg h1, decide_eq_true (p := 1 ≤ s.size) (by omega)]
    by_cases h2 : (s.size : Int) > 20
    · rw [decide_eq_true h2, spec_NameRight.j0, if_pos rfl, decide_eq_false (p := s.size ≤ 20) (by omega)]; rfl
    · rw [decide_eq_false h2, spec_NameRight.j0, if_neg (by simp), decide_eq_true (p := s.size ≤ 20) (by omega), spec_NameRight_l0 s (by omega) s.size k 0 (by omega) (by omega) (by omega), decide_eq_false (p := s.size = 0) (by omega)]
      simp
theorem dw_nil {α : Type} (p : α → Bool) : ∀ l : List α, (∀ x ∈ l, p x = true) → l.dropWhile p = []
  | [], _ => rfl
  | a :: l, h => by
    rw [List.dropWhile_cons, if_pos (h a (by simp))]
    exact dw_nil p l (fun x hx => h x (List.mem_cons_of_mem _ hx))
theorem dw_all {α : Type} (p : α → Bool) : ∀ l : List α, (∀ x ∈ l.dropWhile p, p x = true) → ∀ x ∈ l, p x = true
  | [], _, x, hx => by cases hx
  | a :: l, h, x, hx => by
    rw [List.dropWhile_cons] at h
    by_cases ha : p a = true
    · rw [if_pos ha] at h
      rcases List.mem_cons.1 hx with e | e
      · rw [e]; exact ha
      · exact dw_all p l h x e
    · rw [if_neg ha] at h
      exact absurd (h a (by simp)) ha
theorem trim_nil (l cs : List UInt8) : (Lib.trimS l cs == ([] : List UInt8)) = l.all (cs.contains ·) := by
  have key : Lib.trimS l cs = [] ↔ ∀ x ∈ l, cs.contains x = true := by
    unfold Lib.trimS Lib.trimLeftS Lib.trimRightS
    constructor
    · intro h x hx
      refine dw_all (cs.contains ·) l.reverse (fun y hy => ?_) x (List.mem_reverse.2 hx)
      refine dw_all (cs.contains ·) (l.reverse.dropWhile (cs.contains ·)).reverse (fun z hz => ?_) y (List.mem_reverse.2 hy)
      rw [h] at hz; cases hz
    · intro h
      rw [dw_nil (cs.contains ·) l.reverse (fun x hx => h x (List.mem_reverse.1 hx))]; rfl
  by_cases h : Lib.trimS l cs = []
  · rw [h, List.all_eq_true.2 (key.1 h)]; rfl
  · rw [beq_eq_false_iff_ne.2 h]
    symm
    rw [Bool.eq_false_iff]
    exact fun h2 => h (key.2 (List.all_eq_true.1 h2))
theorem nch_contains (b : UInt8) : ([97, 98, 99, 100, 101, 102, 103, 104, 105, 106, 107, 108, 109, 110, 111, 112, 113, 114, 115, 116, 117, 118, 119, 120, 121, 122, 48, 49, 50, 51, 52, 53, 54, 55, 56, 57, 95] : List UInt8).contains b = nch b.toNat := by
  have key : ∀ z : Fin 256, ([97, 98, 99, 100, 101, 102, 103, 104, 105, 106, 107, 108, 109, 110, 111, 112, 113, 114, 115, 116, 117, 118, 119, 120, 121, 122, 48, 49, 50, 51, 52, 53, 54, 55, 56, 57, 95] : List UInt8).contains (UInt8.ofNat z.val) = nch (z.val : Nat) := by decide +kernel
  have := key ⟨b.toNat, b.toNat_lt⟩
  simpa using this
theorem impl_NameRight_f (s : ByteArray) : impl_NameRight.f s = some (NameP s) := by
  unfold impl_NameRight.f NameP
  by_cases h1 : (s.size : Int) ≥ 1
  · rw [if_pos h1, decide_eq_true (p := 1 ≤ s.size) (by omega)]
    by_cases h2 : (s.size : Int) ≤ 20
    · rw [if_pos h2, decide_eq_true (p := s.size ≤ 20) (by omega), if_pos (by omega)]
      unfold lowc
      by_cases h3 : bt s 0 ≥ 97
      · rw [if_pos h3, decide_eq_true (p := 97 ≤ bt s 0) h3]
        by_cases h4 : bt s 0 ≤ 122
        · rw [if_pos h4, decide_eq_true h4]
          unfold strings_Trim.f
          rw [if_pos ⟨by omega, by decide, by decide⟩]
          simp only [Option.bind_some, Bool.true_and]
          congr 1
          rw [Go.Lib.toList_data]
          show (Lib.trimS s.data.toList _ == []) = _
          rw [trim_nil]
          unfold bytesOf
          rw [List.all_map]
          congr 1
          funext b
          exact nch_contains b
        · rw [if_neg h4, decide_eq_false h4]; rfl
      · rw [if_neg h3, decide_eq_false (p := 97 ≤ bt s 0) h3]; rfl
    · rw [if_neg h2, decide_eq_false (p := s.size ≤ 20) (by omega)]; rfl
  · rw [if_neg h1, decide_eq_false (p := 1 ≤ s.size) (by omega)]; rfl

/-! values -/
/-- Is a text a value. -/
def ValueP (s : ByteArray) : Bool := decide (1 ≤ s.size) && decide (s.size ≤ 40) && ((NormP s).toList != ([] : List UInt8))
theorem spec_l02Value_f (s : ByteArray) (k : Nat) (hk : 100 ≤ k) : spec_l02Value.f k s = some (ValueP s) := by
  unfold spec_l02Value.f ValueP
  by_cases h1 : (s.size : Int) ≥ 1
  · by_cases h2 : (s.size : Int) ≤ 40
    · rw [if_pos h1, if_pos h2, spec_Norm_f s k (by omega), decide_eq_true (p := 1 ≤ s.size) (by omega), decide_eq_true (p := s.size ≤ 40) (by omega)]
      simp
    · rw [if_pos h1, if_neg h2, decide_eq_false (p := s.size ≤ 40) (by omega)]; simp
  · rw [if_neg h1, decide_eq_false (p := 1 ≤ s.size) (by omega)]; simp
theorem impl_isProper_f (s : ByteArray) (k : Nat) (hk : 100 ≤ k) : impl_isProper.f k s = some (ValueP s) := by
  unfold impl_isProper.f ValueP
  by_cases h1 : (s.size : Int) ≥ 1
  · by_cases h2 : (s.size : Int) ≤ 40
    · rw [if_pos h1, if_pos h2, impl_Norm_f s k (by omega), decide_eq_true (p := 1 ≤ s.size) (by omega), decide_eq_true (p := s.size ≤ 40) (by omega)]
      simp
    · rw [if_pos h1, if_neg h2, decide_eq_false (p := s.size ≤ 40) (by omega)]; simp
  · rw [if_neg h1, decide_eq_false (p := 1 ≤ s.size) (by omega)]; simp

/-! DnRight -/
abbrev Rd := S38
def RdnP (x : Rd) : Bool := NameP x.f0 && ValueP x.f1
/-- What DnRight says. -/
def DnP (l : List Rd) : Bool := decide (l.length ≤ 6) && l.all RdnP
theorem rd_drop (l : List Rd) (i : Int) (h0 : 0 ≤ i) (h1 : i < l.length) : l.drop i.toNat = rd_T38 l i :: l.drop (i + 1).toNat := by
  have hi : i.toNat < l.length := by omega
  rw [List.drop_eq_getElem_cons hi, show (i + 1).toNat = i.toNat + 1 by omega]
  congr 1
  unfold rd_T38
  rw [List.getD_eq_getElem?_getD, List.getElem?_eq_getElem hi]; rfl
theorem spec_DnRight_l0 (l : List Rd) (hl : (l.length : Int) ≤ 4611686018427387904) : ∀ (d k : Nat) (i : Int), 0 ≤ i → i + d = l.length → 100 + d < k →
    spec_DnRight.l0 k l i = some ((l.drop i.toNat).all RdnP && decide (l.length ≤ 6))
  | 0, k, i, h0, hi, hk => by
    obtain ⟨k, rfl⟩ : ∃ q, k = q + 1 := ⟨k - 1, by omega⟩
    rw [spec_DnRight.l0, if_neg (by omega), List.drop_of_length_le (by omega), List.all_nil, Bool.true_and]
    congr 1
    by_cases h6 : l.length ≤ 6
    · rw [decide_eq_true h6, decide_eq_true (by omega)]
    · rw [decide_eq_false h6, decide_eq_false (by omega)]
  | d + 1, k, i, h0, hi, hk => by
    obtain ⟨k, rfl⟩ : ∃ q, k = q + 1 := ⟨k - 1, by omega⟩
    rw [spec_DnRight.l0, if_pos (by omega), if_pos h0, rd_drop l i h0 (by omega), List.all_cons, spec_NameRight_f _ k (by omega), spec_l02Value_f _ k (by omega),
      w64 (x := i + 1) (by omega) (by omega), spec_DnRight_l0 l hl d k (i + 1) (by omega) (by omega) (by omega)]
    unfold RdnP
    cases NameP (rd_T38 l i).f0 <;> cases ValueP (rd_T38 l i).f1 <;> simp
theorem spec_DnRight_f (l : List Rd) (hl : (l.length : Int) ≤ 4611686018427387904) (k : Nat) (hk : 101 + l.length ≤ k) : spec_DnRight.f k l = some (DnP l) := by
  unfold spec_DnRight.f DnP
  rw [spec_DnRight_l0 l hl l.length k 0 (by omega) (by omega) (by omega)]
  simp [Bool.and_comm]
theorem impl_DnRight_1_f (a b : ByteArray) (k : Nat) (hk : 100 ≤ k) : impl_DnRight_1.f k a b = some (!(NameP a && ValueP b)) := by
  unfold impl_DnRight_1.f impl_isRdn.f
  rw [impl_NameRight_f, impl_isProper_f _ k hk]
  cases NameP a <;> cases ValueP b <;> rfl
theorem impl_DnRight_ix (k : Nat) (hk : 100 ≤ k) : ∀ (l : List Rd) (i : Int), 0 ≤ i → ∃ r, impl_DnRight.ix k l i = some r ∧ (!(decide (r ≥ 0))) = l.all RdnP
  | [], i, h0 => ⟨-1, rfl, rfl⟩
  | x :: xs, i, h0 => by
    simp only [impl_DnRight.ix]
    rw [impl_DnRight_1_f _ _ k hk, List.all_cons, Option.bind_some]
    unfold RdnP
    cases NameP x.f0 && ValueP x.f1 with
    | true => exact impl_DnRight_ix k hk xs (i + 1) (by omega)
    | false => exact ⟨i, rfl, by rw [decide_eq_true (p := i ≥ 0) h0]; rfl⟩
theorem impl_DnRight_f (l : List Rd) (k : Nat) (hk : 100 ≤ k) : impl_DnRight.f k l = some (DnP l) := by
  unfold impl_DnRight.f DnP
  by_cases h : (l.length : Int) ≤ 6
  · obtain ⟨r, e, h2⟩ := impl_DnRight_ix k hk l 0 (by omega)
    rw [if_pos h, e, Option.bind_some, h2, decide_eq_true (p := l.length ≤ 6) (by omega)]; rfl
  · rw [if_neg h, decide_eq_false (p := l.length ≤ 6) (by omega)]; rfl
theorem DnP_mem {l : List Rd} (h : DnP l = true) : l.length ≤ 6 ∧ ∀ x ∈ l, RdnP x = true := by
  unfold DnP at h
  simp only [Bool.and_eq_true, decide_eq_true_eq, List.all_eq_true] at h
  exact h

/-! sizes -/
theorem ValueP_size {s : ByteArray} (h : ValueP s = true) : 1 ≤ s.size ∧ s.size ≤ 40 := by
  unfold ValueP at h
  simp only [Bool.and_eq_true, decide_eq_true_eq] at h
  omega
theorem NameP_size {s : ByteArray} (h : NameP s = true) : 1 ≤ s.size ∧ s.size ≤ 20 := by
  unfold NameP at h
  simp only [Bool.and_eq_true, decide_eq_true_eq] at h
  omega
theorem RdnP_size {x : Rd} (h : RdnP x = true) : x.f0.size ≤ 20 ∧ x.f1.size ≤ 40 := by
  unfold RdnP at h
  simp only [Bool.and_eq_true] at h
  exact ⟨(NameP_size h.1).2, (ValueP_size h.2).2⟩
theorem rd_mem (l : List Rd) (i : Int) (h0 : 0 ≤ i) (h1 : i < l.length) : rd_T38 l i ∈ l := by
  have hi : i.toNat < l.length := by omega
  unfold rd_T38
  rw [List.getD_eq_getElem?_getD, List.getElem?_eq_getElem hi]
  exact List.getElem_mem hi

/-! DnKey, DnSame, DnUnder -/
def KeyP (l : List Rd) : ByteArray := l.reverse.foldl (fun x y => impl_dnKey.keyStep x y.f0 (NormP y.f1)) (⟨#[]⟩ : ByteArray)
theorem NormP_size (s : ByteArray) : (NormP s).size ≤ 100 := by
  unfold NormP
  rw [strOfNums_size]
  exact (NormL_normal s).2.2
theorem impl_dnKey_go (k : Nat) (hk : 100 ≤ k) : ∀ (l : List Rd) (x : ByteArray), (∀ y ∈ l, RdnP y = true) → impl_dnKey.go k l x = some (l.foldl (fun x y => impl_dnKey.keyStep x y.f0 (NormP y.f1)) x)
  | [], x, h => rfl
  | y :: ys, x, h => by
    have h1 := RdnP_size (h y (by simp))
    have h2 := NormP_size y.f1
    rw [impl_dnKey.go, impl_Norm_f _ _ (by omega), Option.bind_some, if_pos (by omega), impl_dnKey_go k hk ys _ (fun z hz => h z (List.mem_cons_of_mem _ hz))]
    rfl
theorem impl_dnKey_f (l : List Rd) (h : DnP l = true) (k : Nat) (hk : 100 ≤ k) : impl_dnKey.f k l = some (KeyP l) := by
  obtain ⟨hl, hr⟩ := DnP_mem h
  unfold impl_dnKey.f KeyP
  rw [if_pos (by omega), impl_dnKey_go k hk _ _ (fun y hy => hr y (List.mem_reverse.1 hy))]
/-- How many bytes 1 a text has. -/
def ones (s : ByteArray) : Nat := (bytesOf s).count 1
theorem bytesOf_append (a b : ByteArray) : bytesOf (a ++ b) = bytesOf a ++ bytesOf b := by
  unfold bytesOf
  rw [ba_data_append, List.map_append]
theorem ones_append (a b : ByteArray) : ones (a ++ b) = ones a + ones b := by
  unfold ones
  rw [bytesOf_append, List.count_append]
theorem ones_name {s : ByteArray} (h : NameP s = true) : ones s = 0 := by
  unfold ones
  rw [List.count_eq_zero]
  intro hm
  unfold NameP at h
  simp only [Bool.and_eq_true, List.all_eq_true] at h
  have := h.2 1 hm
  exact absurd this (by decide)
theorem ones_norm (s : ByteArray) : ones (NormP s) = 0 := by
  have hg := (NormL_normal s).1
  unfold ones NormP
  rw [bytesOf_son _ hg.range, List.count_eq_zero]
  intro hm
  obtain ⟨p, q, e⟩ := List.append_of_mem hm
  have := (hg p 1 q e).1.1
  exact absurd this (by decide)
theorem ones_step (x : ByteArray) (y : Rd) (h : RdnP y = true) : ones (impl_dnKey.keyStep x y.f0 (NormP y.f1)) = ones x + 1 := by
  unfold RdnP at h
  simp only [Bool.and_eq_true] at h
  unfold impl_dnKey.keyStep
  simp only [ones_append, ones_name h.1, ones_norm]
  rfl
theorem ones_fold : ∀ (l : List Rd) (x : ByteArray), (∀ y ∈ l, RdnP y = true) → ones (l.foldl (fun x y => impl_dnKey.keyStep x y.f0 (NormP y.f1)) x) = ones x + l.length
  | [], x, h => rfl
  | y :: ys, x, h => by
    rw [List.foldl_cons, ones_fold ys _ (fun z hz => h z (List.mem_cons_of_mem _ hz)), ones_step x y (h y (by simp)), List.length_cons]
    omega
theorem KeyP_ones {l : List Rd} (h : DnP l = true) : ones (KeyP l) = l.length := by
  unfold KeyP
  rw [ones_fold _ _ (fun y hy => (DnP_mem h).2 y (List.mem_reverse.1 hy)), List.length_reverse]
  show 0 + l.length = _
  omega
theorem KeyP_len {a b : List Rd} (ha : DnP a = true) (hb : DnP b = true) (h : (KeyP a).toList = (KeyP b).toList) : a.length = b.length := by
  rw [← KeyP_ones ha, ← KeyP_ones hb, ba_inj.1 h]
/-- Are two right DNs the same. -/
def sameP (a b : List Rd) : Bool := (KeyP a).toList == (KeyP b).toList
def underP (a b : List Rd) : Bool := decide (b.length ≤ a.length) && sameP (a.drop (a.length - b.length)) b
def SameP (a b : List Rd) : Bool := DnP a && DnP b && sameP a b
def UnderP (a b : List Rd) : Bool := DnP a && DnP b && underP a b
theorem DnP_drop {l : List Rd} (h : DnP l = true) (n : Nat) : DnP (l.drop n) = true := by
  obtain ⟨h1, h2⟩ := DnP_mem h
  unfold DnP
  rw [Bool.and_eq_true, decide_eq_true_eq, List.all_eq_true, List.length_drop]
  exact ⟨by omega, fun x hx => h2 x (List.mem_of_mem_drop hx)⟩

theorem impl_dnSame_f (a b : List Rd) (ha : DnP a = true) (hb : DnP b = true) (k : Nat) (hk : 100 ≤ k) : impl_dnSame.f k a b = some (sameP a b) := by
  unfold impl_dnSame.f sameP
  by_cases h : (a.length : Int) = (b.length : Int)
  · rw [if_pos h, impl_dnKey_f a ha k hk, Option.bind_some, impl_dnKey_f b hb k hk]; rfl
  · rw [if_neg h, beq_eq_false_iff_ne.2 (fun e => h (by rw [KeyP_len ha hb e]))]
theorem SameP_refl {a : List Rd} (h : DnP a = true) : SameP a a = true := by
  unfold SameP sameP
  rw [h]; simp

theorem impl_dnUnder_f (a b : List Rd) (ha : DnP a = true) (hb : DnP b = true) (k : Nat) (hk : 100 ≤ k) : impl_dnUnder.f k a b = some (underP a b) := by
  have h1 := (DnP_mem ha).1
  have h2 := (DnP_mem hb).1
  unfold impl_dnUnder.f underP
  by_cases h : b.length ≤ a.length
  · rw [if_pos (by omega), w64 (by omega) (by omega), if_pos (by omega), if_pos (by omega), show ((a.length : Int) - (b.length : Int)).toNat = a.length - b.length by omega, impl_dnSame_f _ b (DnP_drop ha _) hb k hk, decide_eq_true h]; rfl
  · rw [if_neg (by omega), decide_eq_false h]; rfl

theorem spec_l02Key_l0 (l : List Rd) (hl : l.length ≤ 6) (hr : ∀ x ∈ l, RdnP x = true) : ∀ (d k : Nat) (x : ByteArray) (i : Int), i + 1 = d → d ≤ l.length → 100 + d < k → x.size + 1000 * d ≤ 100000 →
    spec_l02Key.l0 k l x i = some ((l.take d).reverse.foldl (fun x y => impl_dnKey.keyStep x y.f0 (NormP y.f1)) x)
  | 0, k, x, i, hi, hd, hk, hx => by
    obtain ⟨k, rfl⟩ : ∃ q, k = q + 1 := ⟨k - 1, by omega⟩
    rw [spec_l02Key.l0, if_neg (by omega)]; rfl
  | d + 1, k, x, i, hi, hd, hk, hx => by
    obtain ⟨k, rfl⟩ : ∃ q, k = q + 1 := ⟨k - 1, by omega⟩
    have hm := rd_mem l i (by omega) (by omega)
    obtain ⟨s0, s1⟩ := RdnP_size (hr _ hm)
    have s2 := NormP_size (rd_T38 l i).f1
    have z1 : (⟨#[1]⟩ : ByteArray).size = 1 := rfl
    have z2 : (⟨#[61]⟩ : ByteArray).size = 1 := rfl
    have e : l.take (d + 1) = l.take d ++ [rd_T38 l i] := by
      rw [List.take_add_one]
      congr 1
      unfold rd_T38
      rw [show i.toNat = d by omega, List.getD_eq_getElem?_getD, List.getElem?_eq_getElem (by omega)]; rfl
    have hz := impl_dnKey.keyStep_size x (rd_T38 l i).f0 (NormP (rd_T38 l i).f1)
    rw [spec_l02Key.l0, if_pos (by omega), if_pos (by omega), if_pos (by omega), if_pos (by omega), if_pos (by simp only [ba_append_size, z1]; omega), if_pos (by simp only [ba_append_size, z1]; omega), spec_Norm_f _ _ (by omega), Option.bind_some,
      if_pos (by simp only [ba_append_size, z1, z2]; omega), w64 (x := i - 1) (by omega) (by omega)]
    have e2 : (((x ++ (⟨#[1]⟩ : ByteArray)) ++ (rd_T38 l i).f0) ++ (⟨#[61]⟩ : ByteArray)) ++ NormP (rd_T38 l i).f1 = impl_dnKey.keyStep x (rd_T38 l i).f0 (NormP (rd_T38 l i).f1) := by
      unfold impl_dnKey.keyStep
      simp only [ba_append_assoc]
    rw [e2, spec_l02Key_l0 l hl hr d k _ (i - 1) (by omega) (by omega) (by omega) (by omega), e, List.reverse_append]
    rfl
theorem spec_l02Key_f (l : List Rd) (h : DnP l = true) (k : Nat) (hk : 110 ≤ k) : spec_l02Key.f k l = some (KeyP l) := by
  obtain ⟨hl, hr⟩ := DnP_mem h
  unfold spec_l02Key.f KeyP
  rw [w64 (by omega) (by omega), spec_l02Key_l0 l hl hr l.length k _ ((l.length : Int) - 1) (by omega) (by omega) (by omega) (by rw [show (⟨#[]⟩ : ByteArray).size = 0 from rfl]; omega), List.take_length]

theorem impl_DnUnder_f (a b : List Rd) (k : Nat) (hk : 100 ≤ k) : impl_DnUnder.f k a b = some (UnderP a b) := by
  unfold impl_DnUnder.f UnderP
  rw [impl_DnRight_f _ _ (by omega), Option.bind_some]
  by_cases ha : DnP a = true
  · rw [if_pos ha, impl_DnRight_f _ _ (by omega), Option.bind_some]
    by_cases hb : DnP b = true
    · rw [if_pos hb, impl_dnUnder_f a b ha hb k hk, ha, hb]; rfl
    · rw [if_neg hb, Bool.eq_false_iff.2 hb]; simp
  · rw [if_neg ha, Bool.eq_false_iff.2 ha]; simp

theorem spec_DnUnder_f (a b : List Rd) (hA : a.length ≤ 4611686018427387904) (hB : b.length ≤ 4611686018427387904) (k : Nat) (hk : 600 + a.length + b.length ≤ k) : spec_DnUnder.f k a b = some (UnderP a b) := by
  obtain ⟨k, rfl⟩ : ∃ q, k = q + 1 := ⟨k - 1, by omega⟩
  have hl : ∀ l : List Rd, (l.length : Int) > 400 → DnP l = false := fun l h => Bool.eq_false_iff.2 (fun e => by have := (DnP_mem e).1; omega)
  unfold spec_DnUnder.f UnderP
  by_cases h1 : (a.length : Int) > 400
  · rw [if_pos h1, hl a h1, spec_DnUnder.j0, if_pos rfl]; simp
  · rw [if_neg h1]
    by_cases h2 : (b.length : Int) > 400
    · rw [if_pos h2, hl b h2, spec_DnUnder.j0, if_pos rfl]; simp
    · rw [if_neg h2, spec_DnRight_f _ (by omega) _ (by omega), Option.bind_some]
      by_cases ha : DnP a = true
      · rw [if_pos ha, spec_DnRight_f _ (by omega) _ (by omega), Option.bind_some]
        by_cases hb : DnP b = true
        · rw [if_pos hb, hb, ha, spec_DnUnder.j0]
          unfold underP
          by_cases h3 : b.length ≤ a.length
          · rw [decide_eq_false (by omega), if_neg (by simp), w64 (by omega) (by omega), if_pos (by omega), if_pos (by omega), show ((a.length : Int) - (b.length : Int)).toNat = a.length - b.length by omega,
              spec_l02Key_f _ (DnP_drop ha _) k (by omega), Option.bind_some, spec_l02Key_f b hb k (by omega), decide_eq_true h3]; rfl
          · rw [decide_eq_true (by omega), if_pos rfl, decide_eq_false h3]; rfl
        · rw [if_neg hb, Bool.eq_false_iff.2 hb, spec_DnUnder.j0, if_pos rfl]; simp
      · rw [if_neg ha, Bool.eq_false_iff.2 ha, spec_DnUnder.j0, if_pos rfl]; simp

theorem FnExactDnUnder : laws_FnExactDnUnder.Pure := by
  intro l l' ⟨hl, _⟩ ⟨hl', _⟩
  obtain ⟨K, hK⟩ : ∃ K : Nat, K = 281474976710656 := ⟨_, rfl⟩
  refine ⟨K, ?_⟩
  unfold laws_FnExactDnUnder.f
  obtain ⟨r, e⟩ := laws_szRdnS_f l (by omega) 1048576 K (by omega)
  obtain ⟨r', e'⟩ := laws_szRdnS_f l' (by omega) r K (by omega)
  have hto : laws_toRdnS.f K l = some (l.map cvRdn) := laws_toRdnS_f l (by omega) K (by omega)
  have hto' : laws_toRdnS.f K l' = some (l'.map cvRdn) := laws_toRdnS_f l' (by omega) K (by omega)
  rw [e, Option.bind_some]
  split
  · rfl
  · rw [e', Option.bind_some]
    split
    · rfl
    · rw [hto, hto', Option.bind_some, Option.bind_some]
      generalize hm : l.map cvRdn = m
      generalize hm' : l'.map cvRdn = m'
      have hml : m.length = l.length := by rw [← hm, List.length_map]
      have hml' : m'.length = l'.length := by rw [← hm', List.length_map]
      rw [spec_DnUnder_f m m' (by omega) (by omega) K (by omega), Option.bind_some, Option.bind_some, Option.bind_some, impl_DnUnder_f m m' _ (by omega), Option.bind_some, if_neg (by simp), Option.bind_some, laws_eqRdnS_f m (by omega) _ (by omega), Option.bind_some, if_pos rfl, Option.bind_some, laws_eqRdnS_f m' (by omega) _ (by omega), Option.bind_some, if_pos rfl]

end Go.Proofs.YticbafilcicdjaaDoor.Pure
