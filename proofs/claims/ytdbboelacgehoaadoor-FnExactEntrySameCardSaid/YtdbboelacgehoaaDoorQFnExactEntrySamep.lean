/- The law FnExactEntrySame answers true at every two entries: the program's EntrySame gives what the reference's gives. No condition. -/
import Derived.Test.YtdbboelacgehoaaDoorQFnExactEntrySamex16
import Derived.Laws.Bits64
import Derived.Lib.Strings
namespace Go.Proofs.YtdbboelacgehoaaDoor.Pure
open Go.RowKit Go.Proofs.YtdbboelacgehoaaDoor.PFnExactEntrySame Go.Proofs.YtdbboelacgehoaaDoorW.PrintWords Go.Proofs.YtdbboelacgehoaaDoorW.PrintLast
set_option linter.unusedVariables false
set_option linter.unusedSimpArgs false

/-! plain lemmas -/
theorem w64 {x : Int} (h0 : -9223372036854775808 ≤ x) (h1 : x ≤ 9223372036854775807) : wrap64 x = x := by unfold wrap64; omega
theorem u64w {x : Int} (h0 : 0 ≤ x) (h1 : x < 18446744073709551616) : IntKind.u64.wrap x = x := by rw [IntKind.wrap_u64]; omega
theorem son_append (xs ys : List Int) : strOfNums (xs ++ ys) = strOfNums xs ++ strOfNums ys := by
  unfold strOfNums
  apply ByteArray.ext
  simp
theorem ba_append_size (a b : ByteArray) : (a ++ b).size = a.size + b.size := by simp
theorem ba_append_assoc (a b c : ByteArray) : (a ++ b) ++ c = a ++ (b ++ c) := by
  apply ByteArray.ext
  simp
/-- The comparison at the end of a law. -/
theorem law_end {A B : Option ByteArray} {r : ByteArray} (hA : A = some r) (hB : B = some r) :
    (A.bind fun t => B.bind fun t' => if t'.toList = t.toList then some true else some false) = some true := by
  rw [hA, hB]; simp
theorem wf_i64 {n : Int} (h : (Lit.int .i64 n).wf = true) : -9223372036854775808 ≤ n ∧ n ≤ 9223372036854775807 := by
  simpa [Lit.wf, IntKind.min, IntKind.max, IntKind.bits, IntKind.signed] using h
/-- The same of two numbers. -/
theorem law_endI {A B : Option Int} {r : Int} (hA : A = some r) (hB : B = some r) :
    (A.bind fun t => B.bind fun t' => if t' = t then some true else some false) = some true := by
  rw [hA, hB]; simp

/-! strings of bytes -/
theorem ba_ext {a b : ByteArray} (h : a.data.toList = b.data.toList) : a = b := ByteArray.ext (Array.toList_inj.1 h)
theorem ba_inj {a b : ByteArray} : a.toList = b.toList ↔ a = b :=
  ⟨fun h => ba_ext (by rwa [Go.Lib.toList_data, Go.Lib.toList_data] at h), fun h => by rw [h]⟩
theorem ba_data_append (a b : ByteArray) : (a ++ b).data.toList = a.data.toList ++ b.data.toList := by simp
theorem ba_data_extract (s : ByteArray) (i j : Nat) : (s.extract i j).data.toList = (s.data.toList.drop i).take (j - i) := Go.Lib.extract_data s i j
theorem ba_split (s : ByteArray) (m : Nat) : s.extract 0 m ++ s.extract m s.size = s := by
  apply ba_ext
  rw [ba_data_append, ba_data_extract, ba_data_extract, Nat.sub_zero, List.drop_zero]
  rw [List.take_of_length_le (l := s.data.toList.drop m) (by rw [List.length_drop, data_length]; omega), List.take_append_drop]
theorem ba_append_inj {a b c : ByteArray} : a ++ b = a ++ c ↔ b = c := by
  constructor
  · intro h
    have h2 := congrArg (fun x : ByteArray => x.data.toList) h
    simp only [ba_data_append] at h2
    exact ba_ext (List.append_cancel_left h2)
  · intro h; rw [h]
theorem son_bytesOf (s : ByteArray) : strOfNums (bytesOf s) = s := by
  apply ba_ext
  rw [strOfNums_data, bytesOf, List.map_map]
  conv => rhs; rw [← List.map_id s.data.toList]
  apply List.map_congr_left
  intro b _
  simp
theorem ext_son (s : ByteArray) (i j : Nat) : s.extract i j = strOfNums (((bytesOf s).drop i).take (j - i)) := by
  apply ba_ext
  rw [ba_data_extract, strOfNums_data, List.map_take, List.map_drop]
  congr 2
  have := congrArg (fun x : ByteArray => x.data.toList) (son_bytesOf s)
  simp only [strOfNums_data] at this
  exact this.symm
theorem ba_extract_size (s : ByteArray) (i j : Nat) (hj : j ≤ s.size) : (s.extract i j).size = j - i := by
  rw [ByteArray.size_extract]; omega
theorem ba_nil_data : (⟨#[]⟩ : ByteArray).data.toList = [] := rfl
theorem ba_size0 {s : ByteArray} (h : s.size = 0) : s = ⟨#[]⟩ := by
  apply ba_ext
  rw [ba_nil_data]
  exact List.eq_nil_of_length_eq_zero (by rw [data_length]; exact h)
theorem bytesOf_son (l : List Int) (h : ∀ x ∈ l, 0 ≤ x ∧ x ≤ 255) : bytesOf (strOfNums l) = l := by
  unfold bytesOf
  rw [strOfNums_data, List.map_map]
  conv => rhs; rw [← List.map_id l]
  apply List.map_congr_left
  intro x hx
  have := h x hx
  simp only [Function.comp, id]
  rw [UInt8.toNat_ofNat']
  omega

theorem drop_bt (s : ByteArray) (i : Int) (h0 : 0 ≤ i) (h1 : i < s.size) : (bytesOf s).drop i.toNat = bt s i :: (bytesOf s).drop (i + 1).toNat := by
  have hl : i.toNat < (bytesOf s).length := by rw [bytesOf_length]; omega
  rw [List.drop_eq_getElem_cons hl, ← rd_bytesOf, show (i + 1).toNat = i.toNat + 1 by omega]
  congr 1
  unfold rd
  rw [List.getD_eq_getElem?_getD, List.getElem?_eq_getElem hl]; rfl

/-! loops that go over a row once -/
theorem some_loop {ρ : Type} (n : Nat) (hn : (n : Int) ≤ 4611686018427387904) (K : Nat) (g : Nat → Int → Int → Option ρ)
    (step : ∀ (k : Nat) (a i : Int), K ≤ k → 0 ≤ i → i < n → (∃ r, g (k + 1) a i = some r) ∨ ∃ a', g (k + 1) a i = g k a' (wrap64 (i + 1)))
    (fin : ∀ (k : Nat) (a i : Int), K ≤ k → 0 ≤ i → (n : Int) ≤ i → ∃ r, g (k + 1) a i = some r) :
    ∀ (d k : Nat) (a i : Int), 0 ≤ i → i + d = n → K + d < k → ∃ r, g k a i = some r
  | 0, k, a, i, h0, hi, hk => by
    obtain ⟨k, rfl⟩ : ∃ q, k = q + 1 := ⟨k - 1, by omega⟩
    exact fin k a i (by omega) h0 (by omega)
  | d + 1, k, a, i, h0, hi, hk => by
    obtain ⟨k, rfl⟩ : ∃ q, k = q + 1 := ⟨k - 1, by omega⟩
    rcases step k a i (by omega) h0 (by omega) with h | ⟨a', e⟩
    · exact h
    · rw [e, w64 (x := i + 1) (by omega) (by omega)]
      exact some_loop n hn K g step fin d k a' (i + 1) (by omega) (by omega) (by omega)
theorem skip_loop {ρ : Type} (r : ρ) (n : Nat) (hn : (n : Int) ≤ 4611686018427387904) (K : Nat) (g : Nat → Int → Option ρ)
    (step : ∀ (k : Nat) (i : Int), K ≤ k → 0 ≤ i → i < n → g (k + 1) i = g k (wrap64 (i + 1)))
    (fin : ∀ (k : Nat) (i : Int), K ≤ k → 0 ≤ i → (n : Int) ≤ i → g (k + 1) i = some r) :
    ∀ (d k : Nat) (i : Int), 0 ≤ i → i + d = n → K + d < k → g k i = some r
  | 0, k, i, h0, hi, hk => by
    obtain ⟨k, rfl⟩ : ∃ q, k = q + 1 := ⟨k - 1, by omega⟩
    exact fin k i (by omega) h0 (by omega)
  | d + 1, k, i, h0, hi, hk => by
    obtain ⟨k, rfl⟩ : ∃ q, k = q + 1 := ⟨k - 1, by omega⟩
    rw [step k i (by omega) h0 (by omega), w64 (x := i + 1) (by omega) (by omega)]
    exact skip_loop r n hn K g step fin d k (i + 1) (by omega) (by omega) (by omega)
theorem copy_loop {β : Type} (n : Nat) (hn : (n : Int) ≤ 4611686018427387904) (src : Nat → β) (K : Nat) (g : Nat → List β → Int → Option (List β))
    (step : ∀ (k : Nat) (x : List β) (i : Int), K ≤ k → 0 ≤ i → i < n → x.length = n → g (k + 1) x i = g k (x.set i.toNat (src i.toNat)) (wrap64 (i + 1)))
    (fin : ∀ (k : Nat) (x : List β) (i : Int), (n : Int) ≤ i → g (k + 1) x i = some x) :
    ∀ (d k : Nat) (x : List β) (i : Int), 0 ≤ i → i + d = n → K + d < k → x.length = n → g k x i = some (x.take i.toNat ++ (List.range' i.toNat d).map src)
  | 0, k, x, i, h0, hi, hk, hx => by
    obtain ⟨k, rfl⟩ : ∃ q, k = q + 1 := ⟨k - 1, by omega⟩
    rw [fin k x i (by omega), List.take_of_length_le (by omega)]
    simp
  | d + 1, k, x, i, h0, hi, hk, hx => by
    obtain ⟨k, rfl⟩ : ∃ q, k = q + 1 := ⟨k - 1, by omega⟩
    rw [step k x i (by omega) h0 (by omega) hx, w64 (x := i + 1) (by omega) (by omega),
      copy_loop n hn src K g step fin d k _ (i + 1) (by omega) (by omega) (by omega) (by rw [List.length_set]; exact hx)]
    congr 1
    rw [show (i + 1).toNat = i.toNat + 1 by omega, List.range'_succ, List.map_cons, List.take_succ_eq_append_getElem (by rw [List.length_set]; omega), List.getElem_set_self, List.take_set_of_le (by omega), List.append_assoc]
    rfl
theorem copy_all {β : Type} (n : Nat) (hn : (n : Int) ≤ 4611686018427387904) (src : Nat → β) (K : Nat) (g : Nat → List β → Int → Option (List β)) (z : β)
    (step : ∀ (k : Nat) (x : List β) (i : Int), K ≤ k → 0 ≤ i → i < n → x.length = n → g (k + 1) x i = g k (x.set i.toNat (src i.toNat)) (wrap64 (i + 1)))
    (fin : ∀ (k : Nat) (x : List β) (i : Int), (n : Int) ≤ i → g (k + 1) x i = some x) (k : Nat) (hk : K + n < k) :
    g k (List.replicate n z) 0 = some ((List.range n).map src) := by
  rw [copy_loop n hn src K g step fin n k _ 0 (by omega) (by omega) hk (by simp)]
  simp [List.range_eq_range']
theorem range_map_getD {α β : Type} (l : List α) (z : α) (f : α → β) : (List.range l.length).map (fun j => f (l.getD j z)) = l.map f := by
  apply List.ext_getElem
  · simp
  · intro i h1 h2
    simp only [List.getElem_map, List.getElem_range]
    rw [List.getD_eq_getElem?_getD, List.getElem?_eq_getElem (by simpa using h1)]
    rfl
theorem all_loop (fin : Bool) (f : Nat → Bool) (n : Nat) (hn : (n : Int) ≤ 4611686018427387904) (K : Nat) (g : Nat → Int → Option Bool)
    (step : ∀ (k : Nat) (i : Int), K ≤ k → 0 ≤ i → i < n → g (k + 1) i = if f i.toNat = true then g k (wrap64 (i + 1)) else some false)
    (hfin : ∀ (k : Nat) (i : Int), K ≤ k → 0 ≤ i → (n : Int) ≤ i → g (k + 1) i = some fin) :
    ∀ (d k : Nat) (i : Int), 0 ≤ i → i + d = n → K + d < k → g k i = some ((List.range' i.toNat d).all f && fin)
  | 0, k, i, h0, hi, hk => by
    obtain ⟨k, rfl⟩ : ∃ q, k = q + 1 := ⟨k - 1, by omega⟩
    rw [hfin k i (by omega) h0 (by omega)]; simp
  | d + 1, k, i, h0, hi, hk => by
    obtain ⟨k, rfl⟩ : ∃ q, k = q + 1 := ⟨k - 1, by omega⟩
    rw [step k i (by omega) h0 (by omega), w64 (x := i + 1) (by omega) (by omega), List.range'_succ, List.all_cons]
    cases hf : f i.toNat with
    | false => simp
    | true =>
      rw [if_pos rfl, all_loop fin f n hn K g step hfin d k (i + 1) (by omega) (by omega) (by omega), show (i + 1).toNat = i.toNat + 1 by omega]
      simp

/-! lists of RDNs: brought over, held beside each other, weighed -/
def cvRdn (x : S50) : S42 := ⟨x.f0, x.f1⟩
theorem laws_szRdnS_f (l : List S50) (hl : (l.length : Int) ≤ 4611686018427387904) (a : Int) (k : Nat) (hk : l.length < k) : ∃ r, laws_szRdnS.f k l a = some r := by
  unfold laws_szRdnS.f
  split
  · exact ⟨_, rfl⟩
  · refine some_loop l.length hl 0 (fun k a i => laws_szRdnS.l0 k l a i) (fun k a i _ h0 hi => ?_) (fun k a i _ h0 hi => ?_) l.length k _ 0 (by omega) (by omega) (by omega)
    · show (∃ r, laws_szRdnS.l0 (k + 1) l a i = some r) ∨ ∃ a', laws_szRdnS.l0 (k + 1) l a i = laws_szRdnS.l0 k l a' (wrap64 (i + 1))
      rw [laws_szRdnS.l0, if_pos hi, if_pos h0]
      unfold laws_szRdn.f
      repeat' split
      all_goals simp only [Option.bind_some]
      all_goals (try split)
      all_goals first | exact .inl ⟨_, rfl⟩ | exact .inr ⟨_, rfl⟩
    · show ∃ r, laws_szRdnS.l0 (k + 1) l a i = some r
      rw [laws_szRdnS.l0, if_neg (by omega)]
      exact ⟨_, rfl⟩
theorem laws_toRdnS_f (l : List S50) (hl : l.length ≤ 8796093022208) (k : Nat) (hk : l.length < k) : laws_toRdnS.f k l = some (l.map cvRdn) := by
  unfold laws_toRdnS.f
  rw [if_pos (by omega), if_pos (by omega), show ((l.length : Int)).toNat = l.length from rfl,
    copy_all l.length (by omega) (fun j => cvRdn (l.getD j z50)) 0 (fun k x i => laws_toRdnS.l0 k l x i) z42 (fun k x i _ h0 hi hx => ?_) (fun k x i hi => ?_) k (by omega), range_map_getD]
  · show laws_toRdnS.l0 (k + 1) l x i = _
    rw [laws_toRdnS.l0, if_pos hi, if_pos h0]
    unfold laws_toRdn.f
    simp only [Option.bind_some]
    rw [if_pos (by omega)]
    rfl
  · show laws_toRdnS.l0 (k + 1) l x i = _
    rw [laws_toRdnS.l0, if_neg (by omega)]

/-! lists of RDNs held beside each other -/
theorem laws_eqRdnS_f (l : List S42) (hl : (l.length : Int) ≤ 4611686018427387904) (k : Nat) (hk : l.length < k) : laws_eqRdnS.f k l l = some true := by
  unfold laws_eqRdnS.f
  rw [if_pos rfl]
  refine skip_loop true l.length hl 0 (fun k i => laws_eqRdnS.l0 k l l i) (fun k i _ h0 hi => ?_) (fun k i _ h0 hi => ?_) l.length k 0 (by omega) (by omega) (by omega)
  · show laws_eqRdnS.l0 (k + 1) l l i = laws_eqRdnS.l0 k l l (wrap64 (i + 1))
    rw [laws_eqRdnS.l0, if_pos hi, if_pos h0, if_pos hi]
    unfold laws_eqRdn.f
    rw [if_pos rfl, if_pos rfl]
    simp
  · show laws_eqRdnS.l0 (k + 1) l l i = _
    rw [laws_eqRdnS.l0, if_neg (by omega)]

/-! lists of strings -/
theorem laws_szStringS_f (l : List ByteArray) (hl : (l.length : Int) ≤ 4611686018427387904) (a : Int) (k : Nat) (hk : l.length < k) : ∃ r, laws_szStringS.f k l a = some r := by
  unfold laws_szStringS.f
  split
  · exact ⟨_, rfl⟩
  · refine some_loop l.length hl 0 (fun k a i => laws_szStringS.l0 k l a i) (fun k a i _ h0 hi => ?_) (fun k a i _ h0 hi => ?_) l.length k _ 0 (by omega) (by omega) (by omega)
    · show (∃ r, laws_szStringS.l0 (k + 1) l a i = some r) ∨ ∃ a', laws_szStringS.l0 (k + 1) l a i = laws_szStringS.l0 k l a' (wrap64 (i + 1))
      rw [laws_szStringS.l0, if_pos hi, if_pos h0]
      repeat' split
      all_goals first | exact .inl ⟨_, rfl⟩ | exact .inr ⟨_, rfl⟩
    · show ∃ r, laws_szStringS.l0 (k + 1) l a i = some r
      rw [laws_szStringS.l0, if_neg (by omega)]
      exact ⟨_, rfl⟩
theorem laws_toStringS_f (l : List ByteArray) (hl : l.length ≤ 17592186044416) (k : Nat) (hk : l.length < k) : laws_toStringS.f k l = some l := by
  unfold laws_toStringS.f
  rw [if_pos (by omega), if_pos (by omega), show ((l.length : Int)).toNat = l.length from rfl,
    copy_all l.length (by omega) (fun j => id (l.getD j ByteArray.empty)) 0 (fun k x i => laws_toStringS.l0 k l x i) (⟨#[]⟩ : ByteArray) (fun k x i _ h0 hi hx => ?_) (fun k x i hi => ?_) k (by omega), range_map_getD]
  · rw [List.map_id]
  · show laws_toStringS.l0 (k + 1) l x i = _
    rw [laws_toStringS.l0, if_pos hi, if_pos h0, if_pos (by omega)]
    rfl
  · show laws_toStringS.l0 (k + 1) l x i = _
    rw [laws_toStringS.l0, if_neg (by omega)]
theorem laws_eqStringS_f (l : List ByteArray) (hl : (l.length : Int) ≤ 4611686018427387904) (k : Nat) (hk : l.length < k) : laws_eqStringS.f k l l = some true := by
  unfold laws_eqStringS.f
  rw [if_pos rfl]
  refine skip_loop true l.length hl 0 (fun k i => laws_eqStringS.l0 k l l i) (fun k i _ h0 hi => ?_) (fun k i _ h0 hi => ?_) l.length k 0 (by omega) (by omega) (by omega)
  · show laws_eqStringS.l0 (k + 1) l l i = laws_eqStringS.l0 k l l (wrap64 (i + 1))
    rw [laws_eqStringS.l0, if_pos hi, if_pos h0, if_pos hi]
    simp
  · show laws_eqStringS.l0 (k + 1) l l i = _
    rw [laws_eqStringS.l0, if_neg (by omega)]

/-! lists of attributes: brought over, held beside each other, weighed -/
abbrev At := S114
def cvAttr (x : S140) : At := ⟨x.f0, x.f1⟩
theorem laws_szAttrS_f (l : List S140) (hl : (l.length : Int) ≤ 4611686018427387904) (a : Int) (M : Nat) (hM : ∀ x ∈ l, x.f1.length ≤ M ∧ (x.f1.length : Int) ≤ 4611686018427387904) (k : Nat) (hk : l.length + M + 1 < k) : ∃ r, laws_szAttrS.f k l a = some r := by
  unfold laws_szAttrS.f
  split
  · exact ⟨_, rfl⟩
  · refine some_loop l.length hl (M + 1) (fun k a i => laws_szAttrS.l0 k l a i) (fun k a i hk h0 hi => ?_) (fun k a i _ h0 hi => ?_) l.length k _ 0 (by omega) (by omega) (by omega)
    · show (∃ r, laws_szAttrS.l0 (k + 1) l a i = some r) ∨ ∃ a', laws_szAttrS.l0 (k + 1) l a i = laws_szAttrS.l0 k l a' (wrap64 (i + 1))
      have hmem : rd_T140 l i ∈ l := by
        have hi2 : i.toNat < l.length := by omega
        unfold rd_T140
        rw [List.getD_eq_getElem?_getD, List.getElem?_eq_getElem hi2]
        exact List.getElem_mem hi2
      obtain ⟨m1, m2⟩ := hM _ hmem
      rw [laws_szAttrS.l0, if_pos hi, if_pos h0]
      unfold laws_szAttr.f
      split
      · simp only [Option.bind_some]
        rw [if_pos (by omega)]
        exact .inl ⟨_, rfl⟩
      · obtain ⟨r, e⟩ := laws_szStringS_f (rd_T140 l i).f1 m2 (wrap64 (a - ((rd_T140 l i).f0.size : Int))) k (by omega)
        rw [e]
        simp only [Option.bind_some]
        by_cases h : r < 0
        · rw [if_pos h]
          simp only [Option.bind_some]
          rw [if_pos (by omega)]
          exact .inl ⟨_, rfl⟩
        · rw [if_neg h]
          simp only [Option.bind_some]
          rw [if_neg h]
          exact .inr ⟨_, rfl⟩
    · show ∃ r, laws_szAttrS.l0 (k + 1) l a i = some r
      rw [laws_szAttrS.l0, if_neg (by omega)]
      exact ⟨_, rfl⟩
theorem laws_toAttrS_f (l : List S140) (hl : l.length ≤ 7036874417766) (M : Nat) (hM : ∀ x ∈ l, x.f1.length ≤ M ∧ x.f1.length ≤ 17592186044416) (k : Nat) (hk : l.length + M + 1 < k) : laws_toAttrS.f k l = some (l.map cvAttr) := by
  unfold laws_toAttrS.f
  rw [if_pos (by omega), if_pos (by omega), show ((l.length : Int)).toNat = l.length from rfl,
    copy_all l.length (by omega) (fun j => cvAttr (l.getD j z140)) (M + 1) (fun k x i => laws_toAttrS.l0 k l x i) z114 (fun k x i hk h0 hi hx => ?_) (fun k x i hi => ?_) k (by omega), range_map_getD]
  · show laws_toAttrS.l0 (k + 1) l x i = _
    have hmem : rd_T140 l i ∈ l := by
      have hi2 : i.toNat < l.length := by omega
      unfold rd_T140
      rw [List.getD_eq_getElem?_getD, List.getElem?_eq_getElem hi2]
      exact List.getElem_mem hi2
    obtain ⟨m1, m2⟩ := hM _ hmem
    rw [laws_toAttrS.l0, if_pos hi, if_pos h0]
    unfold laws_toAttr.f
    rw [laws_toStringS_f _ m2 k (by omega)]
    simp only [Option.bind_some]
    rw [if_pos (by omega)]
    rfl
  · show laws_toAttrS.l0 (k + 1) l x i = _
    rw [laws_toAttrS.l0, if_neg (by omega)]
theorem laws_eqAttrS_f (l : List At) (hl : (l.length : Int) ≤ 4611686018427387904) (M : Nat) (hM : ∀ x ∈ l, x.f1.length ≤ M ∧ (x.f1.length : Int) ≤ 4611686018427387904) (k : Nat) (hk : l.length + M + 1 < k) : laws_eqAttrS.f k l l = some true := by
  unfold laws_eqAttrS.f
  rw [if_pos rfl]
  refine skip_loop true l.length hl (M + 1) (fun k i => laws_eqAttrS.l0 k l l i) (fun k i hk h0 hi => ?_) (fun k i _ h0 hi => ?_) l.length k 0 (by omega) (by omega) (by omega)
  · show laws_eqAttrS.l0 (k + 1) l l i = laws_eqAttrS.l0 k l l (wrap64 (i + 1))
    have hmem : rd_T114 l i ∈ l := by
      have hi2 : i.toNat < l.length := by omega
      unfold rd_T114
      rw [List.getD_eq_getElem?_getD, List.getElem?_eq_getElem hi2]
      exact List.getElem_mem hi2
    obtain ⟨m1, m2⟩ := hM _ hmem
    rw [laws_eqAttrS.l0, if_pos hi, if_pos h0, if_pos hi]
    unfold laws_eqAttr.f
    rw [if_pos rfl, laws_eqStringS_f _ m2 k (by omega)]
    simp
  · show laws_eqAttrS.l0 (k + 1) l l i = _
    rw [laws_eqAttrS.l0, if_neg (by omega)]

/-! Norm -/
/-- A capital as a small letter. -/
def up (c : Int) : Int := if 65 ≤ c ∧ c ≤ 90 then c + 32 else c
/-- A byte put behind what is there: no blank at the begin, none behind another. -/
def nput (l : List Int) (c : Int) : List Int := if c = 32 ∧ (l = [] ∨ rd l ((l.length : Int) - 1) = 32) then l else l ++ [c]
def nfold (l cs : List Int) : List Int := cs.foldl (fun l c => nput l (up c)) l
def ntrim (l : List Int) : List Int := if l ≠ [] ∧ rd l ((l.length : Int) - 1) = 32 then l.take (l.length - 1) else l
def prt (c : Int) : Bool := decide (32 ≤ c) && decide (c ≤ 126)
theorem prt_lo {c : Int} (h : c < 32) : prt c = false := by unfold prt; rw [decide_eq_false (by omega)]; rfl
theorem prt_hi {c : Int} (h : c > 126) : prt c = false := by unfold prt; rw [decide_eq_false (p := c ≤ 126) (by omega)]; simp
def plainP (s : ByteArray) : Bool := (bytesOf s).all prt
def NormL (s : ByteArray) : List Int := if s.size ≤ 100 ∧ plainP s = true then ntrim (nfold [] (bytesOf s)) else []
def NormP (s : ByteArray) : ByteArray := strOfNums (NormL s)
theorem son_nil : strOfNums [] = (⟨#[]⟩ : ByteArray) := rfl
theorem spec_l02Plain_l0 (s : ByteArray) (hs : s.size ≤ 4611686018427387904) : ∀ (d k : Nat) (i : Int), 0 ≤ i → i + d = s.size → d < k →
    spec_l02Plain.l0 k s i = some (((bytesOf s).drop i.toNat).all prt)
  | 0, k, i, h0, hd, hk => by
    obtain ⟨k, rfl⟩ : ∃ m, k = m + 1 := ⟨k - 1, by omega⟩
    simp only [spec_l02Plain.l0]
    rw [if_neg (by omega), List.drop_of_length_le (by rw [bytesOf_length]; omega)]; rfl
  | d + 1, k, i, h0, hd, hk => by
    obtain ⟨k, rfl⟩ : ∃ m, k = m + 1 := ⟨k - 1, by omega⟩
    simp only [spec_l02Plain.l0]
    rw [if_pos (by omega), if_pos h0, drop_bt s i h0 (by omega), List.all_cons]
    by_cases h1 : bt s i < 32
    · rw [if_pos h1, show prt (bt s i) = false from prt_lo h1]; rfl
    · rw [if_neg h1]
      by_cases h2 : bt s i > 126
      · rw [if_pos h2, show prt (bt s i) = false from prt_hi h2]; rfl
      · rw [if_neg h2, w64 (by omega) (by omega), spec_l02Plain_l0 s hs d k (i + 1) (by omega) (by omega) (by omega)]
        simp [prt, show 32 ≤ bt s i by omega, show bt s i ≤ 126 by omega]
theorem spec_l02Plain_f (s : ByteArray) (hs : s.size ≤ 4611686018427387904) (k : Nat) (hk : s.size < k) : spec_l02Plain.f k s = some (plainP s) := by
  unfold spec_l02Plain.f
  rw [spec_l02Plain_l0 s hs s.size k 0 (by omega) (by omega) hk]; rfl
theorem impl_isPrintable_l0 (s : ByteArray) (hs : s.size ≤ 4611686018427387904) : ∀ (d k : Nat) (i : Int), 0 ≤ i → i + d = s.size → d < k →
    impl_isPrintable.l0 k s (s.size : Int) i = some (((bytesOf s).drop i.toNat).all prt)
  | 0, k, i, h0, hd, hk => by
    obtain ⟨k, rfl⟩ : ∃ m, k = m + 1 := ⟨k - 1, by omega⟩
    simp only [impl_isPrintable.l0]
    rw [if_neg (by omega), List.drop_of_length_le (by rw [bytesOf_length]; omega)]; rfl
  | d + 1, k, i, h0, hd, hk => by
    obtain ⟨k, rfl⟩ : ∃ m, k = m + 1 := ⟨k - 1, by omega⟩
    simp only [impl_isPrintable.l0]
    rw [if_pos (by omega), if_pos h0, if_pos (by omega), drop_bt s i h0 (by omega), List.all_cons]
    by_cases h1 : bt s i < 32
    · rw [if_pos h1, show prt (bt s i) = false from prt_lo h1]; rfl
    · rw [if_neg h1]
      by_cases h2 : bt s i > 126
      · rw [if_pos h2, show prt (bt s i) = false from prt_hi h2]; rfl
      · rw [if_neg h2, w64 (by omega) (by omega), impl_isPrintable_l0 s hs d k (i + 1) (by omega) (by omega) (by omega)]
        simp [prt, show 32 ≤ bt s i by omega, show bt s i ≤ 126 by omega]
theorem impl_isPrintable_f (s : ByteArray) (hs : s.size ≤ 4611686018427387904) (k : Nat) (hk : s.size < k) : impl_isPrintable.f k s = some (plainP s) := by
  unfold impl_isPrintable.f
  rw [impl_isPrintable_l0 s hs s.size k 0 (by omega) (by omega) hk]; rfl
theorem nput_length (l : List Int) (c : Int) : (nput l c).length ≤ l.length + 1 := by
  unfold nput; split <;> simp
theorem up_of {c : Int} (h0 : 0 ≤ c) (h1 : c ≤ 255) (b : Bool) (hb : b = (decide (c ≥ 65) && decide (c ≤ 90))) : (if b = true then (c + 32) % 256 else c) = up c := by
  unfold up
  subst hb
  by_cases h : 65 ≤ c ∧ c ≤ 90
  · rw [if_pos h, if_pos (by simp [h.1, h.2])]; omega
  · rw [if_neg h, if_neg (by simpa using h)]
theorem spec_Norm_j2 (k : Nat) (s : ByteArray) (l : List Int) (i c : Int) (b : Bool) (hl : l.length < 1000) (h0 : 0 ≤ i) (h1 : i < 1000) :
    spec_Norm.j2 (k + 1) s l i c b = spec_Norm.l0 k s (nput l (if b = true then (c + 32) % 256 else c)) (i + 1) := by
  simp only [spec_Norm.j2]
  rw [w64 (x := i + 1) (by omega) (by omega), w64 (x := (l.length : Int) - 1) (by omega) (by omega), if_pos (show l.length < 140737488355328 by omega), if_pos (show l.length < 140737488355328 by omega)]
  have key : ∀ c : Int, (if c = 32 then (if (l.length : Int) = 0 then spec_Norm.l0 k s l (i + 1) else (if 0 ≤ (l.length : Int) - 1 then (if (l.length : Int) - 1 < (l.length : Int) then (if rd l ((l.length : Int) - 1) = 32 then spec_Norm.l0 k s l (i + 1) else spec_Norm.l0 k s (l ++ [c]) (i + 1)) else none) else none)) else spec_Norm.l0 k s (l ++ [c]) (i + 1)) = spec_Norm.l0 k s (nput l c) (i + 1) := by
    intro c
    unfold nput
    by_cases hc : c = 32
    · rw [if_pos hc]
      by_cases hn : l = []
      · rw [if_pos (by simp [hn]), if_pos ⟨hc, .inl hn⟩]
      · have : 0 < l.length := List.length_pos_iff.2 hn
        rw [if_neg (by omega), if_pos (by omega), if_pos (by omega)]
        by_cases hr : rd l ((l.length : Int) - 1) = 32
        · rw [if_pos hr, if_pos ⟨hc, .inr hr⟩]
        · rw [if_neg hr, if_neg (fun x => x.2.elim hn hr)]
    · rw [if_neg hc, if_neg (fun x => hc x.1)]
  cases b
  · exact key c
  · exact key _
theorem impl_Norm_j2 (k : Nat) (s : ByteArray) (l : List Int) (n i c : Int) (b : Bool) (hl : l.length < 1000) (h0 : 0 ≤ i) (h1 : i < 1000) :
    impl_Norm.j2 (k + 1) s l c n i b = impl_Norm.l0 k s (nput l (if b = true then (c + 32) % 256 else c)) n (i + 1) := by
  simp only [impl_Norm.j2]
  rw [w64 (x := i + 1) (by omega) (by omega), w64 (x := (l.length : Int) - 1) (by omega) (by omega), if_pos (show l.length < 140737488355328 by omega), if_pos (show l.length < 140737488355328 by omega)]
  have key : ∀ c : Int, (if c = 32 then (if (l.length : Int) > 0 then (if 0 ≤ (l.length : Int) - 1 then (if (l.length : Int) - 1 < (l.length : Int) then (if rd l ((l.length : Int) - 1) = 32 then impl_Norm.l0 k s l n (i + 1) else impl_Norm.l0 k s (l ++ [c]) n (i + 1)) else none) else none) else impl_Norm.l0 k s l n (i + 1)) else impl_Norm.l0 k s (l ++ [c]) n (i + 1)) = impl_Norm.l0 k s (nput l c) n (i + 1) := by
    intro c
    unfold nput
    by_cases hc : c = 32
    · rw [if_pos hc]
      by_cases hn : l = []
      · rw [if_neg (by simp [hn]), if_pos ⟨hc, .inl hn⟩]
      · have : 0 < l.length := List.length_pos_iff.2 hn
        rw [if_pos (by omega), if_pos (by omega), if_pos (by omega)]
        by_cases hr : rd l ((l.length : Int) - 1) = 32
        · rw [if_pos hr, if_pos ⟨hc, .inr hr⟩]
        · rw [if_neg hr, if_neg (fun x => x.2.elim hn hr)]
    · rw [if_neg hc, if_neg (fun x => hc x.1)]
  cases b
  · exact key c
  · exact key _
theorem spec_Norm_l0 (s : ByteArray) (hs : s.size ≤ 100) : ∀ (d k : Nat) (i : Int) (l : List Int), 0 ≤ i → i + d = s.size → 2 * d < k → l.length ≤ i →
    spec_Norm.l0 k s l i = some (strOfNums (ntrim (nfold l ((bytesOf s).drop i.toNat))))
  | 0, k, i, l, h0, hd, hk, hl => by
    obtain ⟨k, rfl⟩ : ∃ m, k = m + 1 := ⟨k - 1, by omega⟩
    simp only [spec_Norm.l0]
    rw [if_neg (by omega), List.drop_of_length_le (by rw [bytesOf_length]; omega)]
    rw [show nfold l [] = l from rfl]
    unfold ntrim
    by_cases hn : l = []
    · subst hn; simp
    · have : 0 < l.length := List.length_pos_iff.2 hn
      rw [w64 (x := (l.length : Int) - 1) (by omega) (by omega), if_pos (by omega), if_pos (by omega), if_pos (by omega)]
      by_cases hr : rd l ((l.length : Int) - 1) = 32
      · rw [if_pos hr, if_pos (show (l.length : Int) - 1 ≤ (l.length : Int) by omega), if_pos ⟨hn, hr⟩, show ((l.length : Int) - 1).toNat = l.length - 1 by omega]
      · rw [if_neg hr, if_neg (fun x => hr x.2)]
  | d + 1, k, i, l, h0, hd, hk, hl => by
    obtain ⟨k, rfl⟩ : ∃ m, k = m + 2 := ⟨k - 2, by omega⟩
    have hb := bt_range s i
    have hj : ∀ b : Bool, b = (decide (bt s i ≥ 65) && decide (bt s i ≤ 90)) → spec_Norm.j2 (k + 1) s l i (bt s i) b = some (strOfNums (ntrim (nfold l ((bytesOf s).drop i.toNat)))) := by
      intro b hbb
      rw [spec_Norm_j2 k s l i _ b (by omega) h0 (by omega), up_of hb.1 hb.2 b hbb]
      have := nput_length l (up (bt s i))
      rw [spec_Norm_l0 s hs d k (i + 1) _ (by omega) (by omega) (by omega) (by omega), drop_bt s i h0 (by omega)]; rfl
    simp only [spec_Norm.l0]
    rw [if_pos (by omega), if_pos h0]
    by_cases h : bt s i ≥ 65
    · rw [if_pos h]; exact hj _ (by simp [h])
    · rw [if_neg h]; exact hj _ (by simp [h])
theorem son_take (l : List Int) (n : Nat) : (strOfNums l).extract 0 n = strOfNums (l.take n) := by
  apply ba_ext
  rw [ByteArray.data_extract, Array.toList_extract, strOfNums_data, strOfNums_data]
  simp [List.extract]
theorem son_drop (l : List Int) (n : Nat) : (strOfNums l).extract n (strOfNums l).size = strOfNums (l.drop n) := by
  apply ba_ext
  rw [ByteArray.data_extract, Array.toList_extract, strOfNums_data, strOfNums_data, strOfNums_size]
  simp only [List.extract, List.map_drop]
  exact List.take_of_length_le (by simp)
theorem drop_last (l : List Int) (h : 0 < l.length) : l.drop (l.length - 1) = [rd l ((l.length : Int) - 1)] := by
  rw [List.drop_eq_getElem_cons (by omega), List.drop_of_length_le (by omega)]
  congr 1
  unfold rd
  rw [show ((l.length : Int) - 1).toNat = l.length - 1 by omega, List.getD_eq_getElem?_getD, List.getElem?_eq_getElem (by omega)]; rfl
theorem trim_blank (l : List Int) (hl : l.length < 1000) (hr : ∀ x ∈ l, 0 ≤ x ∧ x ≤ 255) : strings_TrimSuffix.f (strOfNums l) (⟨#[32]⟩ : ByteArray) = some (strOfNums (ntrim l)) := by
  have hz : (⟨#[32]⟩ : ByteArray).size = 1 := rfl
  unfold strings_TrimSuffix.f stringslite_TrimSuffix.f stringslite_HasSuffix.f ntrim
  rw [hz]
  by_cases hn : l = []
  · subst hn
    rw [if_neg (show ¬ (((strOfNums []).size : Int) ≥ ((1 : Nat) : Int)) by decide)]; rfl
  · have hp : 0 < l.length := List.length_pos_iff.2 hn
    have hin : rd l ((l.length : Int) - 1) ∈ l := by have h := drop_last l hp; exact List.mem_of_mem_drop (i := l.length - 1) (by rw [h]; simp)
    have hb := hr _ hin
    simp only [strOfNums_size, Int.natCast_one]
    rw [w64 (x := (l.length : Int) - 1) (by omega) (by omega), if_pos (by omega), if_pos (by omega), if_pos (by omega)]
    simp only [Option.bind_some]
    have e1 : (strOfNums l).extract ((l.length : Int) - 1).toNat l.length = strOfNums [rd l ((l.length : Int) - 1)] := by
      rw [← drop_last l hp, ← son_drop, strOfNums_size, show ((l.length : Int) - 1).toNat = l.length - 1 by omega]
    rw [e1]
    have e2 : ((strOfNums [rd l ((l.length : Int) - 1)]).toList == (⟨#[32]⟩ : ByteArray).toList) = decide (rd l ((l.length : Int) - 1) = 32) := by
      rw [Go.Lib.toList_data, Go.Lib.toList_data, strOfNums_data]
      generalize rd l ((l.length : Int) - 1) = x at hb
      have key : ∀ z : Fin 256, (([(z.val : Int)].map fun n => UInt8.ofNat n.toNat) == (⟨#[32]⟩ : ByteArray).data.toList) = decide ((z.val : Int) = 32) := by decide +kernel
      have := key ⟨x.toNat, by omega⟩
      simpa [Int.toNat_of_nonneg hb.1] using this
    rw [e2]
    by_cases h : rd l ((l.length : Int) - 1) = 32
    · rw [decide_eq_true h]
      simp only [if_true, Option.bind_some]
      rw [if_pos (show l ≠ [] ∧ rd l ((l.length : Int) - 1) = 32 from ⟨hn, h⟩), son_take, show ((l.length : Int) - 1).toNat = l.length - 1 by omega, if_pos (show 0 ≤ (l.length : Int) - 1 by omega), if_pos (show (l.length : Int) - 1 ≤ (l.length : Int) by omega)]; rfl
    · rw [decide_eq_false h, if_neg (show ¬ (l ≠ [] ∧ rd l ((l.length : Int) - 1) = 32) from fun x => h x.2)]; rfl
theorem nput_range {l : List Int} {c : Int} (hl : ∀ x ∈ l, 0 ≤ x ∧ x ≤ 255) (hc : 0 ≤ c ∧ c ≤ 255) : ∀ x ∈ nput l c, 0 ≤ x ∧ x ≤ 255 := by
  intro x hx
  unfold nput at hx
  split at hx
  · exact hl x hx
  · rcases List.mem_append.1 hx with h | h
    · exact hl x h
    · rw [List.mem_singleton.1 h]; exact hc
theorem up_range {c : Int} (hc : 0 ≤ c ∧ c ≤ 255) : 0 ≤ up c ∧ up c ≤ 255 := by unfold up; split <;> omega
theorem impl_Norm_l0 (s : ByteArray) (hs : s.size ≤ 100) : ∀ (d k : Nat) (i : Int) (l : List Int), 0 ≤ i → i + d = s.size → 2 * d < k → l.length ≤ i → (∀ x ∈ l, 0 ≤ x ∧ x ≤ 255) →
    impl_Norm.l0 k s l (s.size : Int) i = some (strOfNums (ntrim (nfold l ((bytesOf s).drop i.toNat))))
  | 0, k, i, l, h0, hd, hk, hl, hr => by
    obtain ⟨k, rfl⟩ : ∃ m, k = m + 1 := ⟨k - 1, by omega⟩
    simp only [impl_Norm.l0]
    rw [if_neg (by omega), List.drop_of_length_le (by rw [bytesOf_length]; omega), trim_blank l (by omega) hr]
    rfl
  | d + 1, k, i, l, h0, hd, hk, hl, hr => by
    obtain ⟨k, rfl⟩ : ∃ m, k = m + 2 := ⟨k - 2, by omega⟩
    have hb := bt_range s i
    have hj : ∀ b : Bool, b = (decide (bt s i ≥ 65) && decide (bt s i ≤ 90)) → impl_Norm.j2 (k + 1) s l (bt s i) (s.size : Int) i b = some (strOfNums (ntrim (nfold l ((bytesOf s).drop i.toNat)))) := by
      intro b hbb
      rw [impl_Norm_j2 k s l _ i _ b (by omega) h0 (by omega), up_of hb.1 hb.2 b hbb]
      have := nput_length l (up (bt s i))
      rw [impl_Norm_l0 s hs d k (i + 1) _ (by omega) (by omega) (by omega) (by omega) (nput_range hr (up_range hb)), drop_bt s i h0 (by omega)]; rfl
    simp only [impl_Norm.l0]
    rw [if_pos (by omega), if_pos h0, if_pos (by omega)]
    by_cases h : bt s i ≥ 65
    · rw [if_pos h]; exact hj _ (by simp [h])
    · rw [if_neg h]; exact hj _ (by simp [h])
theorem spec_Norm_f (s : ByteArray) (k : Nat) (hk : 2 * s.size + 2 < k) : spec_Norm.f k s = some (NormP s) := by
  obtain ⟨k, rfl⟩ : ∃ m, k = m + 1 := ⟨k - 1, by omega⟩
  unfold spec_Norm.f NormP NormL
  by_cases h : s.size ≤ 100
  · rw [if_neg (by omega), spec_l02Plain_f s (by omega) _ (by omega)]
    simp only [Option.bind_some, spec_Norm.j0]
    by_cases hp : plainP s = true
    · rw [if_neg (by simp [hp]), if_pos ⟨h, hp⟩, spec_Norm_l0 s h s.size k 0 [] (by omega) (by omega) (by omega) (by simp)]; rfl
    · rw [if_pos (by simp [hp]), if_neg (fun x => hp x.2)]; rfl
  · rw [if_pos (by omega), if_neg (fun x => h x.1)]
    simp only [spec_Norm.j0, if_true]; rfl
theorem impl_Norm_f (s : ByteArray) (k : Nat) (hk : 2 * s.size + 2 < k) : impl_Norm.f k s = some (NormP s) := by
  obtain ⟨k, rfl⟩ : ∃ m, k = m + 1 := ⟨k - 1, by omega⟩
  unfold impl_Norm.f NormP NormL
  by_cases h : s.size ≤ 100
  · rw [if_neg (by omega), impl_isPrintable_f s (by omega) _ (by omega)]
    simp only [Option.bind_some, impl_Norm.j0]
    by_cases hp : plainP s = true
    · rw [if_neg (by simp [hp]), if_pos ⟨h, hp⟩, impl_Norm_l0 s h s.size k 0 [] (by omega) (by omega) (by omega) (by simp) (by simp)]; rfl
    · rw [if_pos (by simp [hp]), if_neg (fun x => hp x.2)]; rfl
  · rw [if_pos (by omega), if_neg (fun x => h x.1)]
    simp only [impl_Norm.j0, if_true]; rfl

/-! what Norm leaves -/
/-- No capital, no other byte than a printable one, no blank at the begin, none behind another. -/
def Good (l : List Int) : Prop := ∀ p c s, l = p ++ c :: s → (prt c = true ∧ ¬ (65 ≤ c ∧ c ≤ 90)) ∧ (c = 32 → p ≠ [] ∧ rd p ((p.length : Int) - 1) ≠ 32)
theorem rd_last (p : List Int) (c : Int) : rd (p ++ [c]) (((p ++ [c]).length : Int) - 1) = c := by
  unfold rd
  rw [show (((p ++ [c]).length : Int) - 1).toNat = p.length by simp, List.getD_eq_getElem?_getD, List.getElem?_append_right (by omega)]
  simp
theorem Good.nil : Good [] := by
  intro p c s h
  simp at h
theorem Good.take {l : List Int} (h : Good l) (n : Nat) : Good (l.take n) := by
  intro p c s e
  have e2 : l = p ++ c :: (s ++ l.drop n) := by
    conv => lhs; rw [← List.take_append_drop n l]
    rw [e]; simp
  exact h p c _ e2
theorem Good.snoc {l : List Int} {c : Int} (h : Good l) (hc : prt c = true ∧ ¬ (65 ≤ c ∧ c ≤ 90)) (h2 : c = 32 → l ≠ [] ∧ rd l ((l.length : Int) - 1) ≠ 32) : Good (l ++ [c]) := by
  intro p d s e
  rcases List.eq_nil_or_concat s with rfl | ⟨s', x, rfl⟩
  · have := List.append_inj' e rfl
    obtain ⟨e1, e2⟩ := this
    subst e1
    simp only [List.cons.injEq, and_true] at e2
    subst e2
    exact ⟨hc, h2⟩
  · have e' : l ++ [c] = (p ++ d :: s') ++ [x] := by rw [e]; simp
    have := List.append_inj' e' rfl
    exact h p d s' this.1
theorem Good.put {l : List Int} {c : Int} (h : Good l) (hc : prt c = true ∧ ¬ (65 ≤ c ∧ c ≤ 90)) : Good (nput l c) := by
  unfold nput
  split
  · exact h
  · rename_i hn
    refine h.snoc hc (fun hc2 => ⟨fun e => hn ⟨hc2, .inl e⟩, fun e => hn ⟨hc2, .inr e⟩⟩)
theorem prt_iff {c : Int} : prt c = true ↔ 32 ≤ c ∧ c ≤ 126 := by unfold prt; simp
theorem up_good {c : Int} (h : prt c = true) : prt (up c) = true ∧ ¬ (65 ≤ up c ∧ up c ≤ 90) := by
  rw [prt_iff] at h ⊢
  unfold up
  split <;> omega
theorem Good.fold : ∀ (cs l : List Int), Good l → (∀ c ∈ cs, prt c = true) → Good (nfold l cs)
  | [], l, h, _ => h
  | c :: cs, l, h, hc => Good.fold cs _ (h.put (up_good (hc c (by simp)))) (fun x hx => hc x (by simp [hx]))
/-- What Norm gives: and no blank at the end. -/
def Normal (l : List Int) : Prop := Good l ∧ (l ≠ [] → rd l ((l.length : Int) - 1) ≠ 32) ∧ l.length ≤ 100
theorem Normal.nil : Normal [] := ⟨Good.nil, fun h => absurd rfl h, by simp⟩
theorem nfold_length : ∀ (cs l : List Int), (nfold l cs).length ≤ l.length + cs.length
  | [], l => by simp [nfold]
  | c :: cs, l => by
    have h1 := nfold_length cs (nput l (up c))
    have h2 := nput_length l (up c)
    have h3 : nfold l (c :: cs) = nfold (nput l (up c)) cs := rfl
    rw [h3, List.length_cons]; omega
theorem NormL_normal (s : ByteArray) : Normal (NormL s) := by
  unfold NormL
  split
  · rename_i h
    have hg : Good (nfold [] (bytesOf s)) := Good.fold _ _ Good.nil (by
      have := h.2
      unfold plainP at this
      exact List.all_eq_true.1 this)
    have hl := nfold_length (bytesOf s) []
    rw [bytesOf_length] at hl
    simp only [List.length_nil, Nat.zero_add] at hl
    generalize nfold [] (bytesOf s) = l at hg hl
    unfold ntrim
    split
    · rename_i h2
      have hp : 0 < l.length := List.length_pos_iff.2 h2.1
      refine ⟨hg.take _, fun hne => ?_, by rw [List.length_take]; omega⟩
      have e : l = l.take (l.length - 1) ++ [32] := by
        have := drop_last l hp
        rw [h2.2] at this
        conv => lhs; rw [← List.take_append_drop (l.length - 1) l]
        rw [this]
      exact ((hg _ _ _ e).2 rfl).2
    · rename_i h2
      exact ⟨hg, fun hne h3 => h2 ⟨hne, h3⟩, by omega⟩
  · exact Normal.nil
theorem Good.range {l : List Int} (h : Good l) : ∀ x ∈ l, 0 ≤ x ∧ x ≤ 255 := by
  intro x hx
  obtain ⟨p, s, e⟩ := List.append_of_mem hx
  have := (h p x s e).1.1
  rw [prt_iff] at this
  omega
theorem up_id {c : Int} (h : ¬ (65 ≤ c ∧ c ≤ 90)) : up c = c := by unfold up; rw [if_neg h]
theorem nput_snoc {p : List Int} {c : Int} (h : c = 32 → p ≠ [] ∧ rd p ((p.length : Int) - 1) ≠ 32) : nput p c = p ++ [c] := by
  unfold nput
  rw [if_neg]
  rintro ⟨hc, h1 | h2⟩
  · exact (h hc).1 h1
  · exact (h hc).2 h2
theorem Good.refold {l : List Int} (h : Good l) : ∀ (s p : List Int), l = p ++ s → nfold p s = l
  | [], p, e => by rw [e]; simp [nfold]
  | c :: s, p, e => by
    have hc := h p c s e
    have h3 : nfold p (c :: s) = nfold (nput p (up c)) s := rfl
    rw [h3, up_id hc.1.2, nput_snoc hc.2]
    exact Good.refold h s (p ++ [c]) (by rw [e]; simp)
theorem Normal.trim {l : List Int} (h : Normal l) : ntrim l = l := by
  unfold ntrim
  rw [if_neg (fun x => h.2.1 x.1 x.2)]
theorem Good.plain {l : List Int} (h : Good l) : plainP (strOfNums l) = true := by
  unfold plainP
  rw [bytesOf_son l h.range, List.all_eq_true]
  intro x hx
  obtain ⟨p, s, e⟩ := List.append_of_mem hx
  exact (h p x s e).1.1
theorem Normal.norm {l : List Int} (h : Normal l) : NormL (strOfNums l) = l := by
  unfold NormL
  rw [if_pos ⟨by rw [strOfNums_size]; exact h.2.2, h.1.plain⟩, bytesOf_son l h.1.range, h.1.refold l [] rfl, h.trim]
theorem NormP_idem (s : ByteArray) : NormP (NormP s) = NormP s := by
  unfold NormP
  rw [(NormL_normal s).norm]

/-! NameRight -/
def lowc (c : Int) : Bool := decide (97 ≤ c) && decide (c ≤ 122)
def nch (c : Int) : Bool := lowc c || (decide (48 ≤ c) && decide (c ≤ 57)) || decide (c = 95)
/-- What NameRight says. -/
def NameP (s : ByteArray) : Bool := decide (1 ≤ s.size) && decide (s.size ≤ 20) && lowc (bt s 0) && (bytesOf s).all nch
theorem spec_NameRight_l0 (s : ByteArray) (hs : s.size ≤ 20) : ∀ (d k : Nat) (i : Int), 0 ≤ i → i + d = s.size → d < k →
    spec_NameRight.l0 k s i = some ((decide (i ≠ 0) || decide (s.size = 0) || lowc (bt s 0)) && ((bytesOf s).drop i.toNat).all nch)
  | 0, k, i, h0, hi, hk => by
    obtain ⟨k, rfl⟩ : ∃ q, k = q + 1 := ⟨k - 1, by omega⟩
    rw [spec_NameRight.l0, if_neg (by omega), List.drop_of_length_le (by rw [bytesOf_length]; omega), List.all_nil, Bool.and_true]
    by_cases hz : i = 0
    · rw [decide_eq_true (p := s.size = 0) (by omega)]; simp
    · rw [decide_eq_true (p := i ≠ 0) hz]; rfl
  | d + 1, k, i, h0, hi, hk => by
    obtain ⟨k, rfl⟩ : ∃ q, k = q + 1 := ⟨k - 1, by omega⟩
    have ih := spec_NameRight_l0 s hs d k (i + 1) (by omega) (by omega) (by omega)
    rw [decide_eq_true (p := i + 1 ≠ 0) (by omega), Bool.true_or, Bool.true_or, Bool.true_and] at ih
    rw [spec_NameRight.l0, if_pos (by omega), if_pos h0, drop_bt s i h0 (by omega), List.all_cons, w64 (x := i + 1) (by omega) (by omega), ih, decide_eq_false (p := s.size = 0) (by omega), Bool.or_false]
    have hc := bt_range s i
    generalize hcg : bt s i = c at hc ⊢
    have h00 : i = 0 → lowc (bt s 0) = lowc c := fun e => by rw [← hcg, e]
    unfold nch lowc at *
    by_cases c1 : c ≥ 97
    · rw [if_pos c1, decide_eq_true (p := 97 ≤ c) c1]
      by_cases c2 : c ≤ 122
      · rw [if_pos c2, decide_eq_true c2]
        by_cases hz : i = 0
        · rw [h00 hz, decide_eq_true (p := 97 ≤ c) c1, decide_eq_true c2]; simp
        · rw [decide_eq_true (p := i ≠ 0) hz]; simp
      · rw [if_neg c2, decide_eq_false c2, decide_eq_false (p := c ≤ 57) (by omega), decide_eq_false (p := c = 95) (by omega)]
        by_cases hz : i = 0
        · rw [if_pos hz, h00 hz, decide_eq_false c2, decide_eq_false (p := i ≠ 0) (by omega)]; simp
        · rw [if_neg hz, if_pos (by omega), if_neg (by omega), if_neg (by omega)]; simp
    · rw [if_neg c1, decide_eq_false (p := 97 ≤ c) c1]
      by_cases hz : i = 0
      · rw [if_pos hz, h00 hz, decide_eq_false (p := 97 ≤ c) c1, decide_eq_false (p := i ≠ 0) (by omega)]; simp
      · rw [if_neg hz, decide_eq_true (p := i ≠ 0) hz]
        by_cases c3 : c ≥ 48
        · rw [if_pos c3, decide_eq_true (p := 48 ≤ c) c3]
          by_cases c4 : c ≤ 57
          · rw [if_pos c4, decide_eq_true c4]; simp
          · rw [if_neg c4, decide_eq_false c4]
            by_cases c5 : c = 95
            · rw [if_pos c5, decide_eq_true c5]; simp
            · rw [if_neg c5, decide_eq_false c5]; simp
        · rw [if_neg c3, decide_eq_false (p := 48 ≤ c) c3, if_neg (by omega), decide_eq_false (p := c = 95) (by omega)]; simp
theorem spec_NameRight_f (s : ByteArray) (k : Nat) (hk : 30 ≤ k) : spec_NameRight.f k s = some (NameP s) := by
  obtain ⟨k, rfl⟩ : ∃ q, k = q + 1 := ⟨k - 1, by omega⟩
  unfold spec_NameRight.f NameP
  by_cases h1 : (s.size : Int) < 1
  · rw [if_pos h1, spec_NameRight.j0, if_pos rfl, decide_eq_false (p := 1 ≤ s.size) (by omega)]; rfl
  · rw [if_neg h1, decide_eq_true (p := 1 ≤ s.size) (by omega)]
    by_cases h2 : (s.size : Int) > 20
    · rw [decide_eq_true h2, spec_NameRight.j0, if_pos rfl, decide_eq_false (p := s.size ≤ 20) (by omega)]; rfl
    · rw [decide_eq_false h2, spec_NameRight.j0, if_neg (by simp), decide_eq_true (p := s.size ≤ 20) (by omega), spec_NameRight_l0 s (by omega) s.size k 0 (by omega) (by omega) (by omega), decide_eq_false (p := s.size = 0) (by omega)]
      simp
theorem dw_nil {α : Type} (p : α → Bool) : ∀ l : List α, (∀ x ∈ l, p x = true) → l.dropWhile p = []
  | [], _ => rfl
  | a :: l, h => by
    rw [List.dropWhile_cons, if_pos (h a (by simp))]
    exact dw_nil p l (fun x hx => h x (List.mem_cons_of_mem _ hx))
theorem dw_all {α : Type} (p : α → Bool) : ∀ l : List α, (∀ x ∈ l.dropWhile p, p x = true) → ∀ x ∈ l, p x = true
  | [], _, x, hx => by cases hx
  | a :: l, h, x, hx => by
    rw [List.dropWhile_cons] at h
    by_cases ha : p a = true
    · rw [if_pos ha] at h
      rcases List.mem_cons.1 hx with e | e
      · rw [e]; exact ha
      · exact dw_all p l h x e
    · rw [if_neg ha] at h
      exact absurd (h a (by simp)) ha
theorem trim_nil (l cs : List UInt8) : (Lib.trimS l cs == ([] : List UInt8)) = l.all (cs.contains ·) := by
  have key : Lib.trimS l cs = [] ↔ ∀ x ∈ l, cs.contains x = true := by
    unfold Lib.trimS Lib.trimLeftS Lib.trimRightS
    constructor
    · intro h x hx
      refine dw_all (cs.contains ·) l.reverse (fun y hy => ?_) x (List.mem_reverse.2 hx)
      refine dw_all (cs.contains ·) (l.reverse.dropWhile (cs.contains ·)).reverse (fun z hz => ?_) y (List.mem_reverse.2 hy)
      rw [h] at hz; cases hz
    · intro h
      rw [dw_nil (cs.contains ·) l.reverse (fun x hx => h x (List.mem_reverse.1 hx))]; rfl
  by_cases h : Lib.trimS l cs = []
  · rw [h, List.all_eq_true.2 (key.1 h)]; rfl
  · rw [beq_eq_false_iff_ne.2 h]
    symm
    rw [Bool.eq_false_iff]
    exact fun h2 => h (key.2 (List.all_eq_true.1 h2))
theorem nch_contains (b : UInt8) : ([97, 98, 99, 100, 101, 102, 103, 104, 105, 106, 107, 108, 109, 110, 111, 112, 113, 114, 115, 116, 117, 118, 119, 120, 121, 122, 48, 49, 50, 51, 52, 53, 54, 55, 56, 57, 95] : List UInt8).contains b = nch b.toNat := by
  have key : ∀ z : Fin 256, ([97, 98, 99, 100, 101, 102, 103, 104, 105, 106, 107, 108, 109, 110, 111, 112, 113, 114, 115, 116, 117, 118, 119, 120, 121, 122, 48, 49, 50, 51, 52, 53, 54, 55, 56, 57, 95] : List UInt8).contains (UInt8.ofNat z.val) = nch (z.val : Nat) := by decide +kernel
  have := key ⟨b.toNat, b.toNat_lt⟩
  simpa using this
theorem impl_NameRight_f (s : ByteArray) : impl_NameRight.f s = some (NameP s) := by
  unfold impl_NameRight.f NameP
  by_cases h1 : (s.size : Int) ≥ 1
  · rw [if_pos h1, decide_eq_true (p := 1 ≤ s.size) (by omega)]
    by_cases h2 : (s.size : Int) ≤ 20
    · rw [if_pos h2, decide_eq_true (p := s.size ≤ 20) (by omega), if_pos (by omega)]
      unfold lowc
      by_cases h3 : bt s 0 ≥ 97
      · rw [if_pos h3, decide_eq_true (p := 97 ≤ bt s 0) h3]
        by_cases h4 : bt s 0 ≤ 122
        · rw [if_pos h4, decide_eq_true h4]
          unfold strings_Trim.f
          rw [if_pos ⟨by omega, by decide, by decide⟩]
          simp only [Option.bind_some, Bool.true_and]
          congr 1
          rw [Go.Lib.toList_data]
          show (Lib.trimS s.data.toList _ == []) = _
          rw [trim_nil]
          unfold bytesOf
          rw [List.all_map]
          congr 1
          funext b
          exact nch_contains b
        · rw [if_neg h4, decide_eq_false h4]; rfl
      · rw [if_neg h3, decide_eq_false (p := 97 ≤ bt s 0) h3]; rfl
    · rw [if_neg h2, decide_eq_false (p := s.size ≤ 20) (by omega)]; rfl
  · rw [if_neg h1, decide_eq_false (p := 1 ≤ s.size) (by omega)]; rfl

/-! values -/
/-- Is a text a value. -/
def ValueP (s : ByteArray) : Bool := decide (1 ≤ s.size) && decide (s.size ≤ 40) && ((NormP s).toList != ([] : List UInt8))
theorem spec_l02Value_f (s : ByteArray) (k : Nat) (hk : 100 ≤ k) : spec_l02Value.f k s = some (ValueP s) := by
  unfold spec_l02Value.f ValueP
  by_cases h1 : (s.size : Int) ≥ 1
  · by_cases h2 : (s.size : Int) ≤ 40
    · rw [if_pos h1, if_pos h2, spec_Norm_f s k (by omega), decide_eq_true (p := 1 ≤ s.size) (by omega), decide_eq_true (p := s.size ≤ 40) (by omega)]
      simp
    · rw [if_pos h1, if_neg h2, decide_eq_false (p := s.size ≤ 40) (by omega)]; simp
  · rw [if_neg h1, decide_eq_false (p := 1 ≤ s.size) (by omega)]; simp
theorem impl_isProper_f (s : ByteArray) (k : Nat) (hk : 100 ≤ k) : impl_isProper.f k s = some (ValueP s) := by
  unfold impl_isProper.f ValueP
  by_cases h1 : (s.size : Int) ≥ 1
  · by_cases h2 : (s.size : Int) ≤ 40
    · rw [if_pos h1, if_pos h2, impl_Norm_f s k (by omega), decide_eq_true (p := 1 ≤ s.size) (by omega), decide_eq_true (p := s.size ≤ 40) (by omega)]
      simp
    · rw [if_pos h1, if_neg h2, decide_eq_false (p := s.size ≤ 40) (by omega)]; simp
  · rw [if_neg h1, decide_eq_false (p := 1 ≤ s.size) (by omega)]; simp

/-! DnRight -/
abbrev Rd := S42
def RdnP (x : Rd) : Bool := NameP x.f0 && ValueP x.f1
/-- What DnRight says. -/
def DnP (l : List Rd) : Bool := decide (l.length ≤ 6) && l.all RdnP
theorem rd_drop (l : List Rd) (i : Int) (h0 : 0 ≤ i) (h1 : i < l.length) : l.drop i.toNat = rd_T42 l i :: l.drop (i + 1).toNat := by
  have hi : i.toNat < l.length := by omega
  rw [List.drop_eq_getElem_cons hi, show (i + 1).toNat = i.toNat + 1 by omega]
  congr 1
  unfold rd_T42
  rw [List.getD_eq_getElem?_getD, List.getElem?_eq_getElem hi]; rfl
theorem spec_DnRight_l0 (l : List Rd) (hl : (l.length : Int) ≤ 4611686018427387904) : ∀ (d k : Nat) (i : Int), 0 ≤ i → i + d = l.length → 100 + d < k →
    spec_DnRight.l0 k l i = some ((l.drop i.toNat).all RdnP && decide (l.length ≤ 6))
  | 0, k, i, h0, hi, hk => by
    obtain ⟨k, rfl⟩ : ∃ q, k = q + 1 := ⟨k - 1, by omega⟩
    rw [spec_DnRight.l0, if_neg (by omega), List.drop_of_length_le (by omega), List.all_nil, Bool.true_and]
    congr 1
    by_cases h6 : l.length ≤ 6
    · rw [decide_eq_true h6, decide_eq_true (by omega)]
    · rw [decide_eq_false h6, decide_eq_false (by omega)]
  | d + 1, k, i, h0, hi, hk => by
    obtain ⟨k, rfl⟩ : ∃ q, k = q + 1 := ⟨k - 1, by omega⟩
    rw [spec_DnRight.l0, if_pos (by omega), if_pos h0, rd_drop l i h0 (by omega), List.all_cons, spec_NameRight_f _ k (by omega), spec_l02Value_f _ k (by omega),
      w64 (x := i + 1) (by omega) (by omega), spec_DnRight_l0 l hl d k (i + 1) (by omega) (by omega) (by omega)]
    unfold RdnP
    cases NameP (rd_T42 l i).f0 <;> cases ValueP (rd_T42 l i).f1 <;> simp
theorem spec_DnRight_f (l : List Rd) (hl : (l.length : Int) ≤ 4611686018427387904) (k : Nat) (hk : 101 + l.length ≤ k) : spec_DnRight.f k l = some (DnP l) := by
  unfold spec_DnRight.f DnP
  rw [spec_DnRight_l0 l hl l.length k 0 (by omega) (by omega) (by omega)]
  simp [Bool.and_comm]
theorem impl_DnRight_1_f (a b : ByteArray) (k : Nat) (hk : 100 ≤ k) : impl_DnRight_1.f k a b = some (!(NameP a && ValueP b)) := by
  unfold impl_DnRight_1.f impl_isRdn.f
  rw [impl_NameRight_f, impl_isProper_f _ k hk]
  cases NameP a <;> cases ValueP b <;> rfl
theorem impl_DnRight_ix (k : Nat) (hk : 100 ≤ k) : ∀ (l : List Rd) (i : Int), 0 ≤ i → ∃ r, impl_DnRight.ix k l i = some r ∧ (!(decide (r ≥ 0))) = l.all RdnP
  | [], i, h0 => ⟨-1, rfl, rfl⟩
  | x :: xs, i, h0 => by
    simp only [impl_DnRight.ix]
    rw [impl_DnRight_1_f _ _ k hk, List.all_cons, Option.bind_some]
    unfold RdnP
    cases NameP x.f0 && ValueP x.f1 with
    | true => exact impl_DnRight_ix k hk xs (i + 1) (by omega)
    | false => exact ⟨i, rfl, by rw [decide_eq_true (p := i ≥ 0) h0]; rfl⟩
theorem impl_DnRight_f (l : List Rd) (k : Nat) (hk : 100 ≤ k) : impl_DnRight.f k l = some (DnP l) := by
  unfold impl_DnRight.f DnP
  by_cases h : (l.length : Int) ≤ 6
  · obtain ⟨r, e, h2⟩ := impl_DnRight_ix k hk l 0 (by omega)
    rw [if_pos h, e, Option.bind_some, h2, decide_eq_true (p := l.length ≤ 6) (by omega)]; rfl
  · rw [if_neg h, decide_eq_false (p := l.length ≤ 6) (by omega)]; rfl
theorem DnP_mem {l : List Rd} (h : DnP l = true) : l.length ≤ 6 ∧ ∀ x ∈ l, RdnP x = true := by
  unfold DnP at h
  simp only [Bool.and_eq_true, decide_eq_true_eq, List.all_eq_true] at h
  exact h

/-! sizes -/
theorem ValueP_size {s : ByteArray} (h : ValueP s = true) : 1 ≤ s.size ∧ s.size ≤ 40 := by
  unfold ValueP at h
  simp only [Bool.and_eq_true, decide_eq_true_eq] at h
  omega
theorem NameP_size {s : ByteArray} (h : NameP s = true) : 1 ≤ s.size ∧ s.size ≤ 20 := by
  unfold NameP at h
  simp only [Bool.and_eq_true, decide_eq_true_eq] at h
  omega
theorem RdnP_size {x : Rd} (h : RdnP x = true) : x.f0.size ≤ 20 ∧ x.f1.size ≤ 40 := by
  unfold RdnP at h
  simp only [Bool.and_eq_true] at h
  exact ⟨(NameP_size h.1).2, (ValueP_size h.2).2⟩
theorem rd_mem (l : List Rd) (i : Int) (h0 : 0 ≤ i) (h1 : i < l.length) : rd_T42 l i ∈ l := by
  have hi : i.toNat < l.length := by omega
  unfold rd_T42
  rw [List.getD_eq_getElem?_getD, List.getElem?_eq_getElem hi]
  exact List.getElem_mem hi

/-! DnKey, DnSame, DnUnder -/
def KeyP (l : List Rd) : ByteArray := l.reverse.foldl (fun x y => impl_dnKey.keyStep x y.f0 (NormP y.f1)) (⟨#[]⟩ : ByteArray)
theorem NormP_size (s : ByteArray) : (NormP s).size ≤ 100 := by
  unfold NormP
  rw [strOfNums_size]
  exact (NormL_normal s).2.2
theorem impl_dnKey_go (k : Nat) (hk : 100 ≤ k) : ∀ (l : List Rd) (x : ByteArray), (∀ y ∈ l, RdnP y = true) → impl_dnKey.go k l x = some (l.foldl (fun x y => impl_dnKey.keyStep x y.f0 (NormP y.f1)) x)
  | [], x, h => rfl
  | y :: ys, x, h => by
    have h1 := RdnP_size (h y (by simp))
    have h2 := NormP_size y.f1
    rw [impl_dnKey.go, impl_Norm_f _ _ (by omega), Option.bind_some, if_pos (by omega), impl_dnKey_go k hk ys _ (fun z hz => h z (List.mem_cons_of_mem _ hz))]
    rfl
theorem impl_dnKey_f (l : List Rd) (h : DnP l = true) (k : Nat) (hk : 100 ≤ k) : impl_dnKey.f k l = some (KeyP l) := by
  obtain ⟨hl, hr⟩ := DnP_mem h
  unfold impl_dnKey.f KeyP
  rw [if_pos (by omega), impl_dnKey_go k hk _ _ (fun y hy => hr y (List.mem_reverse.1 hy))]
/-- How many bytes 1 a text has. -/
def ones (s : ByteArray) : Nat := (bytesOf s).count 1
theorem bytesOf_append (a b : ByteArray) : bytesOf (a ++ b) = bytesOf a ++ bytesOf b := by
  unfold bytesOf
  rw [ba_data_append, List.map_append]
theorem ones_append (a b : ByteArray) : ones (a ++ b) = ones a + ones b := by
  unfold ones
  rw [bytesOf_append, List.count_append]
theorem ones_name {s : ByteArray} (h : NameP s = true) : ones s = 0 := by
  unfold ones
  rw [List.count_eq_zero]
  intro hm
  unfold NameP at h
  simp only [Bool.and_eq_true, List.all_eq_true] at h
  have := h.2 1 hm
  exact absurd this (by decide)
theorem ones_norm (s : ByteArray) : ones (NormP s) = 0 := by
  have hg := (NormL_normal s).1
  unfold ones NormP
  rw [bytesOf_son _ hg.range, List.count_eq_zero]
  intro hm
  obtain ⟨p, q, e⟩ := List.append_of_mem hm
  have := (hg p 1 q e).1.1
  exact absurd this (by decide)
theorem ones_step (x : ByteArray) (y : Rd) (h : RdnP y = true) : ones (impl_dnKey.keyStep x y.f0 (NormP y.f1)) = ones x + 1 := by
  unfold RdnP at h
  simp only [Bool.and_eq_true] at h
  unfold impl_dnKey.keyStep
  simp only [ones_append, ones_name h.1, ones_norm]
  rfl
theorem ones_fold : ∀ (l : List Rd) (x : ByteArray), (∀ y ∈ l, RdnP y = true) → ones (l.foldl (fun x y => impl_dnKey.keyStep x y.f0 (NormP y.f1)) x) = ones x + l.length
  | [], x, h => rfl
  | y :: ys, x, h => by
    rw [List.foldl_cons, ones_fold ys _ (fun z hz => h z (List.mem_cons_of_mem _ hz)), ones_step x y (h y (by simp)), List.length_cons]
    omega
theorem KeyP_ones {l : List Rd} (h : DnP l = true) : ones (KeyP l) = l.length := by
  unfold KeyP
  rw [ones_fold _ _ (fun y hy => (DnP_mem h).2 y (List.mem_reverse.1 hy)), List.length_reverse]
  show 0 + l.length = _
  omega
theorem KeyP_len {a b : List Rd} (ha : DnP a = true) (hb : DnP b = true) (h : (KeyP a).toList = (KeyP b).toList) : a.length = b.length := by
  rw [← KeyP_ones ha, ← KeyP_ones hb, ba_inj.1 h]
/-- Are two right DNs the same. -/
def sameP (a b : List Rd) : Bool := (KeyP a).toList == (KeyP b).toList
def underP (a b : List Rd) : Bool := decide (b.length ≤ a.length) && sameP (a.drop (a.length - b.length)) b
def SameP (a b : List Rd) : Bool := DnP a && DnP b && sameP a b
def UnderP (a b : List Rd) : Bool := DnP a && DnP b && underP a b
theorem DnP_drop {l : List Rd} (h : DnP l = true) (n : Nat) : DnP (l.drop n) = true := by
  obtain ⟨h1, h2⟩ := DnP_mem h
  unfold DnP
  rw [Bool.and_eq_true, decide_eq_true_eq, List.all_eq_true, List.length_drop]
  exact ⟨by omega, fun x hx => h2 x (List.mem_of_mem_drop hx)⟩

theorem impl_dnSame_f (a b : List Rd) (ha : DnP a = true) (hb : DnP b = true) (k : Nat) (hk : 100 ≤ k) : impl_dnSame.f k a b = some (sameP a b) := by
  unfold impl_dnSame.f sameP
  by_cases h : (a.length : Int) = (b.length : Int)
  · rw [if_pos h, impl_dnKey_f a ha k hk, Option.bind_some, impl_dnKey_f b hb k hk]; rfl
  · rw [if_neg h, beq_eq_false_iff_ne.2 (fun e => h (by rw [KeyP_len ha hb e]))]
theorem SameP_refl {a : List Rd} (h : DnP a = true) : SameP a a = true := by
  unfold SameP sameP
  rw [h]; simp

theorem spec_l02Key_l0 (l : List Rd) (hl : l.length ≤ 6) (hr : ∀ x ∈ l, RdnP x = true) : ∀ (d k : Nat) (x : ByteArray) (i : Int), i + 1 = d → d ≤ l.length → 100 + d < k → x.size + 1000 * d ≤ 100000 →
    spec_l02Key.l0 k l x i = some ((l.take d).reverse.foldl (fun x y => impl_dnKey.keyStep x y.f0 (NormP y.f1)) x)
  | 0, k, x, i, hi, hd, hk, hx => by
    obtain ⟨k, rfl⟩ : ∃ q, k = q + 1 := ⟨k - 1, by omega⟩
    rw [spec_l02Key.l0, if_neg (by omega)]; rfl
  | d + 1, k, x, i, hi, hd, hk, hx => by
    obtain ⟨k, rfl⟩ : ∃ q, k = q + 1 := ⟨k - 1, by omega⟩
    have hm := rd_mem l i (by omega) (by omega)
    obtain ⟨s0, s1⟩ := RdnP_size (hr _ hm)
    have s2 := NormP_size (rd_T42 l i).f1
    have z1 : (⟨#[1]⟩ : ByteArray).size = 1 := rfl
    have z2 : (⟨#[61]⟩ : ByteArray).size = 1 := rfl
    have e : l.take (d + 1) = l.take d ++ [rd_T42 l i] := by
      rw [List.take_add_one]
      congr 1
      unfold rd_T42
      rw [show i.toNat = d by omega, List.getD_eq_getElem?_getD, List.getElem?_eq_getElem (by omega)]; rfl
    have hz := impl_dnKey.keyStep_size x (rd_T42 l i).f0 (NormP (rd_T42 l i).f1)
    rw [spec_l02Key.l0, if_pos (by omega), if_pos (by omega), if_pos (by omega), if_pos (by omega), if_pos (by simp only [ba_append_size, z1]; omega), if_pos (by simp only [ba_append_size, z1]; omega), spec_Norm_f _ _ (by omega), Option.bind_some,
      if_pos (by simp only [ba_append_size, z1, z2]; omega), w64 (x := i - 1) (by omega) (by omega)]
    have e2 : (((x ++ (⟨#[1]⟩ : ByteArray)) ++ (rd_T42 l i).f0) ++ (⟨#[61]⟩ : ByteArray)) ++ NormP (rd_T42 l i).f1 = impl_dnKey.keyStep x (rd_T42 l i).f0 (NormP (rd_T42 l i).f1) := by
      unfold impl_dnKey.keyStep
      simp only [ba_append_assoc]
    rw [e2, spec_l02Key_l0 l hl hr d k _ (i - 1) (by omega) (by omega) (by omega) (by omega), e, List.reverse_append]
    rfl
theorem spec_l02Key_f (l : List Rd) (h : DnP l = true) (k : Nat) (hk : 110 ≤ k) : spec_l02Key.f k l = some (KeyP l) := by
  obtain ⟨hl, hr⟩ := DnP_mem h
  unfold spec_l02Key.f KeyP
  rw [w64 (by omega) (by omega), spec_l02Key_l0 l hl hr l.length k _ ((l.length : Int) - 1) (by omega) (by omega) (by omega) (by rw [show (⟨#[]⟩ : ByteArray).size = 0 from rfl]; omega), List.take_length]

/-! entries: brought over, held beside each other, weighed -/
theorem laws_szEntry_f (d : List S50) (l : List S140) (hd : d.length ≤ 140737488351232) (hl : l.length ≤ 140737488351232) (hM : ∀ x ∈ l, x.f1.length ≤ 140737488351232) (a : Int) (k : Nat) (hk : 1125899906842624 < k) : ∃ r, laws_szEntry.f k d l a = some r := by
  unfold laws_szEntry.f
  obtain ⟨r, e⟩ := laws_szRdnS_f d (by omega) a k (by omega)
  rw [e, Option.bind_some]
  split
  · exact ⟨_, rfl⟩
  · obtain ⟨r2, e2⟩ := laws_szAttrS_f l (by omega) r 140737488351232 (fun x hx => by have := hM x hx; omega) k (by omega)
    rw [e2, Option.bind_some]
    split <;> exact ⟨_, rfl⟩
theorem laws_toEntry_f (d : List S50) (l : List S140) (hd : d.length ≤ 8796093022208) (hl : l.length ≤ 7036874417766) (hM : ∀ x ∈ l, x.f1.length ≤ 17592186044416) (k : Nat) (hk : 1125899906842624 < k) : laws_toEntry.f k d l = some (d.map cvRdn, l.map cvAttr) := by
  unfold laws_toEntry.f
  rw [laws_toRdnS_f d hd k (by omega), laws_toAttrS_f l hl 17592186044416 (fun x hx => by have := hM x hx; omega) k (by omega)]
  rfl
theorem laws_eqEntry_f (d : List Rd) (l : List At) (hd : d.length ≤ 140737488351232) (hl : l.length ≤ 140737488351232) (hM : ∀ x ∈ l, x.f1.length ≤ 140737488351232) (k : Nat) (hk : 1125899906842624 < k) : laws_eqEntry.f k d l d l = some true := by
  unfold laws_eqEntry.f
  rw [laws_eqRdnS_f d (by omega) k (by omega), laws_eqAttrS_f l (by omega) 140737488351232 (fun x hx => by have := hM x hx; omega) k (by omega)]
  simp

/-! a string of a list -/
def sAt (l : List ByteArray) (j : Nat) : ByteArray := l.getD j ByteArray.empty
theorem sAt_size (l : List ByteArray) (hs : ∀ x ∈ l, x.size ≤ 140737488351232) (j : Nat) : (sAt l j).size ≤ 140737488351232 := by
  unfold sAt
  rw [List.getD_eq_getElem?_getD]
  by_cases h : j < l.length
  · rw [List.getElem?_eq_getElem h]; exact hs _ (List.getElem_mem h)
  · rw [List.getElem?_eq_none (by omega)]; decide
theorem rdOf_sAt (l : List ByteArray) (i : Int) : rdOf ByteArray.empty l i = sAt l i.toNat := rfl
theorem sAt_drop (l : List ByteArray) (i : Int) (h0 : 0 ≤ i) (h1 : i < l.length) : l.drop i.toNat = sAt l i.toNat :: l.drop (i + 1).toNat := by
  have hi : i.toNat < l.length := by omega
  rw [List.drop_eq_getElem_cons hi, show (i + 1).toNat = i.toNat + 1 by omega]
  unfold sAt
  rw [List.getD_eq_getElem?_getD, List.getElem?_eq_getElem hi]; rfl

/-! EntryRight -/
theorem cmp_iff : ∀ (a b : List UInt8), Lib.compareBytes a b ≥ 0 ↔ Op.bytesLess a b = false
  | [], [] => by simp [Lib.compareBytes, Op.bytesLess]
  | [], _ :: _ => by simp [Lib.compareBytes, Op.bytesLess]
  | _ :: _, [] => by simp [Lib.compareBytes, Op.bytesLess]
  | a :: p, b :: q => by
    rw [Lib.compareBytes, Op.bytesLess]
    by_cases h1 : a < b
    · simp [h1]
    · by_cases h2 : b < a
      · have hne : ¬ (a = b) := fun e => by subst e; exact h1 h2
        simp [h1, h2, hne]
      · have he : a = b := UInt8.le_antisymm (UInt8.not_lt.1 h2) (UInt8.not_lt.1 h1)
        subst he
        rw [if_neg h1, if_neg h1, cmp_iff p q]
        simp
theorem cmp_less (a b : List UInt8) : decide (Lib.compareBytes a b ≥ 0) = !(Op.bytesLess a b) := by
  cases h : Op.bytesLess a b with
  | false => rw [decide_eq_true ((cmp_iff a b).2 h)]; rfl
  | true => rw [decide_eq_false (fun h2 => by rw [(cmp_iff a b).1 h2] at h; cases h)]; rfl
/-- A value at a place, behind its forerunner. -/
def valF (l : List ByteArray) (j : Nat) : Bool := ValueP (sAt l j) && (decide (j = 0) || Op.bytesLess (NormP (sAt l (j - 1))).toList (NormP (sAt l j)).toList)
def ValsP (l : List ByteArray) : Bool := (List.range l.length).all (valF l) && (decide (1 ≤ l.length) && decide (l.length ≤ 4))
theorem spec_l03Values_f (l : List ByteArray) (hl : l.length ≤ 140737488351232) (hs : ∀ x ∈ l, x.size ≤ 140737488351232) (k : Nat) (hk : 1125899906842624 + l.length < k) : spec_l03Values.f k l = some (ValsP l) := by
  unfold spec_l03Values.f ValsP
  rw [all_loop (decide (1 ≤ l.length) && decide (l.length ≤ 4)) (valF l) l.length (by omega) 1125899906842624 (fun k i => spec_l03Values.l0 k l i) (fun k i hk h0 hi => ?_) (fun k i hk h0 hi => ?_) l.length k 0 (by omega) (by omega) (by omega)]
  · rw [List.range_eq_range']; rfl
  · show spec_l03Values.l0 (k + 1) l i = if valF l i.toNat = true then spec_l03Values.l0 k l (wrap64 (i + 1)) else some false
    have h1 := sAt_size l hs i.toNat
    have h2 := sAt_size l hs (i.toNat - 1)
    rw [spec_l03Values.l0, if_pos hi, if_pos h0, rdOf_sAt, spec_l02Value_f _ k (by omega)]
    simp only [Option.bind_some]
    unfold valF
    cases hv : ValueP (sAt l i.toNat) with
    | false => simp
    | true =>
      rw [if_pos rfl]
      by_cases hz : i > 0
      · rw [if_pos hz, w64 (x := i - 1) (by omega) (by omega), if_pos (by omega), if_pos (by omega), rdOf_sAt, show (i - 1).toNat = i.toNat - 1 by omega, spec_Norm_f _ k (by omega), spec_Norm_f _ k (by omega), decide_eq_false (p := i.toNat = 0) (by omega)]
        simp only [Option.bind_some, Bool.true_and, Bool.false_or]
      · rw [if_neg hz, decide_eq_true (p := i.toNat = 0) (by omega)]
        simp
  · show spec_l03Values.l0 (k + 1) l i = _
    rw [spec_l03Values.l0, if_neg (by omega)]
    by_cases h1 : (l.length : Int) ≥ 1
    · rw [if_pos h1, decide_eq_true (p := 1 ≤ l.length) (by omega), Bool.true_and]
      congr 1
      by_cases h4 : l.length ≤ 4
      · rw [decide_eq_true h4, decide_eq_true (by omega)]
      · rw [decide_eq_false h4, decide_eq_false (by omega)]
    · rw [if_neg h1, decide_eq_false (p := 1 ≤ l.length) (by omega)]; rfl
def AttrP (n : ByteArray) (l : List ByteArray) : Bool := NameP n && ValsP l
theorem impl_byNorm_f (a b : ByteArray) (k : Nat) (ha : 2 * a.size + 2 < k) (hb : 2 * b.size + 2 < k) : impl_byNorm.f k a b = some (Lib.compareBytes (NormP a).toList (NormP b).toList) := by
  unfold impl_byNorm.f strings_Compare.f
  rw [impl_Norm_f a k ha, impl_Norm_f b k hb, Go.Lib.toList_data, Go.Lib.toList_data]; rfl
theorem impl_isAttr_f (n : ByteArray) (l : List ByteArray) (hl : l.length ≤ 140737488351232) (hs : ∀ x ∈ l, x.size ≤ 140737488351232) (k : Nat) (hk : 1125899906842624 + 1 + l.length < k) : impl_isAttr.f k n l = some (AttrP n l) := by
  obtain ⟨k, rfl⟩ : ∃ q, k = q + 1 := ⟨k - 1, by omega⟩
  unfold impl_isAttr.f AttrP
  rw [impl_NameRight_f, Option.bind_some]
  cases NameP n with
  | false => rw [if_neg (by simp), impl_isAttr.j0, if_pos rfl]; rfl
  | true =>
    have hb : impl_between.f (l.length : Int) 1 4 = some (decide (1 ≤ l.length) && decide (l.length ≤ 4)) := by
      unfold impl_between.f
      by_cases h1 : (l.length : Int) ≥ 1
      · rw [if_pos h1, decide_eq_true (p := 1 ≤ l.length) (by omega), Bool.true_and]
        congr 1
        by_cases h4 : l.length ≤ 4
        · rw [decide_eq_true h4, decide_eq_true (by omega)]
        · rw [decide_eq_false h4, decide_eq_false (by omega)]
      · rw [if_neg h1, decide_eq_false (p := 1 ≤ l.length) (by omega)]; rfl
    unfold impl_size_string.f
    rw [if_pos rfl]
    simp only [Option.bind_some]
    rw [hb]
    simp only [Option.bind_some, Bool.true_and]
    unfold ValsP
    cases hc : (decide (1 ≤ l.length) && decide (l.length ≤ 4)) with
    | false => rw [impl_isAttr.j0, Bool.not_false, if_pos rfl, Bool.and_false]
    | true =>
      rw [impl_isAttr.j0, if_neg (by simp), all_loop true (valF l) l.length (by omega) 1125899906842624 (fun k i => impl_isAttr.l0 k l (l.length : Int) i n l) (fun k i hk h0 hi => ?_) (fun k i hk h0 hi => ?_) l.length k 0 (by omega) (by omega) (by omega)]
      · rw [List.range_eq_range']; rfl
      · show impl_isAttr.l0 (k + 1) l (l.length : Int) i n l = if valF l i.toNat = true then impl_isAttr.l0 k l (l.length : Int) (wrap64 (i + 1)) n l else some false
        have h1 := sAt_size l hs i.toNat
        have h2 := sAt_size l hs (i.toNat - 1)
        rw [impl_isAttr.l0, if_pos hi, if_pos h0, if_pos hi, rdOf_sAt, impl_isProper_f _ k (by omega)]
        simp only [Option.bind_some]
        unfold valF
        cases hv : ValueP (sAt l i.toNat) with
        | false => simp
        | true =>
          rw [if_pos rfl]
          by_cases hz : i > 0
          · rw [if_pos hz, w64 (x := i - 1) (by omega) (by omega), if_pos (by omega), if_pos (by omega), rdOf_sAt, show (i - 1).toNat = i.toNat - 1 by omega, impl_byNorm_f _ _ k (by omega) (by omega), decide_eq_false (p := i.toNat = 0) (by omega)]
            simp only [Option.bind_some, Bool.true_and, Bool.false_or]
            have hcl := cmp_less (NormP (sAt l (i.toNat - 1))).toList (NormP (sAt l i.toNat)).toList
            cases hbl : Op.bytesLess (NormP (sAt l (i.toNat - 1))).toList (NormP (sAt l i.toNat)).toList with
            | true =>
              rw [hbl, Bool.not_true] at hcl
              rw [if_neg (of_decide_eq_false hcl), if_pos rfl]
            | false =>
              rw [hbl, Bool.not_false] at hcl
              rw [if_pos (of_decide_eq_true hcl), if_neg (by simp)]
          · rw [if_neg hz, decide_eq_true (p := i.toNat = 0) (by omega)]
            simp
      · show impl_isAttr.l0 (k + 1) l (l.length : Int) i n l = _
        rw [impl_isAttr.l0, if_neg (by omega)]
def aAt (l : List At) (j : Nat) : At := l.getD j z114
def attrF (l : List At) (j : Nat) : Bool := AttrP (aAt l j).f0 (aAt l j).f1 && (decide (j = 0) || Op.bytesLess (aAt l (j - 1)).f0.toList (aAt l j).f0.toList)
def AttrsP (l : List At) : Bool := (List.range l.length).all (attrF l) && decide (l.length ≤ 8)
/-- What EntryRight says. -/
def EntryP (dn : List Rd) (l : List At) : Bool := decide (0 < dn.length) && DnP dn && AttrsP l
/-- Attributes of a size that can be. -/
def AtOK (l : List At) : Prop := l.length ≤ 140737488351232 ∧ ∀ x ∈ l, x.f1.length ≤ 140737488351232 ∧ ∀ s ∈ x.f1, s.size ≤ 140737488351232
theorem aAt_ok {l : List At} (h : AtOK l) (j : Nat) : (aAt l j).f1.length ≤ 140737488351232 ∧ ∀ s ∈ (aAt l j).f1, s.size ≤ 140737488351232 := by
  unfold aAt
  rw [List.getD_eq_getElem?_getD]
  by_cases hj : j < l.length
  · rw [List.getElem?_eq_getElem hj]; exact h.2 _ (List.getElem_mem hj)
  · rw [List.getElem?_eq_none (by omega)]
    exact ⟨by decide, fun s hs => by cases hs⟩
theorem rd_aAt (l : List At) (i : Int) : rd_T114 l i = aAt l i.toNat := rfl
theorem spec_l03Attrs_f (l : List At) (h : AtOK l) (k : Nat) (hk : 2251799813685248 + l.length < k) : spec_l03Attrs.f k l = some (AttrsP l) := by
  have hl := h.1
  unfold spec_l03Attrs.f AttrsP
  rw [all_loop (decide (l.length ≤ 8)) (attrF l) l.length (by omega) 2251799813685248 (fun k i => spec_l03Attrs.l0 k l i) (fun k i hk h0 hi => ?_) (fun k i hk h0 hi => ?_) l.length k 0 (by omega) (by omega) (by omega)]
  · rw [List.range_eq_range']; rfl
  · show spec_l03Attrs.l0 (k + 1) l i = if attrF l i.toNat = true then spec_l03Attrs.l0 k l (wrap64 (i + 1)) else some false
    obtain ⟨h1, h2⟩ := aAt_ok h i.toNat
    rw [spec_l03Attrs.l0, if_pos hi, if_pos h0, rd_aAt, spec_NameRight_f _ k (by omega), spec_l03Values_f _ h1 h2 k (by omega)]
    simp only [Option.bind_some]
    unfold attrF AttrP
    cases NameP (aAt l i.toNat).f0 with
    | false => simp
    | true =>
      rw [if_pos rfl]
      by_cases hz : i > 0
      · rw [if_pos hz, w64 (x := i - 1) (by omega) (by omega), if_pos (by omega), if_pos (by omega), rd_aAt, show (i - 1).toNat = i.toNat - 1 by omega, decide_eq_false (p := i.toNat = 0) (by omega)]
        cases Op.bytesLess (aAt l (i.toNat - 1)).f0.toList (aAt l i.toNat).f0.toList <;> cases ValsP (aAt l i.toNat).f1 <;> simp
      · rw [if_neg hz, decide_eq_true (p := i.toNat = 0) (by omega)]
        cases ValsP (aAt l i.toNat).f1 <;> simp
  · show spec_l03Attrs.l0 (k + 1) l i = _
    rw [spec_l03Attrs.l0, if_neg (by omega)]
    congr 1
    by_cases h4 : l.length ≤ 8
    · rw [decide_eq_true h4, decide_eq_true (by omega)]
    · rw [decide_eq_false h4, decide_eq_false (by omega)]
theorem spec_EntryRight_f (dn : List Rd) (hd : dn.length ≤ 140737488351232) (l : List At) (h : AtOK l) (k : Nat) (hk : 4503599627370496 < k) : spec_EntryRight.f k dn l = some (EntryP dn l) := by
  have hl := h.1
  unfold spec_EntryRight.f EntryP
  by_cases h0 : (dn.length : Int) > 0
  · rw [if_pos h0, spec_DnRight_f dn (by omega) k (by omega), spec_l03Attrs_f l h k (by omega), decide_eq_true (p := 0 < dn.length) (by omega)]
    cases DnP dn <;> simp
  · rw [if_neg h0, decide_eq_false (p := 0 < dn.length) (by omega)]; rfl
theorem impl_EntryRight_f (dn : List Rd) (l : List At) (h : AtOK l) (k : Nat) (hk : 4503599627370496 < k) : impl_EntryRight.f k dn l = some (EntryP dn l) := by
  obtain ⟨k, rfl⟩ : ∃ q, k = q + 1 := ⟨k - 1, by omega⟩
  have hl := h.1
  unfold impl_EntryRight.f EntryP
  have hj : ∀ b, impl_EntryRight.j0 (k + 1) b dn l = some (!b && (List.range l.length).all (attrF l)) := by
    intro b
    rw [impl_EntryRight.j0]
    cases b with
    | true => rw [if_pos rfl]; rfl
    | false =>
      rw [if_neg (by simp), all_loop true (attrF l) l.length (by omega) 2251799813685248 (fun k i => impl_EntryRight.l0 k l (l.length : Int) i dn l) (fun k i hk h0 hi => ?_) (fun k i hk h0 hi => ?_) l.length k 0 (by omega) (by omega) (by omega)]
      · rw [List.range_eq_range']; simp
      · show impl_EntryRight.l0 (k + 1) l (l.length : Int) i dn l = if attrF l i.toNat = true then impl_EntryRight.l0 k l (l.length : Int) (wrap64 (i + 1)) dn l else some false
        obtain ⟨h1, h2⟩ := aAt_ok h i.toNat
        rw [impl_EntryRight.l0, if_pos hi, if_pos h0, if_pos hi, rd_aAt, impl_isAttr_f _ _ h1 h2 k (by omega)]
        simp only [Option.bind_some]
        unfold attrF
        cases AttrP (aAt l i.toNat).f0 (aAt l i.toNat).f1 with
        | false => simp
        | true =>
          rw [if_pos rfl]
          by_cases hz : i > 0
          · rw [if_pos hz, w64 (x := i - 1) (by omega) (by omega), if_pos (by omega), if_pos (by omega), rd_aAt, show (i - 1).toNat = i.toNat - 1 by omega, decide_eq_false (p := i.toNat = 0) (by omega)]
            simp
          · rw [if_neg hz, decide_eq_true (p := i.toNat = 0) (by omega)]
            simp
      · show impl_EntryRight.l0 (k + 1) l (l.length : Int) i dn l = _
        rw [impl_EntryRight.l0, if_neg (by omega)]
  unfold AttrsP
  by_cases h0 : (dn.length : Int) = 0
  · rw [if_pos h0, hj, decide_eq_false (p := 0 < dn.length) (by omega)]; rfl
  · rw [if_neg h0, impl_DnRight_f dn _ (by omega), decide_eq_true (p := 0 < dn.length) (by omega), Option.bind_some, hj, hj]
    cases DnP dn with
    | false => rfl
    | true =>
      rw [if_pos rfl]
      by_cases h8 : l.length ≤ 8
      · rw [decide_eq_true h8, decide_eq_false (by omega)]; simp
      · rw [decide_eq_false h8, decide_eq_true (by omega)]; simp

/-! EntrySame -/
def valsS : List ByteArray → List ByteArray → Bool
  | [], _ => true
  | _ :: _, [] => true
  | x :: xs, y :: ys => ((NormP x).toList == (NormP y).toList) && valsS xs ys
def attrS (x y : At) : Bool := decide (x.f0.toList = y.f0.toList) && (decide (x.f1.length = y.f1.length) && valsS x.f1 y.f1)
def attrsS : List At → List At → Bool
  | [], _ => true
  | _ :: _, [] => true
  | x :: xs, y :: ys => attrS x y && attrsS xs ys
def entryS (d : List Rd) (l : List At) (e : List Rd) (m : List At) : Bool := sameP d e && (decide (l.length = m.length) && attrsS l m)
def EntrySameP (d : List Rd) (l : List At) (e : List Rd) (m : List At) : Bool := EntryP d l && (EntryP e m && entryS d l e m)
theorem impl_vals_f (k : Nat) (hk : 1125899906842624 < k) : ∀ (l m : List ByteArray), l.length ≤ m.length → (∀ x ∈ l, x.size ≤ 140737488351232) → (∀ x ∈ m, x.size ≤ 140737488351232) → impl_entrySame.vals k l m = some (valsS l m)
  | [], _, _, _, _ => rfl
  | _ :: _, [], h, _, _ => absurd h (by simp)
  | x :: xs, y :: ys, h, h1, h2 => by
    have := h1 x (List.mem_cons_self ..)
    have := h2 y (List.mem_cons_self ..)
    rw [impl_entrySame.vals, impl_entrySame.val, impl_Norm_f x k (by omega), Option.bind_some, impl_Norm_f y k (by omega), Option.bind_some, Option.bind_some, valsS]
    cases hc : ((NormP x).toList == (NormP y).toList) with
    | false => rfl
    | true =>
      rw [if_pos rfl, Bool.true_and]
      exact impl_vals_f k hk xs ys (by simpa using h) (fun z hz => h1 z (List.mem_cons_of_mem _ hz)) (fun z hz => h2 z (List.mem_cons_of_mem _ hz))
theorem impl_attr_f (k : Nat) (hk : 1125899906842624 < k) (x y : At) (h1 : ∀ s ∈ x.f1, s.size ≤ 140737488351232) (h2 : ∀ s ∈ y.f1, s.size ≤ 140737488351232) : impl_entrySame.attr k x.f0 x.f1 y.f0 y.f1 = some (attrS x y) := by
  unfold impl_entrySame.attr impl_entrySame.eqv attrS
  by_cases hn : x.f0.toList = y.f0.toList
  · rw [if_pos hn, decide_eq_true hn, Bool.true_and]
    by_cases hl : x.f1.length = y.f1.length
    · rw [if_pos hl, decide_eq_true hl, Bool.true_and, impl_vals_f k hk _ _ (by omega) h1 h2]
    · rw [if_neg hl, decide_eq_false hl, Bool.false_and]
  · rw [if_neg hn, decide_eq_false hn, Bool.false_and]
theorem impl_attrs_f (k : Nat) (hk : 1125899906842624 < k) : ∀ (l m : List At), l.length ≤ m.length → (∀ x ∈ l, ∀ s ∈ x.f1, s.size ≤ 140737488351232) → (∀ x ∈ m, ∀ s ∈ x.f1, s.size ≤ 140737488351232) → impl_entrySame.attrs k l m = some (attrsS l m)
  | [], _, _, _, _ => rfl
  | _ :: _, [], h, _, _ => absurd h (by simp)
  | x :: xs, y :: ys, h, h1, h2 => by
    rw [impl_entrySame.attrs, impl_attr_f k hk x y (h1 x (List.mem_cons_self ..)) (h2 y (List.mem_cons_self ..)), Option.bind_some, attrsS]
    cases hc : attrS x y with
    | false => rfl
    | true =>
      rw [if_pos rfl, Bool.true_and]
      exact impl_attrs_f k hk xs ys (by simpa using h) (fun z hz => h1 z (List.mem_cons_of_mem _ hz)) (fun z hz => h2 z (List.mem_cons_of_mem _ hz))
theorem impl_entrySame_f (d : List Rd) (l : List At) (e : List Rd) (m : List At) (hd : DnP d = true) (he : DnP e = true) (h1 : AtOK l) (h2 : AtOK m) (k : Nat) (hk : 1125899906842624 < k) : impl_entrySame.f k d l e m = some (entryS d l e m) := by
  unfold impl_entrySame.f impl_entrySame.eqa entryS
  rw [impl_dnSame_f d e hd he k (by omega), Option.bind_some]
  cases sameP d e with
  | false => rw [if_neg (by simp), Bool.false_and]
  | true =>
    rw [if_pos rfl, Bool.true_and]
    by_cases hl : l.length = m.length
    · rw [if_pos hl, decide_eq_true hl, Bool.true_and, impl_attrs_f k hk l m (by omega) (fun x hx => (h1.2 x hx).2) (fun x hx => (h2.2 x hx).2)]
    · rw [if_neg hl, decide_eq_false hl, Bool.false_and]
theorem aAt_drop (l : List At) (i : Int) (h0 : 0 ≤ i) (h1 : i < l.length) : l.drop i.toNat = aAt l i.toNat :: l.drop (i + 1).toNat := by
  have hi : i.toNat < l.length := by omega
  rw [List.drop_eq_getElem_cons hi, show (i + 1).toNat = i.toNat + 1 by omega]
  unfold aAt
  rw [List.getD_eq_getElem?_getD, List.getElem?_eq_getElem hi]; rfl
theorem spec_same_l1 (v u : List ByteArray) (hl : v.length = u.length) (hv : v.length ≤ 140737488351232) (h1 : ∀ x ∈ v, x.size ≤ 140737488351232) (h2 : ∀ x ∈ u, x.size ≤ 140737488351232) (i : Int) (a : List Rd) (b : List At) (c : List Rd) (e : List At) (y z : ByteArray) :
    ∀ (d k : Nat) (j : Int), 0 ≤ j → j + d = v.length → 1125899906842624 + d < k → spec_l03Same.l1 k i j a b c e y v z u = if valsS (v.drop j.toNat) (u.drop j.toNat) = true then spec_l03Same.l0 (k - d - 1) (wrap64 (i + 1)) a b c e else some false
  | 0, k, j, h0, hj, hk => by
    obtain ⟨k, rfl⟩ : ∃ q, k = q + 1 := ⟨k - 1, by omega⟩
    rw [spec_l03Same.l1, if_neg (by omega), List.drop_of_length_le (by omega), valsS, if_pos rfl]
    rfl
  | d + 1, k, j, h0, hj, hk => by
    obtain ⟨k, rfl⟩ : ∃ q, k = q + 1 := ⟨k - 1, by omega⟩
    have s1 := sAt_size v h1 j.toNat
    have s2 := sAt_size u h2 j.toNat
    rw [spec_l03Same.l1, if_pos (by omega), if_pos h0, rdOf_sAt, spec_Norm_f _ k (by omega), Option.bind_some, if_pos (by omega), rdOf_sAt, spec_Norm_f _ k (by omega), Option.bind_some, w64 (x := j + 1) (by omega) (by omega),
      spec_same_l1 v u hl hv h1 h2 i a b c e y z d k (j + 1) (by omega) (by omega) (by omega), sAt_drop v j h0 (by omega), sAt_drop u j h0 (by omega), valsS, Nat.add_sub_add_right]
    by_cases hc : (NormP (sAt v j.toNat)).toList = (NormP (sAt u j.toNat)).toList
    · rw [if_pos hc, beq_iff_eq.2 hc, Bool.true_and]
    · rw [if_neg hc, beq_eq_false_iff_ne.2 hc, Bool.false_and, if_neg (by simp)]
theorem spec_same_l0 (a c : List Rd) (l m : List At) (hl : l.length = m.length) (h1 : AtOK l) (h2 : AtOK m) :
    ∀ (d k : Nat) (i : Int), 0 ≤ i → i + d = l.length → 1125899906842625 + 140737488351300 * d < k → spec_l03Same.l0 k i a l c m = some (attrsS (l.drop i.toNat) (m.drop i.toNat))
  | 0, k, i, h0, hi, hk => by
    obtain ⟨k, rfl⟩ : ∃ q, k = q + 1 := ⟨k - 1, by omega⟩
    rw [spec_l03Same.l0, if_neg (by omega), List.drop_of_length_le (by omega), attrsS]
  | d + 1, k, i, h0, hi, hk => by
    obtain ⟨k, rfl⟩ : ∃ q, k = q + 2 := ⟨k - 2, by omega⟩
    have hlen := h1.1
    obtain ⟨b1, b2⟩ := aAt_ok h1 i.toNat
    obtain ⟨b3, b4⟩ := aAt_ok h2 i.toNat
    have ih := fun q hq => spec_same_l0 a c l m hl h1 h2 d q (i + 1) (by omega) (by omega) hq
    rw [spec_l03Same.l0, if_pos (by omega), if_pos h0, if_pos (by omega), rd_aAt, rd_aAt, spec_l03Same.j2, spec_l03Same.j2, if_pos rfl, aAt_drop l i h0 (by omega), aAt_drop m i h0 (by omega), attrsS]
    unfold attrS
    by_cases hn : (aAt l i.toNat).f0.toList = (aAt m i.toNat).f0.toList
    · rw [if_pos hn, decide_eq_true hn, Bool.true_and]
      by_cases hv : (aAt l i.toNat).f1.length = (aAt m i.toNat).f1.length
      · rw [hv, bne_self_eq_false, if_neg (by simp), decide_eq_true rfl, Bool.true_and, spec_same_l1 _ _ hv b1 b2 b4 i a l c m _ _ (aAt l i.toNat).f1.length k 0 (by omega) (by omega) (by omega)]
        rw [w64 (x := i + 1) (by omega) (by omega), ih _ (by omega)]
        show (if valsS (aAt l i.toNat).f1 (aAt m i.toNat).f1 = true then _ else _) = _
        cases valsS (aAt l i.toNat).f1 (aAt m i.toNat).f1 <;> rfl
      · rw [bne_iff_ne.2 (fun e => hv (by omega)), if_pos rfl, decide_eq_false hv]; rfl
    · rw [if_neg hn, decide_eq_false hn]; rfl
theorem spec_l03Same_f (d : List Rd) (l : List At) (e : List Rd) (m : List At) (hd : DnP d = true) (he : DnP e = true) (h1 : AtOK l) (h2 : AtOK m) (k : Nat) (hk : 10000000000000000000000000000000 < k) : spec_l03Same.f k d l e m = some (entryS d l e m) := by
  obtain ⟨k, rfl⟩ : ∃ q, k = q + 1 := ⟨k - 1, by omega⟩
  have hl := h1.1
  unfold spec_l03Same.f entryS
  rw [spec_l02Key_f d hd _ (by omega), Option.bind_some, spec_l02Key_f e he _ (by omega), Option.bind_some, spec_l03Same.j0, spec_l03Same.j0, if_pos rfl]
  unfold sameP
  by_cases hc : (KeyP d).toList = (KeyP e).toList
  · rw [if_pos hc, beq_iff_eq.2 hc, Bool.true_and]
    by_cases hv : l.length = m.length
    · rw [show ((l.length : Int) != (m.length : Int)) = false by rw [hv, bne_self_eq_false], if_neg (by simp), decide_eq_true hv, Bool.true_and, spec_same_l0 d e l m hv h1 h2 l.length k 0 (by omega) (by omega) (by omega)]
      rfl
    · rw [bne_iff_ne.2 (fun e => hv (by omega)), if_pos rfl, decide_eq_false hv]; rfl
  · rw [if_neg hc, beq_eq_false_iff_ne.2 hc]; rfl
theorem EntryP_dn {d : List Rd} {l : List At} (h : EntryP d l = true) : DnP d = true := by
  unfold EntryP at h
  rw [Bool.and_eq_true, Bool.and_eq_true] at h
  exact h.1.2
theorem spec_EntrySame_f (d : List Rd) (l : List At) (e : List Rd) (m : List At) (hd : d.length ≤ 140737488351232) (he : e.length ≤ 140737488351232) (h1 : AtOK l) (h2 : AtOK m) (k : Nat) (hk : 10000000000000000000000000000000 < k) : spec_EntrySame.f k d l e m = some (EntrySameP d l e m) := by
  unfold spec_EntrySame.f EntrySameP
  rw [spec_EntryRight_f d hd l h1 k (by omega), Option.bind_some]
  cases ha : EntryP d l with
  | false => rw [if_neg (by simp), Bool.false_and]
  | true =>
    rw [if_pos rfl, spec_EntryRight_f e he m h2 k (by omega), Option.bind_some, Bool.true_and]
    cases hb : EntryP e m with
    | false => rw [if_neg (by simp), Bool.false_and]
    | true => rw [if_pos rfl, spec_l03Same_f d l e m (EntryP_dn ha) (EntryP_dn hb) h1 h2 k hk, Option.bind_some, Bool.true_and]
theorem impl_EntrySame_f (d : List Rd) (l : List At) (e : List Rd) (m : List At) (h1 : AtOK l) (h2 : AtOK m) (k : Nat) (hk : 10000000000000000000000000000000 < k) : impl_EntrySame.f k d l e m = some (EntrySameP d l e m) := by
  unfold impl_EntrySame.f EntrySameP
  rw [impl_EntryRight_f d l h1 k (by omega), Option.bind_some]
  cases ha : EntryP d l with
  | false => rw [if_neg (by simp), Bool.false_and]
  | true =>
    rw [if_pos rfl, impl_EntryRight_f e m h2 k (by omega), Option.bind_some, Bool.true_and]
    cases hb : EntryP e m with
    | false => rw [if_neg (by simp), Bool.false_and]
    | true => rw [if_pos rfl, impl_entrySame_f d l e m (EntryP_dn ha) (EntryP_dn hb) h1 h2 k (by omega), Option.bind_some, Bool.true_and]

theorem FnExactEntrySame : laws_FnExactEntrySame.Pure := by
  intro d l d' l' ⟨hd, _⟩ ⟨hl, hx⟩ ⟨hd', _⟩ ⟨hl', hx'⟩
  have hM : ∀ x ∈ l, x.f1.length ≤ 17592186044416 ∧ ∀ s ∈ x.f1, s.size ≤ 140737488351232 := fun x hx2 => by
    have := (hx x hx2).2
    refine ⟨?_, this.2⟩
    have := this.1
    omega
  have hM' : ∀ x ∈ l', x.f1.length ≤ 17592186044416 ∧ ∀ s ∈ x.f1, s.size ≤ 140737488351232 := fun x hx2 => by
    have := (hx' x hx2).2
    refine ⟨?_, this.2⟩
    have := this.1
    omega
  obtain ⟨K, hK⟩ : ∃ K : Nat, K = 100000000000000000000000000000000 := ⟨_, rfl⟩
  refine ⟨K, ?_⟩
  unfold laws_FnExactEntrySame.f
  obtain ⟨r, e⟩ := laws_szEntry_f d l (by omega) (by omega) (fun x hx => by have := (hM x hx).1; omega) 1048576 K (by omega)
  obtain ⟨r', e'⟩ := laws_szEntry_f d' l' (by omega) (by omega) (fun x hx => by have := (hM' x hx).1; omega) r K (by omega)
  have hto := laws_toEntry_f d l (by omega) (by omega) (fun x hx => (hM x hx).1) K (by omega)
  have hto' := laws_toEntry_f d' l' (by omega) (by omega) (fun x hx => (hM' x hx).1) K (by omega)
  have hA : AtOK (l.map cvAttr) := by
    refine ⟨by rw [List.length_map]; omega, fun x hx => ?_⟩
    obtain ⟨y, hy, rfl⟩ := List.mem_map.1 hx
    have := hM y hy
    exact ⟨by show y.f1.length ≤ _; omega, this.2⟩
  have hA' : AtOK (l'.map cvAttr) := by
    refine ⟨by rw [List.length_map]; omega, fun x hx => ?_⟩
    obtain ⟨y, hy, rfl⟩ := List.mem_map.1 hx
    have := hM' y hy
    exact ⟨by show y.f1.length ≤ _; omega, this.2⟩
  rw [e, Option.bind_some]
  split
  · rfl
  · rw [e', Option.bind_some]
    split
    · rfl
    · rw [hto, hto', Option.bind_some, Option.bind_some]
      have h1 : (d.map cvRdn).length ≤ 140737488351232 := by rw [List.length_map]; omega
      have h2 : (d'.map cvRdn).length ≤ 140737488351232 := by rw [List.length_map]; omega
      generalize d.map cvRdn = a at h1 ⊢
      generalize d'.map cvRdn = b at h2 ⊢
      generalize l.map cvAttr = p at hA ⊢
      generalize l'.map cvAttr = q at hA' ⊢
      rw [spec_EntrySame_f a p b q h1 h2 hA hA' K (by omega), Option.bind_some, Option.bind_some, Option.bind_some, impl_EntrySame_f a p b q hA hA' K (by omega), Option.bind_some, if_neg (by simp), Option.bind_some,
        laws_eqEntry_f a p h1 hA.1 (fun x hx => (hA.2 x hx).1) K (by omega), Option.bind_some, if_pos rfl, Option.bind_some, laws_eqEntry_f b q h2 hA'.1 (fun x hx => (hA'.2 x hx).1) K (by omega), Option.bind_some, if_pos rfl]

end Go.Proofs.YtdbboelacgehoaaDoor.Pure
