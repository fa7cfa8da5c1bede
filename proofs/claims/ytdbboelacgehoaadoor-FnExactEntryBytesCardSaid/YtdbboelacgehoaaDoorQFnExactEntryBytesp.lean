/- The law FnExactEntryBytes answers true at every entry: the program's EntryBytes gives what the reference's gives. No condition. -/
import Derived.Test.YtdbboelacgehoaaDoorQFnExactEntryBytesx16
import Derived.Laws.Bits64
import Derived.Lib.Strings
namespace Go.Proofs.YtdbboelacgehoaaDoor.Pure
open Go.RowKit Go.Proofs.YtdbboelacgehoaaDoor.PFnExactEntryBytes Go.Proofs.YtdbboelacgehoaaDoorW.PrintWords Go.Proofs.YtdbboelacgehoaaDoorW.PrintLast
set_option linter.unusedVariables false
set_option linter.unusedSimpArgs false

/-! plain lemmas -/
theorem w64 {x : Int} (h0 : -9223372036854775808 ≤ x) (h1 : x ≤ 9223372036854775807) : wrap64 x = x := by unfold wrap64; omega
theorem u64w {x : Int} (h0 : 0 ≤ x) (h1 : x < 18446744073709551616) : IntKind.u64.wrap x = x := by rw [IntKind.wrap_u64]; omega
theorem son_append (xs ys : List Int) : strOfNums (xs ++ ys) = strOfNums xs ++ strOfNums ys := by
  unfold strOfNums
  apply ByteArray.ext
  simp
theorem ba_append_size (a b : ByteArray) : (a ++ b).size = a.size + b.size := by simp
theorem ba_append_assoc (a b c : ByteArray) : (a ++ b) ++ c = a ++ (b ++ c) := by
  apply ByteArray.ext
  simp
/-- The comparison at the end of a law. -/
theorem law_end {A B : Option ByteArray} {r : ByteArray} (hA : A = some r) (hB : B = some r) :
    (A.bind fun t => B.bind fun t' => if t'.toList = t.toList then some true else some false) = some true := by
  rw [hA, hB]; simp
theorem wf_i64 {n : Int} (h : (Lit.int .i64 n).wf = true) : -9223372036854775808 ≤ n ∧ n ≤ 9223372036854775807 := by
  simpa [Lit.wf, IntKind.min, IntKind.max, IntKind.bits, IntKind.signed] using h
/-- The same of two numbers. -/
theorem law_endI {A B : Option Int} {r : Int} (hA : A = some r) (hB : B = some r) :
    (A.bind fun t => B.bind fun t' => if t' = t then some true else some false) = some true := by
  rw [hA, hB]; simp

/-! strings of bytes -/
theorem ba_ext {a b : ByteArray} (h : a.data.toList = b.data.toList) : a = b := ByteArray.ext (Array.toList_inj.1 h)
theorem ba_inj {a b : ByteArray} : a.toList = b.toList ↔ a = b :=
  ⟨fun h => ba_ext (by rwa [Go.Lib.toList_data, Go.Lib.toList_data] at h), fun h => by rw [h]⟩
theorem ba_data_append (a b : ByteArray) : (a ++ b).data.toList = a.data.toList ++ b.data.toList := by simp
theorem ba_data_extract (s : ByteArray) (i j : Nat) : (s.extract i j).data.toList = (s.data.toList.drop i).take (j - i) := Go.Lib.extract_data s i j
theorem ba_split (s : ByteArray) (m : Nat) : s.extract 0 m ++ s.extract m s.size = s := by
  apply ba_ext
  rw [ba_data_append, ba_data_extract, ba_data_extract, Nat.sub_zero, List.drop_zero]
  rw [List.take_of_length_le (l := s.data.toList.drop m) (by rw [List.length_drop, data_length]; omega), List.take_append_drop]
theorem ba_append_inj {a b c : ByteArray} : a ++ b = a ++ c ↔ b = c := by
  constructor
  · intro h
    have h2 := congrArg (fun x : ByteArray => x.data.toList) h
    simp only [ba_data_append] at h2
    exact ba_ext (List.append_cancel_left h2)
  · intro h; rw [h]
theorem son_bytesOf (s : ByteArray) : strOfNums (bytesOf s) = s := by
  apply ba_ext
  rw [strOfNums_data, bytesOf, List.map_map]
  conv => rhs; rw [← List.map_id s.data.toList]
  apply List.map_congr_left
  intro b _
  simp
theorem ext_son (s : ByteArray) (i j : Nat) : s.extract i j = strOfNums (((bytesOf s).drop i).take (j - i)) := by
  apply ba_ext
  rw [ba_data_extract, strOfNums_data, List.map_take, List.map_drop]
  congr 2
  have := congrArg (fun x : ByteArray => x.data.toList) (son_bytesOf s)
  simp only [strOfNums_data] at this
  exact this.symm
theorem ba_extract_size (s : ByteArray) (i j : Nat) (hj : j ≤ s.size) : (s.extract i j).size = j - i := by
  rw [ByteArray.size_extract]; omega
theorem ba_nil_data : (⟨#[]⟩ : ByteArray).data.toList = [] := rfl
theorem ba_size0 {s : ByteArray} (h : s.size = 0) : s = ⟨#[]⟩ := by
  apply ba_ext
  rw [ba_nil_data]
  exact List.eq_nil_of_length_eq_zero (by rw [data_length]; exact h)
theorem bytesOf_son (l : List Int) (h : ∀ x ∈ l, 0 ≤ x ∧ x ≤ 255) : bytesOf (strOfNums l) = l := by
  unfold bytesOf
  rw [strOfNums_data, List.map_map]
  conv => rhs; rw [← List.map_id l]
  apply List.map_congr_left
  intro x hx
  have := h x hx
  simp only [Function.comp, id]
  rw [UInt8.toNat_ofNat']
  omega

theorem drop_bt (s : ByteArray) (i : Int) (h0 : 0 ≤ i) (h1 : i < s.size) : (bytesOf s).drop i.toNat = bt s i :: (bytesOf s).drop (i + 1).toNat := by
  have hl : i.toNat < (bytesOf s).length := by rw [bytesOf_length]; omega
  rw [List.drop_eq_getElem_cons hl, ← rd_bytesOf, show (i + 1).toNat = i.toNat + 1 by omega]
  congr 1
  unfold rd
  rw [List.getD_eq_getElem?_getD, List.getElem?_eq_getElem hl]; rfl

/-! loops that go over a row once -/
theorem some_loop {ρ : Type} (n : Nat) (hn : (n : Int) ≤ 4611686018427387904) (K : Nat) (g : Nat → Int → Int → Option ρ)
    (step : ∀ (k : Nat) (a i : Int), K ≤ k → 0 ≤ i → i < n → (∃ r, g (k + 1) a i = some r) ∨ ∃ a', g (k + 1) a i = g k a' (wrap64 (i + 1)))
    (fin : ∀ (k : Nat) (a i : Int), K ≤ k → 0 ≤ i → (n : Int) ≤ i → ∃ r, g (k + 1) a i = some r) :
    ∀ (d k : Nat) (a i : Int), 0 ≤ i → i + d = n → K + d < k → ∃ r, g k a i = some r
  | 0, k, a, i, h0, hi, hk => by
    obtain ⟨k, rfl⟩ : ∃ q, k = q + 1 := ⟨k - 1, by omega⟩
    exact fin k a i (by omega) h0 (by omega)
  | d + 1, k, a, i, h0, hi, hk => by
    obtain ⟨k, rfl⟩ : ∃ q, k = q + 1 := ⟨k - 1, by omega⟩
    rcases step k a i (by omega) h0 (by omega) with h | ⟨a', e⟩
    · exact h
    · rw [e, w64 (x := i + 1) (by omega) (by omega)]
      exact some_loop n hn K g step fin d k a' (i + 1) (by omega) (by omega) (by omega)
theorem skip_loop {ρ : Type} (r : ρ) (n : Nat) (hn : (n : Int) ≤ 4611686018427387904) (K : Nat) (g : Nat → Int → Option ρ)
    (step : ∀ (k : Nat) (i : Int), K ≤ k → 0 ≤ i → i < n → g (k + 1) i = g k (wrap64 (i + 1)))
    (fin : ∀ (k : Nat) (i : Int), K ≤ k → 0 ≤ i → (n : Int) ≤ i → g (k + 1) i = some r) :
    ∀ (d k : Nat) (i : Int), 0 ≤ i → i + d = n → K + d < k → g k i = some r
  | 0, k, i, h0, hi, hk => by
    obtain ⟨k, rfl⟩ : ∃ q, k = q + 1 := ⟨k - 1, by omega⟩
    exact fin k i (by omega) h0 (by omega)
  | d + 1, k, i, h0, hi, hk => by
    obtain ⟨k, rfl⟩ : ∃ q, k = q + 1 := ⟨k - 1, by omega⟩
    rw [step k i (by omega) h0 (by omega), w64 (x := i + 1) (by omega) (by omega)]
    exact skip_loop r n hn K g step fin d k (i + 1) (by omega) (by omega) (by omega)
theorem copy_loop {β : Type} (n : Nat) (hn : (n : Int) ≤ 4611686018427387904) (src : Nat → β) (K : Nat) (g : Nat → List β → Int → Option (List β))
    (step : ∀ (k : Nat) (x : List β) (i : Int), K ≤ k → 0 ≤ i → i < n → x.length = n → g (k + 1) x i = g k (x.set i.toNat (src i.toNat)) (wrap64 (i + 1)))
    (fin : ∀ (k : Nat) (x : List β) (i : Int), (n : Int) ≤ i → g (k + 1) x i = some x) :
    ∀ (d k : Nat) (x : List β) (i : Int), 0 ≤ i → i + d = n → K + d < k → x.length = n → g k x i = some (x.take i.toNat ++ (List.range' i.toNat d).map src)
  | 0, k, x, i, h0, hi, hk, hx => by
    obtain ⟨k, rfl⟩ : ∃ q, k = q + 1 := ⟨k - 1, by omega⟩
    rw [fin k x i (by omega), List.take_of_length_le (by omega)]
    simp
  | d + 1, k, x, i, h0, hi, hk, hx => by
    obtain ⟨k, rfl⟩ : ∃ q, k = q + 1 := ⟨k - 1, by omega⟩
    rw [step k x i (by omega) h0 (by omega) hx, w64 (x := i + 1) (by omega) (by omega),
      copy_loop n hn src K g step fin d k _ (i + 1) (by omega) (by omega) (by omega) (by rw [List.length_set]; exact hx)]
    congr 1
    rw [show (i + 1).toNat = i.toNat + 1 by omega, List.range'_succ, List.map_cons, List.take_succ_eq_append_getElem (by rw [List.length_set]; omega), List.getElem_set_self, List.take_set_of_le (by omega), List.append_assoc]
    rfl
theorem copy_all {β : Type} (n : Nat) (hn : (n : Int) ≤ 4611686018427387904) (src : Nat → β) (K : Nat) (g : Nat → List β → Int → Option (List β)) (z : β)
    (step : ∀ (k : Nat) (x : List β) (i : Int), K ≤ k → 0 ≤ i → i < n → x.length = n → g (k + 1) x i = g k (x.set i.toNat (src i.toNat)) (wrap64 (i + 1)))
    (fin : ∀ (k : Nat) (x : List β) (i : Int), (n : Int) ≤ i → g (k + 1) x i = some x) (k : Nat) (hk : K + n < k) :
    g k (List.replicate n z) 0 = some ((List.range n).map src) := by
  rw [copy_loop n hn src K g step fin n k _ 0 (by omega) (by omega) hk (by simp)]
  simp [List.range_eq_range']
theorem range_map_getD {α β : Type} (l : List α) (z : α) (f : α → β) : (List.range l.length).map (fun j => f (l.getD j z)) = l.map f := by
  apply List.ext_getElem
  · simp
  · intro i h1 h2
    simp only [List.getElem_map, List.getElem_range]
    rw [List.getD_eq_getElem?_getD, List.getElem?_eq_getElem (by simpa using h1)]
    rfl
theorem all_loop (fin : Bool) (f : Nat → Bool) (n : Nat) (hn : (n : Int) ≤ 4611686018427387904) (K : Nat) (g : Nat → Int → Option Bool)
    (step : ∀ (k : Nat) (i : Int), K ≤ k → 0 ≤ i → i < n → g (k + 1) i = if f i.toNat = true then g k (wrap64 (i + 1)) else some false)
    (hfin : ∀ (k : Nat) (i : Int), K ≤ k → 0 ≤ i → (n : Int) ≤ i → g (k + 1) i = some fin) :
    ∀ (d k : Nat) (i : Int), 0 ≤ i → i + d = n → K + d < k → g k i = some ((List.range' i.toNat d).all f && fin)
  | 0, k, i, h0, hi, hk => by
    obtain ⟨k, rfl⟩ : ∃ q, k = q + 1 := ⟨k - 1, by omega⟩
    rw [hfin k i (by omega) h0 (by omega)]; simp
  | d + 1, k, i, h0, hi, hk => by
    obtain ⟨k, rfl⟩ : ∃ q, k = q + 1 := ⟨k - 1, by omega⟩
    rw [step k i (by omega) h0 (by omega), w64 (x := i + 1) (by omega) (by omega), List.range'_succ, List.all_cons]
    cases hf : f i.toNat with
    | false => simp
    | true =>
      rw [if_pos rfl, all_loop fin f n hn K g step hfin d k (i + 1) (by omega) (by omega) (by omega), show (i + 1).toNat = i.toNat + 1 by omega]
      simp

/-! lists of RDNs: brought over, held beside each other, weighed -/
def cvRdn (x : S50) : S42 := ⟨x.f0, x.f1⟩
theorem laws_szRdnS_f (l : List S50) (hl : (l.length : Int) ≤ 4611686018427387904) (a : Int) (k : Nat) (hk : l.length < k) : ∃ r, laws_szRdnS.f k l a = some r := by
  unfold laws_szRdnS.f
  split
  · exact ⟨_, rfl⟩
  · refine some_loop l.length hl 0 (fun k a i => laws_szRdnS.l0 k l a i) (fun k a i _ h0 hi => ?_) (fun k a i _ h0 hi => ?_) l.length k _ 0 (by omega) (by omega) (by omega)
    · show (∃ r, laws_szRdnS.l0 (k + 1) l a i = some r) ∨ ∃ a', laws_szRdnS.l0 (k + 1) l a i = laws_szRdnS.l0 k l a' (wrap64 (i + 1))
      rw [laws_szRdnS.l0, if_pos hi, if_pos h0]
      unfold laws_szRdn.f
      repeat' split
      all_goals simp only [Option.bind_some]
      all_goals (try split)
      all_goals first | exact .inl ⟨_, rfl⟩ | exact .inr ⟨_, rfl⟩
    · show ∃ r, laws_szRdnS.l0 (k + 1) l a i = some r
      rw [laws_szRdnS.l0, if_neg (by omega)]
      exact ⟨_, rfl⟩
theorem laws_toRdnS_f (l : List S50) (hl : l.length ≤ 8796093022208) (k : Nat) (hk : l.length < k) : laws_toRdnS.f k l = some (l.map cvRdn) := by
  unfold laws_toRdnS.f
  rw [if_pos (by omega), if_pos (by omega), show ((l.length : Int)).toNat = l.length from rfl,
    copy_all l.length (by omega) (fun j => cvRdn (l.getD j z50)) 0 (fun k x i => laws_toRdnS.l0 k l x i) z42 (fun k x i _ h0 hi hx => ?_) (fun k x i hi => ?_) k (by omega), range_map_getD]
  · show laws_toRdnS.l0 (k + 1) l x i = _
    rw [laws_toRdnS.l0, if_pos hi, if_pos h0]
    unfold laws_toRdn.f
    simp only [Option.bind_some]
    rw [if_pos (by omega)]
    rfl
  · show laws_toRdnS.l0 (k + 1) l x i = _
    rw [laws_toRdnS.l0, if_neg (by omega)]
theorem laws_eqRdnS_f (l : List S42) (hl : (l.length : Int) ≤ 4611686018427387904) (k : Nat) (hk : l.length < k) : laws_eqRdnS.f k l l = some true := by
  unfold laws_eqRdnS.f
  rw [if_pos rfl]
  refine skip_loop true l.length hl 0 (fun k i => laws_eqRdnS.l0 k l l i) (fun k i _ h0 hi => ?_) (fun k i _ h0 hi => ?_) l.length k 0 (by omega) (by omega) (by omega)
  · show laws_eqRdnS.l0 (k + 1) l l i = laws_eqRdnS.l0 k l l (wrap64 (i + 1))
    rw [laws_eqRdnS.l0, if_pos hi, if_pos h0, if_pos hi]
    unfold laws_eqRdn.f
    rw [if_pos rfl, if_pos rfl]
    simp
  · show laws_eqRdnS.l0 (k + 1) l l i = _
    rw [laws_eqRdnS.l0, if_neg (by omega)]

/-! lists of strings -/
theorem laws_szStringS_f (l : List ByteArray) (hl : (l.length : Int) ≤ 4611686018427387904) (a : Int) (k : Nat) (hk : l.length < k) : ∃ r, laws_szStringS.f k l a = some r := by
  unfold laws_szStringS.f
  split
  · exact ⟨_, rfl⟩
  · refine some_loop l.length hl 0 (fun k a i => laws_szStringS.l0 k l a i) (fun k a i _ h0 hi => ?_) (fun k a i _ h0 hi => ?_) l.length k _ 0 (by omega) (by omega) (by omega)
    · show (∃ r, laws_szStringS.l0 (k + 1) l a i = some r) ∨ ∃ a', laws_szStringS.l0 (k + 1) l a i = laws_szStringS.l0 k l a' (wrap64 (i + 1))
      rw [laws_szStringS.l0, if_pos hi, if_pos h0]
      repeat' split
      all_goals first | exact .inl ⟨_, rfl⟩ | exact .inr ⟨_, rfl⟩
    · show ∃ r, laws_szStringS.l0 (k + 1) l a i = some r
      rw [laws_szStringS.l0, if_neg (by omega)]
      exact ⟨_, rfl⟩
theorem laws_toStringS_f (l : List ByteArray) (hl : l.length ≤ 17592186044416) (k : Nat) (hk : l.length < k) : laws_toStringS.f k l = some l := by
  unfold laws_toStringS.f
  rw [if_pos (by omega), if_pos (by omega), show ((l.length : Int)).toNat = l.length from rfl,
    copy_all l.length (by omega) (fun j => id (l.getD j ByteArray.empty)) 0 (fun k x i => laws_toStringS.l0 k l x i) (⟨#[]⟩ : ByteArray) (fun k x i _ h0 hi hx => ?_) (fun k x i hi => ?_) k (by omega), range_map_getD]
  · rw [List.map_id]
  · show laws_toStringS.l0 (k + 1) l x i = _
    rw [laws_toStringS.l0, if_pos hi, if_pos h0, if_pos (by omega)]
    rfl
  · show laws_toStringS.l0 (k + 1) l x i = _
    rw [laws_toStringS.l0, if_neg (by omega)]
theorem laws_eqStringS_f (l : List ByteArray) (hl : (l.length : Int) ≤ 4611686018427387904) (k : Nat) (hk : l.length < k) : laws_eqStringS.f k l l = some true := by
  unfold laws_eqStringS.f
  rw [if_pos rfl]
  refine skip_loop true l.length hl 0 (fun k i => laws_eqStringS.l0 k l l i) (fun k i _ h0 hi => ?_) (fun k i _ h0 hi => ?_) l.length k 0 (by omega) (by omega) (by omega)
  · show laws_eqStringS.l0 (k + 1) l l i = laws_eqStringS.l0 k l l (wrap64 (i + 1))
    rw [laws_eqStringS.l0, if_pos hi, if_pos h0, if_pos hi]
    simp
  · show laws_eqStringS.l0 (k + 1) l l i = _
    rw [laws_eqStringS.l0, if_neg (by omega)]

/-! lists of attributes: brought over, held beside each other, weighed -/
abbrev At := S114
def cvAttr (x : S140) : At := ⟨x.f0, x.f1⟩
theorem laws_szAttrS_f (l : List S140) (hl : (l.length : Int) ≤ 4611686018427387904) (a : Int) (M : Nat) (hM : ∀ x ∈ l, x.f1.length ≤ M ∧ (x.f1.length : Int) ≤ 4611686018427387904) (k : Nat) (hk : l.length + M + 1 < k) : ∃ r, laws_szAttrS.f k l a = some r := by
  unfold laws_szAttrS.f
  split
  · exact ⟨_, rfl⟩
  · refine some_loop l.length hl (M + 1) (fun k a i => laws_szAttrS.l0 k l a i) (fun k a i hk h0 hi => ?_) (fun k a i _ h0 hi => ?_) l.length k _ 0 (by omega) (by omega) (by omega)
    · show (∃ r, laws_szAttrS.l0 (k + 1) l a i = some r) ∨ ∃ a', laws_szAttrS.l0 (k + 1) l a i = laws_szAttrS.l0 k l a' (wrap64 (i + 1))
      have hmem : rd_T140 l i ∈ l := by
        have hi2 : i.toNat < l.length := by omega
        unfold rd_T140
        rw [List.getD_eq_getElem?_getD, List.getElem?_eq_getElem hi2]
        exact List.getElem_mem hi2
      obtain ⟨m1, m2⟩ := hM _ hmem
      rw [laws_szAttrS.l0, if_pos hi, if_pos h0]
      unfold laws_szAttr.f
      split
      · simp only [Option.bind_some]
        rw [if_pos (by omega)]
        exact .inl ⟨_, rfl⟩
      · obtain ⟨r, e⟩ := laws_szStringS_f (rd_T140 l i).f1 m2 (wrap64 (a - ((rd_T140 l i).f0.size : Int))) k (by omega)
        rw [e]
        simp only [Option.bind_some]
        by_cases h : r < 0
        · rw [if_pos h]
          simp only [Option.bind_some]
          rw [if_pos (by omega)]
          exact .inl ⟨_, rfl⟩
        · rw [if_neg h]
          simp only [Option.bind_some]
          rw [if_neg h]
          exact .inr ⟨_, rfl⟩
    · show ∃ r, laws_szAttrS.l0 (k + 1) l a i = some r
      rw [laws_szAttrS.l0, if_neg (by omega)]
      exact ⟨_, rfl⟩
theorem laws_toAttrS_f (l : List S140) (hl : l.length ≤ 7036874417766) (M : Nat) (hM : ∀ x ∈ l, x.f1.length ≤ M ∧ x.f1.length ≤ 17592186044416) (k : Nat) (hk : l.length + M + 1 < k) : laws_toAttrS.f k l = some (l.map cvAttr) := by
  unfold laws_toAttrS.f
  rw [if_pos (by omega), if_pos (by omega), show ((l.length : Int)).toNat = l.length from rfl,
    copy_all l.length (by omega) (fun j => cvAttr (l.getD j z140)) (M + 1) (fun k x i => laws_toAttrS.l0 k l x i) z114 (fun k x i hk h0 hi hx => ?_) (fun k x i hi => ?_) k (by omega), range_map_getD]
  · show laws_toAttrS.l0 (k + 1) l x i = _
    have hmem : rd_T140 l i ∈ l := by
      have hi2 : i.toNat < l.length := by omega
      unfold rd_T140
      rw [List.getD_eq_getElem?_getD, List.getElem?_eq_getElem hi2]
      exact List.getElem_mem hi2
    obtain ⟨m1, m2⟩ := hM _ hmem
    rw [laws_toAttrS.l0, if_pos hi, if_pos h0]
    unfold laws_toAttr.f
    rw [laws_toStringS_f _ m2 k (by omega)]
    simp only [Option.bind_some]
    rw [if_pos (by omega)]
    rfl
  · show laws_toAttrS.l0 (k + 1) l x i = _
    rw [laws_toAttrS.l0, if_neg (by omega)]
theorem laws_eqAttrS_f (l : List At) (hl : (l.length : Int) ≤ 4611686018427387904) (M : Nat) (hM : ∀ x ∈ l, x.f1.length ≤ M ∧ (x.f1.length : Int) ≤ 4611686018427387904) (k : Nat) (hk : l.length + M + 1 < k) : laws_eqAttrS.f k l l = some true := by
  unfold laws_eqAttrS.f
  rw [if_pos rfl]
  refine skip_loop true l.length hl (M + 1) (fun k i => laws_eqAttrS.l0 k l l i) (fun k i hk h0 hi => ?_) (fun k i _ h0 hi => ?_) l.length k 0 (by omega) (by omega) (by omega)
  · show laws_eqAttrS.l0 (k + 1) l l i = laws_eqAttrS.l0 k l l (wrap64 (i + 1))
    have hmem : rd_T114 l i ∈ l := by
      have hi2 : i.toNat < l.length := by omega
      unfold rd_T114
      rw [List.getD_eq_getElem?_getD, List.getElem?_eq_getElem hi2]
      exact List.getElem_mem hi2
    obtain ⟨m1, m2⟩ := hM _ hmem
    rw [laws_eqAttrS.l0, if_pos hi, if_pos h0, if_pos hi]
    unfold laws_eqAttr.f
    rw [if_pos rfl, laws_eqStringS_f _ m2 k (by omega)]
    simp
  · show laws_eqAttrS.l0 (k + 1) l l i = _
    rw [laws_eqAttrS.l0, if_neg (by omega)]

/-! Norm -/
/-- A capital as a small letter. -/
def up (c : Int) : Int := if 65 ≤ c ∧ c ≤ 90 then c + 32 else c
/-- A byte put behind what is there: no blank at the begin, none behind another. -/
def nput (l : List Int) (c : Int) : List Int := if c = 32 ∧ (l = [] ∨ rd l ((l.length : Int) - 1) = 32) then l else l ++ [c]
def nfold (l cs : List Int) : List Int := cs.foldl (fun l c => nput l (up c)) l
def ntrim (l : List Int) : List Int := if l ≠ [] ∧ rd l ((l.length : Int) - 1) = 32 then l.take (l.length - 1) else l
def prt (c : Int) : Bool := decide (32 ≤ c) && decide (c ≤ 126)
theorem prt_lo {c : Int} (h : c < 32) : prt c = false := by unfold prt; rw [decide_eq_false (by omega)]; rfl
theorem prt_hi {c : Int} (h : c > 126) : prt c = false := by unfold prt; rw [decide_eq_false (p := c ≤ 126) (by omega)]; simp
def plainP (s : ByteArray) : Bool := (bytesOf s).all prt
def NormL (s : ByteArray) : List Int := if s.size ≤ 100 ∧ plainP s = true then ntrim (nfold [] (bytesOf s)) else []
def NormP (s : ByteArray) : ByteArray := strOfNums (NormL s)
theorem son_nil : strOfNums [] = (⟨#[]⟩ : ByteArray) := rfl
theorem spec_l02Plain_l0 (s : ByteArray) (hs : s.size ≤ 4611686018427387904) : ∀ (d k : Nat) (i : Int), 0 ≤ i → i + d = s.size → d < k →
    spec_l02Plain.l0 k s i = some (((bytesOf s).drop i.toNat).all prt)
  | 0, k, i, h0, hd, hk => by
    obtain ⟨k, rfl⟩ : ∃ m, k = m + 1 := ⟨k - 1, by omega⟩
    simp only [spec_l02Plain.l0]
    rw [if_neg (by omega), List.drop_of_length_le (by rw [bytesOf_length]; omega)]; rfl
  | d + 1, k, i, h0, hd, hk => by
    obtain ⟨k, rfl⟩ : ∃ m, k = m + 1 := ⟨k - 1, by omega⟩
    simp only [spec_l02Plain.l0]
    rw [if_pos (by omega), if_pos h0, drop_bt s i h0 (by omega), List.all_cons]
    by_cases h1 : bt s i < 32
    · rw [if_pos h1, show prt (bt s i) = false from prt_lo h1]; rfl
    · rw [if_neg h1]
      by_cases h2 : bt s i > 126
      · rw [if_pos h2, show prt (bt s i) = false from prt_hi h2]; rfl
      · rw [if_neg h2, w64 (by omega) (by omega), spec_l02Plain_l0 s hs d k (i + 1) (by omega) (by omega) (by omega)]
        simp [prt, show 32 ≤ bt s i by omega, show bt s i ≤ 126 by omega]
theorem spec_l02Plain_f (s : ByteArray) (hs : s.size ≤ 4611686018427387904) (k : Nat) (hk : s.size < k) : spec_l02Plain.f k s = some (plainP s) := by
  unfold spec_l02Plain.f
  rw [spec_l02Plain_l0 s hs s.size k 0 (by omega) (by omega) hk]; rfl
theorem impl_isPrintable_l0 (s : ByteArray) (hs : s.size ≤ 4611686018427387904) : ∀ (d k : Nat) (i : Int), 0 ≤ i → i + d = s.size → d < k →
    impl_isPrintable.l0 k s (s.size : Int) i = some (((bytesOf s).drop i.toNat).all prt)
  | 0, k, i, h0, hd, hk => by
    obtain ⟨k, rfl⟩ : ∃ m, k = m + 1 := ⟨k - 1, by omega⟩
    simp only [impl_isPrintable.l0]
    rw [if_neg (by omega), List.drop_of_length_le (by rw [bytesOf_length]; omega)]; rfl
  | d + 1, k, i, h0, hd, hk => by
    obtain ⟨k, rfl⟩ : ∃ m, k = m + 1 := ⟨k - 1, by omega⟩
    simp only [impl_isPrintable.l0]
    rw [if_pos (by omega), if_pos h0, if_pos (by omega), drop_bt s i h0 (by omega), List.all_cons]
    by_cases h1 : bt s i < 32
    · rw [if_pos h1, show prt (bt s i) = false from prt_lo h1]; rfl
    · rw [if_neg h1]
      by_cases h2 : bt s i > 126
      · rw [if_pos h2, show prt (bt s i) = false from prt_hi h2]; rfl
      · rw [if_neg h2, w64 (by omega) (by omega), impl_isPrintable_l0 s hs d k (i + 1) (by omega) (by omega) (by omega)]
        simp [prt, show 32 ≤ bt s i by omega, show bt s i ≤ 126 by omega]
theorem impl_isPrintable_f (s : ByteArray) (hs : s.size ≤ 4611686018427387904) (k : Nat) (hk : s.size < k) : impl_isPrintable.f k s = some (plainP s) := by
  unfold impl_isPrintable.f
  rw [impl_isPrintable_l0 s hs s.size k 0 (by omega) (by omega) hk]; rfl
theorem nput_length (l : List Int) (c : Int) : (nput l c).length ≤ l.length + 1 := by
  unfold nput; split <;> simp
theorem up_of {c : Int} (h0 : 0 ≤ c) (h1 : c ≤ 255) (b : Bool) (hb : b = (decide (c ≥ 65) && decide (c ≤ 90))) : (if b = true then (c + 32) % 256 else c) = up c := by
  unfold up
  subst hb
  by_cases h : 65 ≤ c ∧ c ≤ 90
  · rw [if_pos h, if_pos (by simp [h.1, h.2])]; omega
  · rw [if_neg h, if_neg (by simpa using h)]
theorem spec_Norm_j2 (k : Nat) (s : ByteArray) (l : List Int) (i c : Int) (b : Bool) (hl : l.length < 1000) (h0 : 0 ≤ i) (h1 : i < 1000) :
    spec_Norm.j2 (k + 1) s l i c b = spec_Norm.l0 k s (nput l (if b = true then (c + 32) % 256 else c)) (i + 1) := by
  simp only [spec_Norm.j2]
  rw [w64 (x := i + 1) (by omega) (by omega), w64 (x := (l.length : Int) - 1) (by omega) (by omega), if_pos (show l.length < 140737488355328 by omega), if_pos (show l.length < 140737488355328 by omega)]
  have key : ∀ c : Int, (if c = 32 then (if (l.length : Int) = 0 then spec_Norm.l0 k s l (i + 1) else (if 0 ≤ (l.length : Int) - 1 then (if (l.length : Int) - 1 < (l.length : Int) then (if rd l ((l.length : Int) - 1) = 32 then spec_Norm.l0 k s l (i + 1) else spec_Norm.l0 k s (l ++ [c]) (i + 1)) else none) else none)) else spec_Norm.l0 k s (l ++ [c]) (i + 1)) = spec_Norm.l0 k s (nput l c) (i + 1) := by
    intro c
    unfold nput
    by_cases hc : c = 32
    · rw [if_pos hc]
      by_cases hn : l = []
      · rw [if_pos (by simp [hn]), if_pos ⟨hc, .inl hn⟩]
      · have : 0 < l.length := List.length_pos_iff.2 hn
        rw [if_neg (by omega), if_pos (by omega), if_pos (by omega)]
        by_cases hr : rd l ((l.length : Int) - 1) = 32
        · rw [if_pos hr, if_pos ⟨hc, .inr hr⟩]
        · rw [if_neg hr, if_neg (fun x => x.2.elim hn hr)]
    · rw [if_neg hc, if_neg (fun x => hc x.1)]
  cases b
  · exact key c
  · exact key _
theorem impl_Norm_j2 (k : Nat) (s : ByteArray) (l : List Int) (n i c : Int) (b : Bool) (hl : l.length < 1000) (h0 : 0 ≤ i) (h1 : i < 1000) :
    impl_Norm.j2 (k + 1) s l c n i b = impl_Norm.l0 k s (nput l (if b = true then (c + 32) % 256 else c)) n (i + 1) := by
  simp only [impl_Norm.j2]
  rw [w64 (x := i + 1) (by omega) (by omega), w64 (x := (l.length : Int) - 1) (by omega) (by omega), if_pos (show l.length < 140737488355328 by omega), if_pos (show l.length < 140737488355328 by omega)]
  have key : ∀ c : Int, (if c = 32 then (if (l.length : Int) > 0 then (if 0 ≤ (l.length : Int) - 1 then (if (l.length : Int) - 1 < (l.length : Int) then (if rd l ((l.length : Int) - 1) = 32 then impl_Norm.l0 k s l n (i + 1) else impl_Norm.l0 k s (l ++ [c]) n (i + 1)) else none) else none) else impl_Norm.l0 k s l n (i + 1)) else impl_Norm.l0 k s (l ++ [c]) n (i + 1)) = impl_Norm.l0 k s (nput l c) n (i + 1) := by
    intro c
    unfold nput
    by_cases hc : c = 32
    · rw [if_pos hc]
      by_cases hn : l = []
      · rw [if_neg (by simp [hn]), if_pos ⟨hc, .inl hn⟩]
      · have : 0 < l.length := List.length_pos_iff.2 hn
        rw [if_pos (by omega), if_pos (by omega), if_pos (by omega)]
        by_cases hr : rd l ((l.length : Int) - 1) = 32
        · rw [if_pos hr, if_pos ⟨hc, .inr hr⟩]
        · rw [if_neg hr, if_neg (fun x => x.2.elim hn hr)]
    · rw [if_neg hc, if_neg (fun x => hc x.1)]
  cases b
  · exact key c
  · exact key _
theorem spec_Norm_l0 (s : ByteArray) (hs : s.size ≤ 100) : ∀ (d k : Nat) (i : Int) (l : List Int), 0 ≤ i → i + d = s.size → 2 * d < k → l.length ≤ i →
    spec_Norm.l0 k s l i = some (strOfNums (ntrim (nfold l ((bytesOf s).drop i.toNat))))
  | 0, k, i, l, h0, hd, hk, hl => by
    obtain ⟨k, rfl⟩ : ∃ m, k = m + 1 := ⟨k - 1, by omega⟩
    simp only [spec_Norm.l0]
    rw [if_neg (by omega), List.drop_of_length_le (by rw [bytesOf_length]; omega)]
    rw [show nfold l [] = l from rfl]
    unfold ntrim
    by_cases hn : l = []
    · subst hn; simp
    · have : 0 < l.length := List.length_pos_iff.2 hn
      rw [w64 (x := (l.length : Int) - 1) (by omega) (by omega), if_pos (by omega), if_pos (by omega), if_pos (by omega)]
      by_cases hr : rd l ((l.length : Int) - 1) = 32
      · rw [if_pos hr, if_pos (show (l.length : Int) - 1 ≤ (l.length : Int) by omega), if_pos ⟨hn, hr⟩, show ((l.length : Int) - 1).toNat = l.length - 1 by omega]
      · rw [if_neg hr, if_neg (fun x => hr x.2)]
  | d + 1, k, i, l, h0, hd, hk, hl => by
    obtain ⟨k, rfl⟩ : ∃ m, k = m + 2 := ⟨k - 2, by omega⟩
    have hb := bt_range s i
    have hj : ∀ b : Bool, b = (decide (bt s i ≥ 65) && decide (bt s i ≤ 90)) → spec_Norm.j2 (k + 1) s l i (bt s i) b = some (strOfNums (ntrim (nfold l ((bytesOf s).drop i.toNat)))) := by
      intro b hbb
      rw [spec_Norm_j2 k s l i _ b (by omega) h0 (by omega), up_of hb.1 hb.2 b hbb]
      have := nput_length l (up (bt s i))
      rw [spec_Norm_l0 s hs d k (i + 1) _ (by omega) (by omega) (by omega) (by omega), drop_bt s i h0 (by omega)]; rfl
    simp only [spec_Norm.l0]
    rw [if_pos (by omega), if_pos h0]
    by_cases h : bt s i ≥ 65
    · rw [if_pos h]; exact hj _ (by simp [h])
    · rw [if_neg h]; exact hj _ (by simp [h])
theorem son_take (l : List Int) (n : Nat) : (strOfNums l).extract 0 n = strOfNums (l.take n) := by
  apply ba_ext
  rw [ByteArray.data_extract, Array.toList_extract, strOfNums_data, strOfNums_data]
  simp [List.extract]
theorem son_drop (l : List Int) (n : Nat) : (strOfNums l).extract n (strOfNums l).size = strOfNums (l.drop n) := by
  apply ba_ext
  rw [ByteArray.data_extract, Array.toList_extract, strOfNums_data, strOfNums_data, strOfNums_size]
  simp only [List.extract, List.map_drop]
  exact List.take_of_length_le (by simp)
theorem drop_last (l : List Int) (h : 0 < l.length) : l.drop (l.length - 1) = [rd l ((l.length : Int) - 1)] := by
  rw [List.drop_eq_getElem_cons (by omega), List.drop_of_length_le (by omega)]
  congr 1
  unfold rd
  rw [show ((l.length : Int) - 1).toNat = l.length - 1 by omega, List.getD_eq_getElem?_getD, List.getElem?_eq_getElem (by omega)]; rfl
theorem trim_blank (l : List Int) (hl : l.length < 1000) (hr : ∀ x ∈ l, 0 ≤ x ∧ x ≤ 255) : strings_TrimSuffix.f (strOfNums l) (⟨#[32]⟩ : ByteArray) = some (strOfNums (ntrim l)) := by
  have hz : (⟨#[32]⟩ : ByteArray).size = 1 := rfl
  unfold strings_TrimSuffix.f stringslite_TrimSuffix.f stringslite_HasSuffix.f ntrim
  rw [hz]
  by_cases hn : l = []
  · subst hn
    rw [if_neg (show ¬ (((strOfNums []).size : Int) ≥ ((1 : Nat) : Int)) by decide)]; rfl
  · have hp : 0 < l.length := List.length_pos_iff.2 hn
    have hin : rd l ((l.length : Int) - 1) ∈ l := by have h := drop_last l hp; exact List.mem_of_mem_drop (i := l.length - 1) (by rw [h]; simp)
    have hb := hr _ hin
    simp only [strOfNums_size, Int.natCast_one]
    rw [w64 (x := (l.length : Int) - 1) (by omega) (by omega), if_pos (by omega), if_pos (by omega), if_pos (by omega)]
    simp only [Option.bind_some]
    have e1 : (strOfNums l).extract ((l.length : Int) - 1).toNat l.length = strOfNums [rd l ((l.length : Int) - 1)] := by
      rw [← drop_last l hp, ← son_drop, strOfNums_size, show ((l.length : Int) - 1).toNat = l.length - 1 by omega]
    rw [e1]
    have e2 : ((strOfNums [rd l ((l.length : Int) - 1)]).toList == (⟨#[32]⟩ : ByteArray).toList) = decide (rd l ((l.length : Int) - 1) = 32) := by
      rw [Go.Lib.toList_data, Go.Lib.toList_data, strOfNums_data]
      generalize rd l ((l.length : Int) - 1) = x at hb
      have key : ∀ z : Fin 256, (([(z.val : Int)].map fun n => UInt8.ofNat n.toNat) == (⟨#[32]⟩ : ByteArray).data.toList) = decide ((z.val : Int) = 32) := by decide +kernel
      have := key ⟨x.toNat, by omega⟩
      simpa [Int.toNat_of_nonneg hb.1] using this
    rw [e2]
    by_cases h : rd l ((l.length : Int) - 1) = 32
    · rw [decide_eq_true h]
      simp only [if_true, Option.bind_some]
      rw [if_pos (show l ≠ [] ∧ rd l ((l.length : Int) - 1) = 32 from ⟨hn, h⟩), son_take, show ((l.length : Int) - 1).toNat = l.length - 1 by omega, if_pos (show 0 ≤ (l.length : Int) - 1 by omega), if_pos (show (l.length : Int) - 1 ≤ (l.length : Int) by omega)]; rfl
    · rw [decide_eq_false h, if_neg (show ¬ (l ≠ [] ∧ rd l ((l.length : Int) - 1) = 32) from fun x => h x.2)]; rfl
theorem nput_range {l : List Int} {c : Int} (hl : ∀ x ∈ l, 0 ≤ x ∧ x ≤ 255) (hc : 0 ≤ c ∧ c ≤ 255) : ∀ x ∈ nput l c, 0 ≤ x ∧ x ≤ 255 := by
  intro x hx
  unfold nput at hx
  split at hx
  · exact hl x hx
  · rcases List.mem_append.1 hx with h | h
    · exact hl x h
    · rw [List.mem_singleton.1 h]; exact hc
theorem up_range {c : Int} (hc : 0 ≤ c ∧ c ≤ 255) : 0 ≤ up c ∧ up c ≤ 255 := by unfold up; split <;> omega
theorem impl_Norm_l0 (s : ByteArray) (hs : s.size ≤ 100) : ∀ (d k : Nat) (i : Int) (l : List Int), 0 ≤ i → i + d = s.size → 2 * d < k → l.length ≤ i → (∀ x ∈ l, 0 ≤ x ∧ x ≤ 255) →
    impl_Norm.l0 k s l (s.size : Int) i = some (strOfNums (ntrim (nfold l ((bytesOf s).drop i.toNat))))
  | 0, k, i, l, h0, hd, hk, hl, hr => by
    obtain ⟨k, rfl⟩ : ∃ m, k = m + 1 := ⟨k - 1, by omega⟩
    simp only [impl_Norm.l0]
    rw [if_neg (by omega), List.drop_of_length_le (by rw [bytesOf_length]; omega), trim_blank l (by omega) hr]
    rfl
  | d + 1, k, i, l, h0, hd, hk, hl, hr => by
    obtain ⟨k, rfl⟩ : ∃ m, k = m + 2 := ⟨k - 2, by omega⟩
    have hb := bt_range s i
    have hj : ∀ b : Bool, b = (decide (bt s i ≥ 65) && decide (bt s i ≤ 90)) → impl_Norm.j2 (k + 1) s l (bt s i) (s.size : Int) i b = some (strOfNums (ntrim (nfold l ((bytesOf s).drop i.toNat)))) := by
      intro b hbb
      rw [impl_Norm_j2 k s l _ i _ b (by omega) h0 (by omega), up_of hb.1 hb.2 b hbb]
      have := nput_length l (up (bt s i))
      rw [impl_Norm_l0 s hs d k (i + 1) _ (by omega) (by omega) (by omega) (by omega) (nput_range hr (up_range hb)), drop_bt s i h0 (by omega)]; rfl
    simp only [impl_Norm.l0]
    rw [if_pos (by omega), if_pos h0, if_pos (by omega)]
    by_cases h : bt s i ≥ 65
    · rw [if_pos h]; exact hj _ (by simp [h])
    · rw [if_neg h]; exact hj _ (by simp [h])
theorem spec_Norm_f (s : ByteArray) (k : Nat) (hk : 2 * s.size + 2 < k) : spec_Norm.f k s = some (NormP s) := by
  obtain ⟨k, rfl⟩ : ∃ m, k = m + 1 := ⟨k - 1, by omega⟩
  unfold spec_Norm.f NormP NormL
  by_cases h : s.size ≤ 100
  · rw [if_neg (by omega), spec_l02Plain_f s (by omega) _ (by omega)]
    simp only [Option.bind_some, spec_Norm.j0]
    by_cases hp : plainP s = true
    · rw [if_neg (by simp [hp]), if_pos ⟨h, hp⟩, spec_Norm_l0 s h s.size k 0 [] (by omega) (by omega) (by omega) (by simp)]; rfl
    · rw [if_pos (by simp [hp]), if_neg (fun x => hp x.2)]; rfl
  · rw [if_pos (by omega), if_neg (fun x => h x.1)]
    simp only [spec_Norm.j0, if_true]; rfl
theorem impl_Norm_f (s : ByteArray) (k : Nat) (hk : 2 * s.size + 2 < k) : impl_Norm.f k s = some (NormP s) := by
  obtain ⟨k, rfl⟩ : ∃ m, k = m + 1 := ⟨k - 1, by omega⟩
  unfold impl_Norm.f NormP NormL
  by_cases h : s.size ≤ 100
  · rw [if_neg (by omega), impl_isPrintable_f s (by omega) _ (by omega)]
    simp only [Option.bind_some, impl_Norm.j0]
    by_cases hp : plainP s = true
    · rw [if_neg (by simp [hp]), if_pos ⟨h, hp⟩, impl_Norm_l0 s h s.size k 0 [] (by omega) (by omega) (by omega) (by simp) (by simp)]; rfl
    · rw [if_pos (by simp [hp]), if_neg (fun x => hp x.2)]; rfl
  · rw [if_pos (by omega), if_neg (fun x => h x.1)]
    simp only [impl_Norm.j0, if_true]; rfl

/-! NameRight -/
def lowc (c : Int) : Bool := decide (97 ≤ c) && decide (c ≤ 122)
def nch (c : Int) : Bool := lowc c || (decide (48 ≤ c) && decide (c ≤ 57)) || decide (c = 95)
/-- What NameRight says. -/
def NameP (s : ByteArray) : Bool := decide (1 ≤ s.size) && decide (s.size ≤ 20) && lowc (bt s 0) && (bytesOf s).all nch
theorem spec_NameRight_l0 (s : ByteArray) (hs : s.size ≤ 20) : ∀ (d k : Nat) (i : Int), 0 ≤ i → i + d = s.size → d < k →
    spec_NameRight.l0 k s i = some ((decide (i ≠ 0) || decide (s.size = 0) || lowc (bt s 0)) && ((bytesOf s).drop i.toNat).all nch)
  | 0, k, i, h0, hi, hk => by
    obtain ⟨k, rfl⟩ : ∃ q, k = q + 1 := ⟨k - 1, by omega⟩
    rw [spec_NameRight.l0, if_neg (by omega), List.drop_of_length_le (by rw [bytesOf_length]; omega), List.all_nil, Bool.and_true]
    by_cases hz : i = 0
    · rw [decide_eq_true (p := s.size = 0) (by omega)]; simp
    · rw [decide_eq_true (p := i ≠ 0) hz]; rfl
  | d + 1, k, i, h0, hi, hk => by
    obtain ⟨k, rfl⟩ : ∃ q, k = q + 1 := ⟨k - 1, by omega⟩
    have ih := spec_NameRight_l0 s hs d k (i + 1) (by omega) (by omega) (by omega)
    rw [decide_eq_true (p := i + 1 ≠ 0) (by omega), Bool.true_or, Bool.true_or, Bool.true_and] at ih
    rw [spec_NameRight.l0, if_pos (by omega), if_pos h0, drop_bt s i h0 (by omega), List.all_cons, w64 (x := i + 1) (by omega) (by omega), ih, decide_eq_false (p := s.size = 0) (by omega), Bool.or_false]
    have hc := bt_range s i
    generalize hcg : bt s i = c at hc ⊢
    have h00 : i = 0 → lowc (bt s 0) = lowc c := fun e => by rw [← hcg, e]
    unfold nch lowc at *
    by_cases c1 : c ≥ 97
    · rw [if_pos c1, decide_eq_true (p := 97 ≤ c) c1]
      by_cases c2 : c ≤ 122
      · rw [if_pos c2, decide_eq_true c2]
        by_cases hz : i = 0
        · rw [h00 hz, decide_eq_true (p := 97 ≤ c) c1, decide_eq_true c2]; simp
        · rw [decide_eq_true (p := i ≠ 0) hz]; simp
      · rw [if_neg c2, decide_eq_false c2, decide_eq_false (p := c ≤ 57) (by omega), decide_eq_false (p := c = 95) (by omega)]
        by_cases hz : i = 0
        · rw [if_pos hz, h00 hz, decide_eq_false c2, decide_eq_false (p := i ≠ 0) (by omega)]; simp
        · rw [if_neg hz, if_pos (by omega), if_neg (by omega), if_neg (by omega)]; simp
    · rw [if_neg c1, decide_eq_false (p := 97 ≤ c) c1]
      by_cases hz : i = 0
      · rw [if_pos hz, h00 hz, decide_eq_false (p := 97 ≤ c) c1, decide_eq_false (p := i ≠ 0) (by omega)]; simp
      · rw [if_neg hz, decide_eq_true (p := i ≠ 0) hz]
        by_cases c3 : c ≥ 48
        · rw [if_pos c3, decide_eq_true (p := 48 ≤ c) c3]
          by_cases c4 : c ≤ 57
          · rw [if_pos c4, decide_eq_true c4]; simp
          · rw [if_neg c4, decide_eq_false c4]
            by_cases c5 : c = 95
            · rw [if_pos c5, decide_eq_true c5]; simp
            · rw [if_neg c5, decide_eq_false c5]; simp
        · rw [if_neg c3, decide_eq_false (p := 48 ≤ c) c3, if_neg (by omega), decide_eq_false (p := c = 95) (by omega)]; simp
theorem spec_NameRight_f (s : ByteArray) (k : Nat) (hk : 30 ≤ k) : spec_NameRight.f k s = some (NameP s) := by
  obtain ⟨k, rfl⟩ : ∃ q, k = q + 1 := ⟨k - 1, by omega⟩
  unfold spec_NameRight.f NameP
  by_cases h1 : (s.size : Int) < 1
  · rw [if_pos h1, spec_NameRight.j0, if_pos rfl, decide_eq_false (p := 1 ≤ s.size) (by omega)]; rfl
  · rw [if_neg h1, decide_eq_true (p := 1 ≤ s.size) (by omega)]
    by_cases h2 : (s.size : Int) > 20
    · rw [decide_eq_true h2, spec_NameRight.j0, if_pos rfl, decide_eq_false (p := s.size ≤ 20) (by omega)]; rfl
    · rw [decide_eq_false h2, spec_NameRight.j0, if_neg (by simp), decide_eq_true (p := s.size ≤ 20) (by omega), spec_NameRight_l0 s (by omega) s.size k 0 (by omega) (by omega) (by omega), decide_eq_false (p := s.size = 0) (by omega)]
      simp
theorem dw_nil {α : Type} (p : α → Bool) : ∀ l : List α, (∀ x ∈ l, p x = true) → l.dropWhile p = []
  | [], _ => rfl
  | a :: l, h => by
    rw [List.dropWhile_cons, if_pos (h a (by simp))]
    exact dw_nil p l (fun x hx => h x (List.mem_cons_of_mem _ hx))
theorem dw_all {α : Type} (p : α → Bool) : ∀ l : List α, (∀ x ∈ l.dropWhile p, p x = true) → ∀ x ∈ l, p x = true
  | [], _, x, hx => by cases hx
  | a :: l, h, x, hx => by
    rw [List.dropWhile_cons] at h
    by_cases ha : p a = true
    · rw [if_pos ha] at h
      rcases List.mem_cons.1 hx with e | e
      · rw [e]; exact ha
      · exact dw_all p l h x e
    · rw [if_neg ha] at h
      exact absurd (h a (by simp)) ha
theorem trim_nil (l cs : List UInt8) : (Lib.trimS l cs == ([] : List UInt8)) = l.all (cs.contains ·) := by
  have key : Lib.trimS l cs = [] ↔ ∀ x ∈ l, cs.contains x = true := by
    unfold Lib.trimS Lib.trimLeftS Lib.trimRightS
    constructor
    · intro h x hx
      refine dw_all (cs.contains ·) l.reverse (fun y hy => ?_) x (List.mem_reverse.2 hx)
      refine dw_all (cs.contains ·) (l.reverse.dropWhile (cs.contains ·)).reverse (fun z hz => ?_) y (List.mem_reverse.2 hy)
      rw [h] at hz; cases hz
    · intro h
      rw [dw_nil (cs.contains ·) l.reverse (fun x hx => h x (List.mem_reverse.1 hx))]; rfl
  by_cases h : Lib.trimS l cs = []
  · rw [h, List.all_eq_true.2 (key.1 h)]; rfl
  · rw [beq_eq_false_iff_ne.2 h]
    symm
    rw [Bool.eq_false_iff]
    exact fun h2 => h (key.2 (List.all_eq_true.1 h2))
theorem nch_contains (b : UInt8) : ([97, 98, 99, 100, 101, 102, 103, 104, 105, 106, 107, 108, 109, 110, 111, 112, 113, 114, 115, 116, 117, 118, 119, 120, 121, 122, 48, 49, 50, 51, 52, 53, 54, 55, 56, 57, 95] : List UInt8).contains b = nch b.toNat := by
  have key : ∀ z : Fin 256, ([97, 98, 99, 100, 101, 102, 103, 104, 105, 106, 107, 108, 109, 110, 111, 112, 113, 114, 115, 116, 117, 118, 119, 120, 121, 122, 48, 49, 50, 51, 52, 53, 54, 55, 56, 57, 95] : List UInt8).contains (UInt8.ofNat z.val) = nch (z.val : Nat) := by decide +kernel
  have := key ⟨b.toNat, b.toNat_lt⟩
  simpa using this
theorem impl_NameRight_f (s : ByteArray) : impl_NameRight.f s = some (NameP s) := by
  unfold impl_NameRight.f NameP
  by_cases h1 : (s.size : Int) ≥ 1
  · rw [if_pos h1, decide_eq_true (p := 1 ≤ s.size) (by omega)]
    by_cases h2 : (s.size : Int) ≤ 20
    · rw [if_pos h2, decide_eq_true (p := s.size ≤ 20) (by omega), if_pos (by omega)]
      unfold lowc
      by_cases h3 : bt s 0 ≥ 97
      · rw [if_pos h3, decide_eq_true (p := 97 ≤ bt s 0) h3]
        by_cases h4 : bt s 0 ≤ 122
        · rw [if_pos h4, decide_eq_true h4]
          unfold strings_Trim.f
          rw [if_pos ⟨by omega, by decide, by decide⟩]
          simp only [Option.bind_some, Bool.true_and]
          congr 1
          rw [Go.Lib.toList_data]
          show (Lib.trimS s.data.toList _ == []) = _
          rw [trim_nil]
          unfold bytesOf
          rw [List.all_map]
          congr 1
          funext b
          exact nch_contains b
        · rw [if_neg h4, decide_eq_false h4]; rfl
      · rw [if_neg h3, decide_eq_false (p := 97 ≤ bt s 0) h3]; rfl
    · rw [if_neg h2, decide_eq_false (p := s.size ≤ 20) (by omega)]; rfl
  · rw [if_neg h1, decide_eq_false (p := 1 ≤ s.size) (by omega)]; rfl

/-! values -/
/-- Is a text a value. -/
def ValueP (s : ByteArray) : Bool := decide (1 ≤ s.size) && decide (s.size ≤ 40) && ((NormP s).toList != ([] : List UInt8))
theorem spec_l02Value_f (s : ByteArray) (k : Nat) (hk : 100 ≤ k) : spec_l02Value.f k s = some (ValueP s) := by
  unfold spec_l02Value.f ValueP
  by_cases h1 : (s.size : Int) ≥ 1
  · by_cases h2 : (s.size : Int) ≤ 40
    · rw [if_pos h1, if_pos h2, spec_Norm_f s k (by omega), decide_eq_true (p := 1 ≤ s.size) (by omega), decide_eq_true (p := s.size ≤ 40) (by omega)]
      simp
    · rw [if_pos h1, if_neg h2, decide_eq_false (p := s.size ≤ 40) (by omega)]; simp
  · rw [if_neg h1, decide_eq_false (p := 1 ≤ s.size) (by omega)]; simp
theorem impl_isProper_f (s : ByteArray) (k : Nat) (hk : 100 ≤ k) : impl_isProper.f k s = some (ValueP s) := by
  unfold impl_isProper.f ValueP
  by_cases h1 : (s.size : Int) ≥ 1
  · by_cases h2 : (s.size : Int) ≤ 40
    · rw [if_pos h1, if_pos h2, impl_Norm_f s k (by omega), decide_eq_true (p := 1 ≤ s.size) (by omega), decide_eq_true (p := s.size ≤ 40) (by omega)]
      simp
    · rw [if_pos h1, if_neg h2, decide_eq_false (p := s.size ≤ 40) (by omega)]; simp
  · rw [if_neg h1, decide_eq_false (p := 1 ≤ s.size) (by omega)]; simp

/-! DnRight -/
abbrev Rd := S42
def RdnP (x : Rd) : Bool := NameP x.f0 && ValueP x.f1
/-- What DnRight says. -/
def DnP (l : List Rd) : Bool := decide (l.length ≤ 6) && l.all RdnP
theorem rd_drop (l : List Rd) (i : Int) (h0 : 0 ≤ i) (h1 : i < l.length) : l.drop i.toNat = rd_T42 l i :: l.drop (i + 1).toNat := by
  have hi : i.toNat < l.length := by omega
  rw [List.drop_eq_getElem_cons hi, show (i + 1).toNat = i.toNat + 1 by omega]
  congr 1
  unfold rd_T42
  rw [List.getD_eq_getElem?_getD, List.getElem?_eq_getElem hi]; rfl
theorem spec_DnRight_l0 (l : List Rd) (hl : (l.length : Int) ≤ 4611686018427387904) : ∀ (d k : Nat) (i : Int), 0 ≤ i → i + d = l.length → 100 + d < k →
    spec_DnRight.l0 k l i = some ((l.drop i.toNat).all RdnP && decide (l.length ≤ 6))
  | 0, k, i, h0, hi, hk => by
    obtain ⟨k, rfl⟩ : ∃ q, k = q + 1 := ⟨k - 1, by omega⟩
    rw [spec_DnRight.l0, if_neg (by omega), List.drop_of_length_le (by omega), List.all_nil, Bool.true_and]
    congr 1
    by_cases h6 : l.length ≤ 6
    · rw [decide_eq_true h6, decide_eq_true (by omega)]
    · rw [decide_eq_false h6, decide_eq_false (by omega)]
  | d + 1, k, i, h0, hi, hk => by
    obtain ⟨k, rfl⟩ : ∃ q, k = q + 1 := ⟨k - 1, by omega⟩
    rw [spec_DnRight.l0, if_pos (by omega), if_pos h0, rd_drop l i h0 (by omega), List.all_cons, spec_NameRight_f _ k (by omega), spec_l02Value_f _ k (by omega),
      w64 (x := i + 1) (by omega) (by omega), spec_DnRight_l0 l hl d k (i + 1) (by omega) (by omega) (by omega)]
    unfold RdnP
    cases NameP (rd_T42 l i).f0 <;> cases ValueP (rd_T42 l i).f1 <;> simp
theorem spec_DnRight_f (l : List Rd) (hl : (l.length : Int) ≤ 4611686018427387904) (k : Nat) (hk : 101 + l.length ≤ k) : spec_DnRight.f k l = some (DnP l) := by
  unfold spec_DnRight.f DnP
  rw [spec_DnRight_l0 l hl l.length k 0 (by omega) (by omega) (by omega)]
  simp [Bool.and_comm]
theorem impl_DnRight_1_f (a b : ByteArray) (k : Nat) (hk : 100 ≤ k) : impl_DnRight_1.f k a b = some (!(NameP a && ValueP b)) := by
  unfold impl_DnRight_1.f impl_isRdn.f
  rw [impl_NameRight_f, impl_isProper_f _ k hk]
  cases NameP a <;> cases ValueP b <;> rfl
theorem impl_DnRight_ix (k : Nat) (hk : 100 ≤ k) : ∀ (l : List Rd) (i : Int), 0 ≤ i → ∃ r, impl_DnRight.ix k l i = some r ∧ (!(decide (r ≥ 0))) = l.all RdnP
  | [], i, h0 => ⟨-1, rfl, rfl⟩
  | x :: xs, i, h0 => by
    simp only [impl_DnRight.ix]
    rw [impl_DnRight_1_f _ _ k hk, List.all_cons, Option.bind_some]
    unfold RdnP
    cases NameP x.f0 && ValueP x.f1 with
    | true => exact impl_DnRight_ix k hk xs (i + 1) (by omega)
    | false => exact ⟨i, rfl, by rw [decide_eq_true (p := i ≥ 0) h0]; rfl⟩
theorem impl_DnRight_f (l : List Rd) (k : Nat) (hk : 100 ≤ k) : impl_DnRight.f k l = some (DnP l) := by
  unfold impl_DnRight.f DnP
  by_cases h : (l.length : Int) ≤ 6
  · obtain ⟨r, e, h2⟩ := impl_DnRight_ix k hk l 0 (by omega)
    rw [if_pos h, e, Option.bind_some, h2, decide_eq_true (p := l.length ≤ 6) (by omega)]; rfl
  · rw [if_neg h, decide_eq_false (p := l.length ≤ 6) (by omega)]; rfl
theorem DnP_mem {l : List Rd} (h : DnP l = true) : l.length ≤ 6 ∧ ∀ x ∈ l, RdnP x = true := by
  unfold DnP at h
  simp only [Bool.and_eq_true, decide_eq_true_eq, List.all_eq_true] at h
  exact h

/-! DnText -/
/-- Does a byte of a value stand behind a backslash. -/
def oddP (s : ByteArray) (i : Int) : Bool :=
  (decide (bt s i = 44) || decide (bt s i = 43) || decide (bt s i = 34) || decide (bt s i = 92) || decide (bt s i = 60) || decide (bt s i = 62) || decide (bt s i = 59) || decide (bt s i = 61)) ||
  ((decide (bt s i = 35) && decide (i = 0)) || (decide (bt s i = 32) && (decide (i = 0) || decide (i = (s.size : Int) - 1))))
/-- A value from a place on, with its backslashes. -/
def escF (s : ByteArray) : Nat → Int → List Int
  | 0, _ => []
  | d + 1, i => (if oddP s i = true then [92, bt s i] else [bt s i]) ++ escF s d (i + 1)
def escB (s : ByteArray) : List Int := escF s s.size 0
def textB : Bool → List Rd → List Int
  | _, [] => []
  | sep, x :: xs => (if sep = true then [44] else []) ++ (bytesOf x.f0 ++ ([61] ++ (escB x.f1 ++ textB true xs)))
/-- What DnText gives of a right DN. -/
def TextP (l : List Rd) : ByteArray := strOfNums (textB false l)
theorem escF_length (s : ByteArray) : ∀ (d : Nat) (i : Int), (escF s d i).length ≤ 2 * d
  | 0, i => by simp [escF]
  | d + 1, i => by
    have := escF_length s d (i + 1)
    simp only [escF, List.length_append]
    split <;> simp <;> omega
theorem escF_range (s : ByteArray) : ∀ (d : Nat) (i : Int), ∀ x ∈ escF s d i, 0 ≤ x ∧ x ≤ 255
  | 0, i, x, h => by simp [escF] at h
  | d + 1, i, x, h => by
    simp only [escF, List.mem_append] at h
    rcases h with h | h
    · have := bt_range s i
      split at h <;> simp at h
      · rcases h with rfl | rfl <;> omega
      · subst h; omega
    · exact escF_range s d (i + 1) x h
theorem spec_l02Odd_f (s : ByteArray) (i : Int) (h0 : 0 ≤ i) (h1 : i < s.size) (hs : s.size ≤ 4611686018427387904) (k : Nat) (hk : 1 ≤ k) : spec_l02Odd.f k s i = some (oddP s i) := by
  obtain ⟨k, rfl⟩ : ∃ q, k = q + 1 := ⟨k - 1, by omega⟩
  unfold spec_l02Odd.f oddP
  rw [if_pos h0, if_pos h1]
  simp only [spec_l02Odd.j0, w64 (x := (s.size : Int) - 1) (by omega) (by omega)]
  generalize bt s i = c
  by_cases c1 : c = 44; · subst c1; simp
  by_cases c2 : c = 43; · subst c2; simp
  by_cases c3 : c = 34; · subst c3; simp
  by_cases c4 : c = 92; · subst c4; simp
  by_cases c5 : c = 60; · subst c5; simp
  by_cases c6 : c = 62; · subst c6; simp
  by_cases c7 : c = 59; · subst c7; simp
  by_cases c8 : c = 61; · subst c8; simp
  by_cases c9 : c = 35; · subst c9; simp; by_cases hi : i = 0 <;> simp [hi]
  by_cases c10 : c = 32
  · subst c10; simp; by_cases hi : i = 0 <;> simp [hi]; by_cases h2 : i = (s.size : Int) - 1 <;> simp [h2]
  simp [c1, c2, c3, c4, c5, c6, c7, c8, c9, c10]
theorem spec_l02Escape_l0 (s : ByteArray) (hs : s.size ≤ 1000) : ∀ (d k : Nat) (a : List Int) (i : Int), 0 ≤ i → i + d = s.size → 1 + d < k → a.length ≤ 2 * i →
    spec_l02Escape.l0 k s a i = some (strOfNums (a ++ escF s d i))
  | 0, k, a, i, h0, hi, hk, ha => by
    obtain ⟨k, rfl⟩ : ∃ q, k = q + 1 := ⟨k - 1, by omega⟩
    rw [spec_l02Escape.l0, if_neg (by omega)]
    simp [escF]
  | d + 1, k, a, i, h0, hi, hk, ha => by
    obtain ⟨k, rfl⟩ : ∃ q, k = q + 1 := ⟨k - 1, by omega⟩
    rw [spec_l02Escape.l0, if_pos (by omega), spec_l02Odd_f s i h0 (by omega) (by omega) k (by omega), w64 (x := i + 1) (by omega) (by omega)]
    simp only [Option.bind_some, escF]
    cases oddP s i with
    | true =>
      rw [if_pos rfl, if_pos (by omega), if_pos h0, if_pos (by rw [List.length_append, List.length_singleton]; omega), spec_l02Escape_l0 s hs d k _ (i + 1) (by omega) (by omega) (by omega) (by simp; omega)]
      simp
    | false =>
      rw [if_neg (by simp), if_pos h0, if_pos (by omega), spec_l02Escape_l0 s hs d k _ (i + 1) (by omega) (by omega) (by omega) (by simp; omega)]
      simp
theorem spec_l02Escape_f (s : ByteArray) (hs : s.size ≤ 40) (k : Nat) (hk : 50 ≤ k) : spec_l02Escape.f k s = some (strOfNums (escB s)) := by
  unfold spec_l02Escape.f escB
  rw [spec_l02Escape_l0 s (by omega) s.size k [] 0 (by omega) (by omega) (by omega) (by simp)]
  simp
theorem ValueP_size {s : ByteArray} (h : ValueP s = true) : 1 ≤ s.size ∧ s.size ≤ 40 := by
  unfold ValueP at h
  simp only [Bool.and_eq_true, decide_eq_true_eq] at h
  omega
theorem NameP_size {s : ByteArray} (h : NameP s = true) : 1 ≤ s.size ∧ s.size ≤ 20 := by
  unfold NameP at h
  simp only [Bool.and_eq_true, decide_eq_true_eq] at h
  omega
theorem RdnP_size {x : Rd} (h : RdnP x = true) : x.f0.size ≤ 20 ∧ x.f1.size ≤ 40 := by
  unfold RdnP at h
  simp only [Bool.and_eq_true] at h
  exact ⟨(NameP_size h.1).2, (ValueP_size h.2).2⟩
theorem rd_mem (l : List Rd) (i : Int) (h0 : 0 ≤ i) (h1 : i < l.length) : rd_T42 l i ∈ l := by
  have hi : i.toNat < l.length := by omega
  unfold rd_T42
  rw [List.getD_eq_getElem?_getD, List.getElem?_eq_getElem hi]
  exact List.getElem_mem hi
theorem escB_length (s : ByteArray) : (escB s).length ≤ 2 * s.size := escF_length s _ _
theorem spec_l02Text_l0 (l : List Rd) (hl : l.length ≤ 6) (hr : ∀ x ∈ l, RdnP x = true) : ∀ (d k : Nat) (a : ByteArray) (i : Int), 0 ≤ i → i + d = l.length → 60 + d < k → a.size ≤ 200 * i →
    spec_l02Text.l0 k l a i = some (a ++ strOfNums (textB (decide (0 < i)) (l.drop i.toNat)))
  | 0, k, a, i, h0, hi, hk, ha => by
    obtain ⟨k, rfl⟩ : ∃ q, k = q + 1 := ⟨k - 1, by omega⟩
    rw [spec_l02Text.l0, if_neg (by omega), List.drop_of_length_le (by omega)]
    simp only [textB]
    rw [show strOfNums [] = (⟨#[]⟩ : ByteArray) from rfl]
    congr 1
    apply ByteArray.ext
    simp
  | d + 1, k, a, i, h0, hi, hk, ha => by
    obtain ⟨k, rfl⟩ : ∃ q, k = q + 1 := ⟨k - 1, by omega⟩
    obtain ⟨hn, hv⟩ := RdnP_size (hr _ (rd_mem l i h0 (by omega)))
    have he := escB_length (rd_T42 l i).f1
    have s1 : (⟨#[44]⟩ : ByteArray).size = 1 := rfl
    have s2 : (⟨#[61]⟩ : ByteArray).size = 1 := rfl
    rw [spec_l02Text.l0, if_pos (by omega), spec_l02Escape_f _ hv k (by omega), w64 (x := i + 1) (by omega) (by omega), rd_drop l i h0 (by omega)]
    simp only [Option.bind_some, textB]
    by_cases hz : i > 0
    · rw [if_pos hz, if_pos (by omega), if_pos h0, if_pos (by simp only [ba_append_size, s1]; omega), if_pos (by simp only [ba_append_size, s1]; omega), if_pos (by simp only [ba_append_size, s1, s2, strOfNums_size]; omega),
        spec_l02Text_l0 l hl hr d k _ (i + 1) (by omega) (by omega) (by omega) (by simp only [ba_append_size, s1, s2, strOfNums_size]; omega), decide_eq_true (p := 0 < i) hz, decide_eq_true (p := 0 < i + 1) (by omega), if_pos rfl]
      simp only [son_append, son_bytesOf, ba_append_assoc]
      rfl
    · rw [if_neg hz, if_pos h0, if_pos (by omega), if_pos (by simp only [ba_append_size]; omega), if_pos (by simp only [ba_append_size, s2, strOfNums_size]; omega),
        spec_l02Text_l0 l hl hr d k _ (i + 1) (by omega) (by omega) (by omega) (by simp only [ba_append_size, s2, strOfNums_size]; omega), decide_eq_false (p := 0 < i) hz, decide_eq_true (p := 0 < i + 1) (by omega), if_neg (by simp), List.nil_append]
      simp only [son_append, son_bytesOf, ba_append_assoc]
      rfl
theorem spec_l02Text_f (l : List Rd) (h : DnP l = true) (k : Nat) (hk : 70 ≤ k) : spec_l02Text.f k l = some (TextP l) := by
  obtain ⟨hl, hr⟩ := DnP_mem h
  unfold spec_l02Text.f TextP
  rw [spec_l02Text_l0 l hl hr l.length k _ 0 (by omega) (by omega) (by omega) (by decide)]
  rw [show (0 : Int).toNat = 0 from rfl, List.drop_zero, decide_eq_false (p := (0 : Int) < 0) (by omega)]
  congr 1
theorem marked_key (c : Int) (h0 : 0 ≤ c) (h1 : c ≤ 255) : decide (Lib.indexByte [44, 43, 34, 92, 60, 62, 59, 61] (UInt8.ofNat c.toNat) ≥ 0) =
    (decide (c = 44) || decide (c = 43) || decide (c = 34) || decide (c = 92) || decide (c = 60) || decide (c = 62) || decide (c = 59) || decide (c = 61)) := by
  have key : ∀ z : Fin 256, decide (Lib.indexByte [44, 43, 34, 92, 60, 62, 59, 61] (UInt8.ofNat z.val) ≥ 0) = (decide (z.val = 44) || decide (z.val = 43) || decide (z.val = 34) || decide (z.val = 92) || decide (z.val = 60) || decide (z.val = 62) || decide (z.val = 59) || decide (z.val = 61)) := by decide +kernel
  have k2 : decide (Lib.indexByte [44, 43, 34, 92, 60, 62, 59, 61] (UInt8.ofNat c.toNat) ≥ 0) = (decide (c.toNat = 44) || decide (c.toNat = 43) || decide (c.toNat = 34) || decide (c.toNat = 92) || decide (c.toNat = 60) || decide (c.toNat = 62) || decide (c.toNat = 59) || decide (c.toNat = 61)) := key ⟨c.toNat, by omega⟩
  rw [k2]
  have e : ∀ q : Nat, decide (c.toNat = q) = decide (c = (q : Int)) := fun q => by
    by_cases h : c = (q : Int)
    · rw [decide_eq_true h, decide_eq_true (by omega)]
    · rw [decide_eq_false h, decide_eq_false (by omega)]
  simp only [e]
  rfl
theorem impl_isMarked_f (s : ByteArray) (i : Int) (h0 : 0 ≤ i) (h1 : i < s.size) (hs : s.size ≤ 4611686018427387904) : impl_isMarked.f s i = some (oddP s i) := by
  have hc := bt_range s i
  have k3 := marked_key (bt s i) hc.1 hc.2
  unfold impl_isMarked.f oddP strings_IndexByte.f
  rw [if_pos h0, if_pos h1, w64 (x := (s.size : Int) - 1) (by omega) (by omega)]
  simp only [Option.bind_some]
  generalize bt s i = c at hc k3 ⊢
  show (if Lib.indexByte [44, 43, 34, 92, 60, 62, 59, 61] (UInt8.ofNat c.toNat) ≥ 0 then some true else _) = some (_ || _)
  rw [← k3]
  by_cases hx : Lib.indexByte [44, 43, 34, 92, 60, 62, 59, 61] (UInt8.ofNat c.toNat) ≥ 0
  · rw [if_pos hx, decide_eq_true hx]; rfl
  · rw [if_neg hx, decide_eq_false hx, Bool.false_or]
    by_cases c9 : c = 35
    · subst c9; by_cases hi : i = 0 <;> simp [hi]
    · by_cases c10 : c = 32
      · subst c10; by_cases hi : i = 0 <;> simp [hi]; by_cases h2 : i = (s.size : Int) - 1 <;> simp [h2]
      · simp [c9, c10]
theorem impl_dnText_l1 (l : List Rd) (len i : Int) (n s : ByteArray) (hs : s.size ≤ 1000) : ∀ (d k : Nat) (a : List Int) (j : Int), 0 ≤ j → j + d = s.size → a.length + 2 * d ≤ 1000000 →
    impl_dnText.l1 (k + d + 1) a l len i (s.size : Int) j n s = impl_dnText.l0 k (a ++ escF s d j) l len (wrap64 (i + 1))
  | 0, k, a, j, h0, hj, ha => by
    rw [Nat.add_zero, impl_dnText.l1, if_neg (by omega)]
    simp [escF]
  | d + 1, k, a, j, h0, hj, ha => by
    rw [show k + (d + 1) + 1 = (k + d + 1) + 1 by omega, impl_dnText.l1, if_pos (by omega), impl_isMarked_f s j h0 (by omega) (by omega), w64 (x := j + 1) (by omega) (by omega)]
    simp only [Option.bind_some, escF]
    cases oddP s j with
    | true =>
      rw [if_pos rfl, if_pos (by omega), if_pos h0, if_pos (by omega), if_pos (by rw [List.length_append, List.length_singleton]; omega), impl_dnText_l1 l len i n s hs d k _ (j + 1) (by omega) (by omega) (by simp; omega)]
      simp
    | false =>
      rw [if_neg (by simp), if_pos h0, if_pos (by omega), if_pos (by omega), impl_dnText_l1 l len i n s hs d k _ (j + 1) (by omega) (by omega) (by simp; omega)]
      simp
theorem impl_dnText_l0 (l : List Rd) (hl : l.length ≤ 6) (hr : ∀ x ∈ l, RdnP x = true) : ∀ (d k : Nat) (a : List Int) (i : Int), 0 ≤ i → i + d = l.length → 50 * d < k → a.length ≤ 200 * i →
    impl_dnText.l0 k a l (l.length : Int) i = some (strOfNums (a ++ textB (decide (0 < i)) (l.drop i.toNat)))
  | 0, k, a, i, h0, hi, hk, ha => by
    obtain ⟨k, rfl⟩ : ∃ q, k = q + 1 := ⟨k - 1, by omega⟩
    rw [impl_dnText.l0, if_neg (by omega), List.drop_of_length_le (by omega)]
    simp [textB]
  | d + 1, k, a, i, h0, hi, hk, ha => by
    obtain ⟨hn, hv⟩ := RdnP_size (hr _ (rd_mem l i h0 (by omega)))
    obtain ⟨k, rfl⟩ : ∃ q, k = (q + (rd_T42 l i).f1.size + 1) + 2 := ⟨k - (rd_T42 l i).f1.size - 3, by omega⟩
    have he := escB_length (rd_T42 l i).f1
    have key : ∀ b : List Int, b.length ≤ 200 * i + 1 → impl_dnText.j1 ((k + (rd_T42 l i).f1.size + 1) + 1) b l (l.length : Int) i (rd_T42 l i).f0 (rd_T42 l i).f1 = some (strOfNums (b ++ (bytesOf (rd_T42 l i).f0 ++ ([61] ++ (escB (rd_T42 l i).f1 ++ textB true (l.drop (i + 1).toNat)))))) := by
      intro b hb
      have hbl := bytesOf_length (rd_T42 l i).f0
      rw [impl_dnText.j1, if_pos (by omega)]
      simp only [Option.bind_some]
      rw [if_pos (by rw [List.length_append]; omega), impl_dnText_l1 l _ i _ _ (by omega) _ k _ 0 (by omega) (by omega) (by simp; omega), w64 (x := i + 1) (by omega) (by omega)]
      show impl_dnText.l0 k (_ ++ escB (rd_T42 l i).f1) l _ _ = _
      rw [impl_dnText_l0 l hl hr d k _ (i + 1) (by omega) (by omega) (by omega) (by simp only [List.length_append, List.length_singleton]; omega), decide_eq_true (p := 0 < i + 1) (by omega)]
      simp only [List.append_assoc]
    rw [impl_dnText.l0, if_pos (by omega), if_pos h0, if_pos (by omega), rd_drop l i h0 (by omega)]
    simp only [textB]
    by_cases hz : i > 0
    · rw [if_pos hz, if_pos (by omega), key _ (by rw [List.length_append, List.length_singleton]; omega), decide_eq_true (p := 0 < i) hz, if_pos rfl]
      simp only [List.append_assoc]
    · rw [if_neg hz, key _ (by omega), decide_eq_false (p := 0 < i) hz, if_neg (by simp), List.nil_append]
theorem impl_dnText_f (l : List Rd) (h : DnP l = true) (k : Nat) (hk : 310 ≤ k) : impl_dnText.f k l = some (TextP l) := by
  obtain ⟨hl, hr⟩ := DnP_mem h
  unfold impl_dnText.f TextP
  rw [impl_dnText_l0 l hl hr l.length k _ 0 (by omega) (by omega) (by omega) (by simp)]
  rw [show (0 : Int).toNat = 0 from rfl, List.drop_zero, decide_eq_false (p := (0 : Int) < 0) (by omega)]
  rfl

/-! PutNum -/
/-- The zigzag of a number. -/
def zz (n : Int) : Int := if n < 0 then -2 * n - 1 else 2 * n
/-- The varint of a number, in at most j + 1 bytes. -/
def vl : Nat → Int → List Int
  | 0, u => [u % 256]
  | j + 1, u => if u ≥ 128 then (u % 128 + 128) :: vl j (u / 128) else [u % 256]
/-- j + 1 bytes are enough. -/
def vfits : Nat → Int → Prop
  | 0, x => x < 128
  | j + 1, x => vfits j (x / 128)
def PN (n : Int) : ByteArray := strOfNums (vl 9 (zz n))
theorem zz_fits {n : Int} (h0 : -9223372036854775808 ≤ n) (h1 : n ≤ 9223372036854775807) : 0 ≤ zz n ∧ zz n < 18446744073709551616 ∧ vfits 9 (zz n) := by
  have a : 0 ≤ zz n := by unfold zz; split <;> omega
  have b : zz n < 18446744073709551616 := by unfold zz; split <;> omega
  refine ⟨a, b, ?_⟩
  simp only [vfits]
  omega
theorem vl_length : ∀ j u, 1 ≤ (vl j u).length ∧ (vl j u).length ≤ j + 1
  | 0, u => by simp [vl]
  | j + 1, u => by
    have := vl_length j (u / 128)
    simp only [vl]
    split <;> simp <;> omega
theorem PN_size (n : Int) : 1 ≤ (PN n).size ∧ (PN n).size ≤ 10 := by
  unfold PN; rw [strOfNums_size]; exact vl_length 9 _
theorem xor_ones (x : Int) (h0 : 0 ≤ x) (h1 : x < 18446744073709551616) : Go.bits .xor .u64 x 18446744073709551615 = 18446744073709551615 - x := by
  obtain ⟨a, rfl⟩ := Int.eq_ofNat_of_zero_le h0
  have ha : a < 18446744073709551616 := by omega
  have e := bits_xor_u64_nat a 18446744073709551615 ha (by decide)
  rw [show ((18446744073709551615 : Nat) : Int) = 18446744073709551615 from rfl] at e
  rw [e]
  have h2 : a ^^^ 18446744073709551615 = 18446744073709551615 - a := by
    have h3 : (BitVec.ofNat 64 a ^^^ BitVec.allOnes 64).toNat = 2 ^ 64 - 1 - (BitVec.ofNat 64 a).toNat := by
      rw [BitVec.xor_allOnes, BitVec.toNat_not]
    rw [BitVec.toNat_xor, BitVec.toNat_ofNat, BitVec.toNat_allOnes, Nat.mod_eq_of_lt (by omega)] at h3
    exact h3
  rw [h2]; omega
theorem xor_zero (x : Int) (h0 : 0 ≤ x) (h1 : x < 18446744073709551616) : Go.bits .xor .u64 x 0 = x := by
  obtain ⟨a, rfl⟩ := Int.eq_ofNat_of_zero_le h0
  have e := bits_xor_u64_nat a 0 (by omega) (by decide)
  rw [show ((0 : Nat) : Int) = 0 from rfl] at e
  rw [e, Nat.xor_zero]
theorem u8_or_128 {y : Int} (h0 : 0 ≤ y) (h1 : y < 256) : Go.bits .or .u8 y 128 = y % 128 + 128 := by
  have key : ∀ z : Fin 256, Go.bits .or .u8 (z.val : Int) 128 = (z.val : Int) % 128 + 128 := by decide +kernel
  have := key ⟨y.toNat, by omega⟩
  simpa [Int.toNat_of_nonneg h0] using this
theorem spec_fold (n : Int) (h0 : -9223372036854775808 ≤ n) (h1 : n ≤ 9223372036854775807) : spec_l01Fold.f n = some (zz n) := by
  unfold spec_l01Fold.f zz
  simp only [IntKind.wrap_u64]
  unfold wrap64
  by_cases h : n < 0
  · rw [if_pos h, if_pos h]; congr 1; omega
  · rw [if_neg h, if_neg h]; congr 1; omega
theorem impl_fold (n : Int) (h0 : -9223372036854775808 ≤ n) (h1 : n ≤ 9223372036854775807) :
    Go.bits .xor .u64 (IntKind.u64.wrap ((IntKind.u64.wrap (n)) * 2)) (IntKind.u64.wrap (n / 9223372036854775808)) = zz n := by
  simp only [IntKind.wrap_u64]
  unfold zz
  by_cases h : n < 0
  · rw [if_pos h, show n / 9223372036854775808 % 18446744073709551616 = 18446744073709551615 by omega, xor_ones _ (by omega) (by omega)]
    omega
  · rw [if_neg h, show n / 9223372036854775808 % 18446744073709551616 = 0 by omega, xor_zero _ (by omega) (by omega)]
    omega
theorem spec_PutNum_l0 : ∀ (j k : Nat) (x : Int) (l : List Int), 0 ≤ x → x < 18446744073709551616 → vfits j x → l.length + j < 140737488355328 → j < k →
    spec_PutNum.l0 k x l = some (strOfNums (l ++ vl j x))
  | 0, k, x, l, h0, h1, hf, hl, hk => by
    obtain ⟨k, rfl⟩ : ∃ m, k = m + 1 := ⟨k - 1, by omega⟩
    have hf : x < 128 := hf
    simp only [spec_PutNum.l0]
    rw [if_neg (by omega), if_pos (by omega)]; rfl
  | j + 1, k, x, l, h0, h1, hf, hl, hk => by
    obtain ⟨k, rfl⟩ : ∃ m, k = m + 1 := ⟨k - 1, by omega⟩
    have hf : vfits j (x / 128) := hf
    simp only [spec_PutNum.l0]
    by_cases h : x ≥ 128
    · rw [if_pos h, if_pos (by omega), Int.tdiv_eq_ediv_of_nonneg h0, Int.tmod_eq_emod_of_nonneg h0, u64w (by omega) (by omega), u64w (by omega) (by omega),
        spec_PutNum_l0 j k (x / 128) _ (by omega) (by omega) hf (by simp; omega) (by omega)]
      simp only [vl]; rw [if_pos h, List.append_assoc, show (x % 128 + 128) % 256 = x % 128 + 128 by omega]; rfl
    · rw [if_neg h, if_pos (by omega)]; simp only [vl]; rw [if_neg h]
theorem impl_PutNum_l0 : ∀ (j k : Nat) (x : Int) (l : List Int), 0 ≤ x → x < 18446744073709551616 → vfits j x → l.length + j < 140737488355328 → j < k →
    impl_PutNum.l0 k x l = some (strOfNums (l ++ vl j x))
  | 0, k, x, l, h0, h1, hf, hl, hk => by
    obtain ⟨k, rfl⟩ : ∃ m, k = m + 1 := ⟨k - 1, by omega⟩
    have hf : x < 128 := hf
    simp only [impl_PutNum.l0]
    rw [if_neg (by omega), if_pos (by omega)]; rfl
  | j + 1, k, x, l, h0, h1, hf, hl, hk => by
    obtain ⟨k, rfl⟩ : ∃ m, k = m + 1 := ⟨k - 1, by omega⟩
    have hf : vfits j (x / 128) := hf
    simp only [impl_PutNum.l0]
    by_cases h : x ≥ 128
    · rw [if_pos h, if_pos (by omega), u8_or_128 (by omega) (by omega),
        impl_PutNum_l0 j k (x / 128) _ (by omega) (by omega) hf (by simp; omega) (by omega)]
      simp only [vl]; rw [if_pos h, List.append_assoc, show x % 256 % 128 + 128 = x % 128 + 128 by omega]; rfl
    · rw [if_neg h, if_pos (by omega)]; simp only [vl]; rw [if_neg h]
theorem spec_PutNum_f (k : Nat) (n : Int) (h0 : -9223372036854775808 ≤ n) (h1 : n ≤ 9223372036854775807) (hk : 10 ≤ k) : spec_PutNum.f k n = some (PN n) := by
  obtain ⟨a, b, c⟩ := zz_fits h0 h1
  unfold spec_PutNum.f
  rw [spec_fold n h0 h1]
  simp only [Option.bind_some]
  rw [spec_PutNum_l0 9 k (zz n) [] a b c (by simp) (by omega)]; rfl
theorem impl_PutNum_f (k : Nat) (n : Int) (h0 : -9223372036854775808 ≤ n) (h1 : n ≤ 9223372036854775807) (hk : 10 ≤ k) : impl_PutNum.f k n = some (PN n) := by
  obtain ⟨a, b, c⟩ := zz_fits h0 h1
  unfold impl_PutNum.f
  rw [impl_fold n h0 h1, impl_PutNum_l0 9 k (zz n) [] a b c (by simp) (by omega)]; rfl

/-! isLong -/
theorem impl_isLong_l0 (l : List ByteArray) (hl : l.length ≤ 4611686018427387904) : ∀ (d k : Nat) (i : Int), 0 ≤ i → i + d = l.length → d < k →
    impl_isLong.l0 k l (l.length : Int) i = some ((l.drop i.toNat).any fun t => decide (t.size > 8000))
  | 0, k, i, h0, hd, hk => by
    obtain ⟨k, rfl⟩ : ∃ m, k = m + 1 := ⟨k - 1, by omega⟩
    simp only [impl_isLong.l0]
    rw [if_neg (by omega), List.drop_of_length_le (by omega)]; rfl
  | d + 1, k, i, h0, hd, hk => by
    obtain ⟨k, rfl⟩ : ∃ m, k = m + 1 := ⟨k - 1, by omega⟩
    have hlt : i.toNat < l.length := by omega
    simp only [impl_isLong.l0]
    rw [if_pos (by omega), if_pos h0, if_pos (by omega), List.drop_eq_getElem_cons hlt, List.any_cons]
    have e : rdOf ByteArray.empty l i = l[i.toNat] := by unfold rdOf; rw [List.getD_eq_getElem?_getD, List.getElem?_eq_getElem hlt]; rfl
    rw [e]
    by_cases h : (l[i.toNat].size : Int) > 8000
    · rw [if_pos h, decide_eq_true (by omega)]; rfl
    · rw [if_neg h, decide_eq_false (by omega), w64 (by omega) (by omega), impl_isLong_l0 l hl d k (i + 1) (by omega) (by omega) (by omega), show (i + 1).toNat = i.toNat + 1 by omega]; rfl
theorem impl_isLong_f (l : List ByteArray) (hl : l.length ≤ 4611686018427387904) (k : Nat) (hk : l.length < k) : impl_isLong.f k l = some (l.any fun t => decide (t.size > 8000)) := by
  unfold impl_isLong.f
  rw [impl_isLong_l0 l hl l.length k 0 (by omega) (by omega) hk]; rfl

/-! PutText -/
def PT (s : ByteArray) : ByteArray := if s.size > 8000 then ⟨#[]⟩ else PN s.size ++ s
theorem spec_PutText_f (k : Nat) (s : ByteArray) (hk : 10 ≤ k) : spec_PutText.f k s = some (PT s) := by
  unfold spec_PutText.f PT
  by_cases h : s.size > 8000
  · rw [if_pos h, if_pos (by omega)]
  · have := PN_size s.size
    rw [if_neg h, if_neg (by omega), spec_PutNum_f k _ (by omega) (by omega) hk]
    simp only [Option.bind_some]
    rw [if_pos (by omega)]
theorem impl_PutText_f (k : Nat) (s : ByteArray) (hk : 10 ≤ k) : impl_PutText.f k s = some (PT s) := by
  unfold impl_PutText.f PT
  rw [impl_isLong_f [s] (by simp) k (by simp; omega)]
  simp only [Option.bind_some, List.any_cons, List.any_nil, Bool.or_false]
  by_cases h : s.size > 8000
  · rw [if_pos h, if_pos (by simpa using h)]
  · have := PN_size s.size
    rw [if_neg h, if_neg (by simpa using h), impl_PutNum_f k _ (by omega) (by omega) hk]
    simp only [Option.bind_some]
    rw [if_pos (by omega)]

/-! entries: brought over, held beside each other, weighed -/
theorem laws_szEntry_f (d : List S50) (l : List S140) (hd : d.length ≤ 140737488351232) (hl : l.length ≤ 140737488351232) (hM : ∀ x ∈ l, x.f1.length ≤ 140737488351232) (a : Int) (k : Nat) (hk : 1125899906842624 < k) : ∃ r, laws_szEntry.f k d l a = some r := by
  unfold laws_szEntry.f
  obtain ⟨r, e⟩ := laws_szRdnS_f d (by omega) a k (by omega)
  rw [e, Option.bind_some]
  split
  · exact ⟨_, rfl⟩
  · obtain ⟨r2, e2⟩ := laws_szAttrS_f l (by omega) r 140737488351232 (fun x hx => by have := hM x hx; omega) k (by omega)
    rw [e2, Option.bind_some]
    split <;> exact ⟨_, rfl⟩
theorem laws_toEntry_f (d : List S50) (l : List S140) (hd : d.length ≤ 8796093022208) (hl : l.length ≤ 7036874417766) (hM : ∀ x ∈ l, x.f1.length ≤ 17592186044416) (k : Nat) (hk : 1125899906842624 < k) : laws_toEntry.f k d l = some (d.map cvRdn, l.map cvAttr) := by
  unfold laws_toEntry.f
  rw [laws_toRdnS_f d hd k (by omega), laws_toAttrS_f l hl 17592186044416 (fun x hx => by have := hM x hx; omega) k (by omega)]
  rfl
theorem laws_eqEntry_f (d : List Rd) (l : List At) (hd : d.length ≤ 140737488351232) (hl : l.length ≤ 140737488351232) (hM : ∀ x ∈ l, x.f1.length ≤ 140737488351232) (k : Nat) (hk : 1125899906842624 < k) : laws_eqEntry.f k d l d l = some true := by
  unfold laws_eqEntry.f
  rw [laws_eqRdnS_f d (by omega) k (by omega), laws_eqAttrS_f l (by omega) 140737488351232 (fun x hx => by have := hM x hx; omega) k (by omega)]
  simp

/-! EntryRight -/
theorem cmp_iff : ∀ (a b : List UInt8), Lib.compareBytes a b ≥ 0 ↔ Op.bytesLess a b = false
  | [], [] => by simp [Lib.compareBytes, Op.bytesLess]
  | [], _ :: _ => by simp [Lib.compareBytes, Op.bytesLess]
  | _ :: _, [] => by simp [Lib.compareBytes, Op.bytesLess]
  | a :: p, b :: q => by
    rw [Lib.compareBytes, Op.bytesLess]
    by_cases h1 : a < b
    · simp [h1]
    · by_cases h2 : b < a
      · have hne : ¬ (a = b) := fun e => by subst e; exact h1 h2
        simp [h1, h2, hne]
      · have he : a = b := UInt8.le_antisymm (UInt8.not_lt.1 h2) (UInt8.not_lt.1 h1)
        subst he
        rw [if_neg h1, if_neg h1, cmp_iff p q]
        simp
theorem cmp_less (a b : List UInt8) : decide (Lib.compareBytes a b ≥ 0) = !(Op.bytesLess a b) := by
  cases h : Op.bytesLess a b with
  | false => rw [decide_eq_true ((cmp_iff a b).2 h)]; rfl
  | true => rw [decide_eq_false (fun h2 => by rw [(cmp_iff a b).1 h2] at h; cases h)]; rfl
def sAt (l : List ByteArray) (j : Nat) : ByteArray := l.getD j ByteArray.empty
/-- A value at a place, behind its forerunner. -/
def valF (l : List ByteArray) (j : Nat) : Bool := ValueP (sAt l j) && (decide (j = 0) || Op.bytesLess (NormP (sAt l (j - 1))).toList (NormP (sAt l j)).toList)
def ValsP (l : List ByteArray) : Bool := (List.range l.length).all (valF l) && (decide (1 ≤ l.length) && decide (l.length ≤ 4))
theorem sAt_size (l : List ByteArray) (hs : ∀ x ∈ l, x.size ≤ 140737488351232) (j : Nat) : (sAt l j).size ≤ 140737488351232 := by
  unfold sAt
  rw [List.getD_eq_getElem?_getD]
  by_cases h : j < l.length
  · rw [List.getElem?_eq_getElem h]; exact hs _ (List.getElem_mem h)
  · rw [List.getElem?_eq_none (by omega)]; decide
theorem rdOf_sAt (l : List ByteArray) (i : Int) : rdOf ByteArray.empty l i = sAt l i.toNat := rfl
theorem spec_l03Values_f (l : List ByteArray) (hl : l.length ≤ 140737488351232) (hs : ∀ x ∈ l, x.size ≤ 140737488351232) (k : Nat) (hk : 1125899906842624 + l.length < k) : spec_l03Values.f k l = some (ValsP l) := by
  unfold spec_l03Values.f ValsP
  rw [all_loop (decide (1 ≤ l.length) && decide (l.length ≤ 4)) (valF l) l.length (by omega) 1125899906842624 (fun k i => spec_l03Values.l0 k l i) (fun k i hk h0 hi => ?_) (fun k i hk h0 hi => ?_) l.length k 0 (by omega) (by omega) (by omega)]
  · rw [List.range_eq_range']; rfl
  · show spec_l03Values.l0 (k + 1) l i = if valF l i.toNat = true then spec_l03Values.l0 k l (wrap64 (i + 1)) else some false
    have h1 := sAt_size l hs i.toNat
    have h2 := sAt_size l hs (i.toNat - 1)
    rw [spec_l03Values.l0, if_pos hi, if_pos h0, rdOf_sAt, spec_l02Value_f _ k (by omega)]
    simp only [Option.bind_some]
    unfold valF
    cases hv : ValueP (sAt l i.toNat) with
    | false => simp
    | true =>
      rw [if_pos rfl]
      by_cases hz : i > 0
      · rw [if_pos hz, w64 (x := i - 1) (by omega) (by omega), if_pos (by omega), if_pos (by omega), rdOf_sAt, show (i - 1).toNat = i.toNat - 1 by omega, spec_Norm_f _ k (by omega), spec_Norm_f _ k (by omega), decide_eq_false (p := i.toNat = 0) (by omega)]
        simp only [Option.bind_some, Bool.true_and, Bool.false_or]
      · rw [if_neg hz, decide_eq_true (p := i.toNat = 0) (by omega)]
        simp
  · show spec_l03Values.l0 (k + 1) l i = _
    rw [spec_l03Values.l0, if_neg (by omega)]
    by_cases h1 : (l.length : Int) ≥ 1
    · rw [if_pos h1, decide_eq_true (p := 1 ≤ l.length) (by omega), Bool.true_and]
      congr 1
      by_cases h4 : l.length ≤ 4
      · rw [decide_eq_true h4, decide_eq_true (by omega)]
      · rw [decide_eq_false h4, decide_eq_false (by omega)]
    · rw [if_neg h1, decide_eq_false (p := 1 ≤ l.length) (by omega)]; rfl
def AttrP (n : ByteArray) (l : List ByteArray) : Bool := NameP n && ValsP l
theorem impl_byNorm_f (a b : ByteArray) (k : Nat) (ha : 2 * a.size + 2 < k) (hb : 2 * b.size + 2 < k) : impl_byNorm.f k a b = some (Lib.compareBytes (NormP a).toList (NormP b).toList) := by
  unfold impl_byNorm.f strings_Compare.f
  rw [impl_Norm_f a k ha, impl_Norm_f b k hb, Go.Lib.toList_data, Go.Lib.toList_data]; rfl
theorem impl_isAttr_f (n : ByteArray) (l : List ByteArray) (hl : l.length ≤ 140737488351232) (hs : ∀ x ∈ l, x.size ≤ 140737488351232) (k : Nat) (hk : 1125899906842624 + 1 + l.length < k) : impl_isAttr.f k n l = some (AttrP n l) := by
  obtain ⟨k, rfl⟩ : ∃ q, k = q + 1 := ⟨k - 1, by omega⟩
  unfold impl_isAttr.f AttrP
  rw [impl_NameRight_f, Option.bind_some]
  cases NameP n with
  | false => rw [if_neg (by simp), impl_isAttr.j0, if_pos rfl]; rfl
  | true =>
    have hb : impl_between.f (l.length : Int) 1 4 = some (decide (1 ≤ l.length) && decide (l.length ≤ 4)) := by
      unfold impl_between.f
      by_cases h1 : (l.length : Int) ≥ 1
      · rw [if_pos h1, decide_eq_true (p := 1 ≤ l.length) (by omega), Bool.true_and]
        congr 1
        by_cases h4 : l.length ≤ 4
        · rw [decide_eq_true h4, decide_eq_true (by omega)]
        · rw [decide_eq_false h4, decide_eq_false (by omega)]
      · rw [if_neg h1, decide_eq_false (p := 1 ≤ l.length) (by omega)]; rfl
    unfold impl_size_string.f
    rw [if_pos rfl]
    simp only [Option.bind_some]
    rw [hb]
    simp only [Option.bind_some, Bool.true_and]
    unfold ValsP
    cases hc : (decide (1 ≤ l.length) && decide (l.length ≤ 4)) with
    | false => rw [impl_isAttr.j0, Bool.not_false, if_pos rfl, Bool.and_false]
    | true =>
      rw [impl_isAttr.j0, if_neg (by simp), all_loop true (valF l) l.length (by omega) 1125899906842624 (fun k i => impl_isAttr.l0 k l (l.length : Int) i n l) (fun k i hk h0 hi => ?_) (fun k i hk h0 hi => ?_) l.length k 0 (by omega) (by omega) (by omega)]
      · rw [List.range_eq_range']; rfl
      · show impl_isAttr.l0 (k + 1) l (l.length : Int) i n l = if valF l i.toNat = true then impl_isAttr.l0 k l (l.length : Int) (wrap64 (i + 1)) n l else some false
        have h1 := sAt_size l hs i.toNat
        have h2 := sAt_size l hs (i.toNat - 1)
        rw [impl_isAttr.l0, if_pos hi, if_pos h0, if_pos hi, rdOf_sAt, impl_isProper_f _ k (by omega)]
        simp only [Option.bind_some]
        unfold valF
        cases hv : ValueP (sAt l i.toNat) with
        | false => simp
        | true =>
          rw [if_pos rfl]
          by_cases hz : i > 0
          · rw [if_pos hz, w64 (x := i - 1) (by omega) (by omega), if_pos (by omega), if_pos (by omega), rdOf_sAt, show (i - 1).toNat = i.toNat - 1 by omega, impl_byNorm_f _ _ k (by omega) (by omega), decide_eq_false (p := i.toNat = 0) (by omega)]
            simp only [Option.bind_some, Bool.true_and, Bool.false_or]
            have hcl := cmp_less (NormP (sAt l (i.toNat - 1))).toList (NormP (sAt l i.toNat)).toList
            cases hbl : Op.bytesLess (NormP (sAt l (i.toNat - 1))).toList (NormP (sAt l i.toNat)).toList with
            | true =>
              rw [hbl, Bool.not_true] at hcl
              rw [if_neg (of_decide_eq_false hcl), if_pos rfl]
            | false =>
              rw [hbl, Bool.not_false] at hcl
              rw [if_pos (of_decide_eq_true hcl), if_neg (by simp)]
          · rw [if_neg hz, decide_eq_true (p := i.toNat = 0) (by omega)]
            simp
      · show impl_isAttr.l0 (k + 1) l (l.length : Int) i n l = _
        rw [impl_isAttr.l0, if_neg (by omega)]
def aAt (l : List At) (j : Nat) : At := l.getD j z114
def attrF (l : List At) (j : Nat) : Bool := AttrP (aAt l j).f0 (aAt l j).f1 && (decide (j = 0) || Op.bytesLess (aAt l (j - 1)).f0.toList (aAt l j).f0.toList)
def AttrsP (l : List At) : Bool := (List.range l.length).all (attrF l) && decide (l.length ≤ 8)
/-- What EntryRight says. -/
def EntryP (dn : List Rd) (l : List At) : Bool := decide (0 < dn.length) && DnP dn && AttrsP l
/-- Attributes of a size that can be. -/
def AtOK (l : List At) : Prop := l.length ≤ 140737488351232 ∧ ∀ x ∈ l, x.f1.length ≤ 140737488351232 ∧ ∀ s ∈ x.f1, s.size ≤ 140737488351232
theorem aAt_ok {l : List At} (h : AtOK l) (j : Nat) : (aAt l j).f1.length ≤ 140737488351232 ∧ ∀ s ∈ (aAt l j).f1, s.size ≤ 140737488351232 := by
  unfold aAt
  rw [List.getD_eq_getElem?_getD]
  by_cases hj : j < l.length
  · rw [List.getElem?_eq_getElem hj]; exact h.2 _ (List.getElem_mem hj)
  · rw [List.getElem?_eq_none (by omega)]
    exact ⟨by decide, fun s hs => by cases hs⟩
theorem rd_aAt (l : List At) (i : Int) : rd_T114 l i = aAt l i.toNat := rfl
theorem spec_l03Attrs_f (l : List At) (h : AtOK l) (k : Nat) (hk : 2251799813685248 + l.length < k) : spec_l03Attrs.f k l = some (AttrsP l) := by
  have hl := h.1
  unfold spec_l03Attrs.f AttrsP
  rw [all_loop (decide (l.length ≤ 8)) (attrF l) l.length (by omega) 2251799813685248 (fun k i => spec_l03Attrs.l0 k l i) (fun k i hk h0 hi => ?_) (fun k i hk h0 hi => ?_) l.length k 0 (by omega) (by omega) (by omega)]
  · rw [List.range_eq_range']; rfl
  · show spec_l03Attrs.l0 (k + 1) l i = if attrF l i.toNat = true then spec_l03Attrs.l0 k l (wrap64 (i + 1)) else some false
    obtain ⟨h1, h2⟩ := aAt_ok h i.toNat
    rw [spec_l03Attrs.l0, if_pos hi, if_pos h0, rd_aAt, spec_NameRight_f _ k (by omega), spec_l03Values_f _ h1 h2 k (by omega)]
    simp only [Option.bind_some]
    unfold attrF AttrP
    cases NameP (aAt l i.toNat).f0 with
    | false => simp
    | true =>
      rw [if_pos rfl]
      by_cases hz : i > 0
      · rw [if_pos hz, w64 (x := i - 1) (by omega) (by omega), if_pos (by omega), if_pos (by omega), rd_aAt, show (i - 1).toNat = i.toNat - 1 by omega, decide_eq_false (p := i.toNat = 0) (by omega)]
        cases Op.bytesLess (aAt l (i.toNat - 1)).f0.toList (aAt l i.toNat).f0.toList <;> cases ValsP (aAt l i.toNat).f1 <;> simp
      · rw [if_neg hz, decide_eq_true (p := i.toNat = 0) (by omega)]
        cases ValsP (aAt l i.toNat).f1 <;> simp
  · show spec_l03Attrs.l0 (k + 1) l i = _
    rw [spec_l03Attrs.l0, if_neg (by omega)]
    congr 1
    by_cases h4 : l.length ≤ 8
    · rw [decide_eq_true h4, decide_eq_true (by omega)]
    · rw [decide_eq_false h4, decide_eq_false (by omega)]
theorem spec_EntryRight_f (dn : List Rd) (hd : dn.length ≤ 140737488351232) (l : List At) (h : AtOK l) (k : Nat) (hk : 4503599627370496 < k) : spec_EntryRight.f k dn l = some (EntryP dn l) := by
  have hl := h.1
  unfold spec_EntryRight.f EntryP
  by_cases h0 : (dn.length : Int) > 0
  · rw [if_pos h0, spec_DnRight_f dn (by omega) k (by omega), spec_l03Attrs_f l h k (by omega), decide_eq_true (p := 0 < dn.length) (by omega)]
    cases DnP dn <;> simp
  · rw [if_neg h0, decide_eq_false (p := 0 < dn.length) (by omega)]; rfl
theorem impl_EntryRight_f (dn : List Rd) (l : List At) (h : AtOK l) (k : Nat) (hk : 4503599627370496 < k) : impl_EntryRight.f k dn l = some (EntryP dn l) := by
  obtain ⟨k, rfl⟩ : ∃ q, k = q + 1 := ⟨k - 1, by omega⟩
  have hl := h.1
  unfold impl_EntryRight.f EntryP
  have hj : ∀ b, impl_EntryRight.j0 (k + 1) b dn l = some (!b && (List.range l.length).all (attrF l)) := by
    intro b
    rw [impl_EntryRight.j0]
    cases b with
    | true => rw [if_pos rfl]; rfl
    | false =>
      rw [if_neg (by simp), all_loop true (attrF l) l.length (by omega) 2251799813685248 (fun k i => impl_EntryRight.l0 k l (l.length : Int) i dn l) (fun k i hk h0 hi => ?_) (fun k i hk h0 hi => ?_) l.length k 0 (by omega) (by omega) (by omega)]
      · rw [List.range_eq_range']; simp
      · show impl_EntryRight.l0 (k + 1) l (l.length : Int) i dn l = if attrF l i.toNat = true then impl_EntryRight.l0 k l (l.length : Int) (wrap64 (i + 1)) dn l else some false
        obtain ⟨h1, h2⟩ := aAt_ok h i.toNat
        rw [impl_EntryRight.l0, if_pos hi, if_pos h0, if_pos hi, rd_aAt, impl_isAttr_f _ _ h1 h2 k (by omega)]
        simp only [Option.bind_some]
        unfold attrF
        cases AttrP (aAt l i.toNat).f0 (aAt l i.toNat).f1 with
        | false => simp
        | true =>
          rw [if_pos rfl]
          by_cases hz : i > 0
          · rw [if_pos hz, w64 (x := i - 1) (by omega) (by omega), if_pos (by omega), if_pos (by omega), rd_aAt, show (i - 1).toNat = i.toNat - 1 by omega, decide_eq_false (p := i.toNat = 0) (by omega)]
            simp
          · rw [if_neg hz, decide_eq_true (p := i.toNat = 0) (by omega)]
            simp
      · show impl_EntryRight.l0 (k + 1) l (l.length : Int) i dn l = _
        rw [impl_EntryRight.l0, if_neg (by omega)]
  unfold AttrsP
  by_cases h0 : (dn.length : Int) = 0
  · rw [if_pos h0, hj, decide_eq_false (p := 0 < dn.length) (by omega)]; rfl
  · rw [if_neg h0, impl_DnRight_f dn _ (by omega), decide_eq_true (p := 0 < dn.length) (by omega), Option.bind_some, hj, hj]
    cases DnP dn with
    | false => rfl
    | true =>
      rw [if_pos rfl]
      by_cases h8 : l.length ≤ 8
      · rw [decide_eq_true h8, decide_eq_false (by omega)]; simp
      · rw [decide_eq_false h8, decide_eq_true (by omega)]; simp

/-! EntryBytes -/
theorem PT_size (s : ByteArray) : (PT s).size ≤ 8010 := by
  unfold PT
  split
  · exact Nat.zero_le _
  · have := PN_size s.size
    rw [ba_append_size]; omega
/-- A text, then the bytes of some values. -/
def valsB (x : ByteArray) (l : List ByteArray) : ByteArray := l.foldl (fun x v => x ++ PT v) x
def attrB (x : ByteArray) (a : At) : ByteArray := valsB ((x ++ PT a.f0) ++ PN a.f1.length) a.f1
def EntryB (dn : List Rd) (l : List At) : ByteArray := l.foldl attrB (PT (TextP dn) ++ PN l.length)
theorem valsB_size : ∀ (l : List ByteArray) (x : ByteArray), (valsB x l).size ≤ x.size + 8010 * l.length
  | [], x => by simp [valsB]
  | v :: l, x => by
    have h1 := valsB_size l (x ++ PT v)
    have h2 := PT_size v
    rw [ba_append_size] at h1
    show (valsB (x ++ PT v) l).size ≤ _
    rw [List.length_cons]; omega
theorem aAt_drop (l : List At) (i : Int) (h0 : 0 ≤ i) (h1 : i < l.length) : l.drop i.toNat = aAt l i.toNat :: l.drop (i + 1).toNat := by
  have hi : i.toNat < l.length := by omega
  rw [List.drop_eq_getElem_cons hi, show (i + 1).toNat = i.toNat + 1 by omega]
  unfold aAt
  rw [List.getD_eq_getElem?_getD, List.getElem?_eq_getElem hi]; rfl
theorem aAt_mem (l : List At) (i : Int) (h0 : 0 ≤ i) (h1 : i < l.length) : aAt l i.toNat ∈ l := by
  have hi : i.toNat < l.length := by omega
  unfold aAt
  rw [List.getD_eq_getElem?_getD, List.getElem?_eq_getElem hi]
  exact List.getElem_mem hi
theorem sAt_drop (l : List ByteArray) (i : Int) (h0 : 0 ≤ i) (h1 : i < l.length) : l.drop i.toNat = sAt l i.toNat :: l.drop (i + 1).toNat := by
  have hi : i.toNat < l.length := by omega
  rw [List.drop_eq_getElem_cons hi, show (i + 1).toNat = i.toNat + 1 by omega]
  unfold sAt
  rw [List.getD_eq_getElem?_getD, List.getElem?_eq_getElem hi]; rfl
theorem spec_l03Bytes_l1 (dn : List Rd) (l : List At) (i : Int) (h0 : 0 ≤ i) (h1 : i < l.length) : ∀ (e k : Nat) (x : ByteArray) (j : Int), 0 ≤ j → j + e = (aAt l i.toNat).f1.length → (aAt l i.toNat).f1.length ≤ 4 → 10 ≤ k → x.size + 8010 * e ≤ 1000000000000 →
    spec_l03Bytes.l1 (k + e + 1) x i j dn l = spec_l03Bytes.l0 k (valsB x ((aAt l i.toNat).f1.drop j.toNat)) (wrap64 (i + 1)) dn l
  | 0, k, x, j, hj, he, h4, hk, hx => by
    rw [spec_l03Bytes.l1, if_pos h0, if_pos h1, rd_aAt, if_neg (by omega), List.drop_of_length_le (by omega)]
    rfl
  | e + 1, k, x, j, hj, he, h4, hk, hx => by
    have hp := PT_size (sAt (aAt l i.toNat).f1 j.toNat)
    rw [spec_l03Bytes.l1, if_pos h0, if_pos h1, rd_aAt, if_pos (by omega), if_pos hj, rdOf_sAt, spec_PutText_f _ _ (by omega)]
    simp only [Option.bind_some]
    rw [if_pos (by omega), w64 (x := j + 1) (by omega) (by omega), show k + (e + 1) = k + e + 1 by omega, spec_l03Bytes_l1 dn l i h0 h1 e k _ (j + 1) (by omega) (by omega) h4 hk (by rw [ba_append_size]; omega), sAt_drop _ j hj (by omega)]
    rfl
theorem spec_l03Bytes_l0 (dn : List Rd) (l : List At) (hl : l.length ≤ 8) (h4 : ∀ a ∈ l, a.f1.length ≤ 4) : ∀ (d k : Nat) (x : ByteArray) (i : Int), 0 ≤ i → i + d = l.length → 6 * d + 20 ≤ k → x.size + 50000 * d ≤ 1000000000 →
    spec_l03Bytes.l0 k x i dn l = some ((l.drop i.toNat).foldl attrB x)
  | 0, k, x, i, h0, hi, hk, hx => by
    obtain ⟨k, rfl⟩ : ∃ q, k = q + 1 := ⟨k - 1, by omega⟩
    rw [spec_l03Bytes.l0, if_neg (by omega), List.drop_of_length_le (by omega)]; rfl
  | d + 1, k, x, i, h0, hi, hk, hx => by
    have hm := h4 _ (aAt_mem l i h0 (by omega))
    obtain ⟨k, rfl⟩ : ∃ q, k = q + (aAt l i.toNat).f1.length + 1 + 1 := ⟨k - (aAt l i.toNat).f1.length - 2, by omega⟩
    have hp := PT_size (aAt l i.toNat).f0
    have hn := PN_size (aAt l i.toNat).f1.length
    have hv := valsB_size (aAt l i.toNat).f1 ((x ++ PT (aAt l i.toNat).f0) ++ PN (aAt l i.toNat).f1.length)
    simp only [ba_append_size] at hv
    rw [spec_l03Bytes.l0, if_pos (by omega), if_pos h0, rd_aAt, spec_PutText_f _ _ (by omega)]
    simp only [Option.bind_some]
    rw [if_pos (by omega), spec_PutNum_f _ _ (by omega) (by omega) (by omega)]
    simp only [Option.bind_some]
    rw [if_pos (by rw [ba_append_size]; omega), spec_l03Bytes_l1 dn l i h0 (by omega) (aAt l i.toNat).f1.length k _ 0 (by omega) (by omega) hm (by omega) (by simp only [ba_append_size]; omega), w64 (x := i + 1) (by omega) (by omega), show (0 : Int).toNat = 0 from rfl, List.drop_zero,
      spec_l03Bytes_l0 dn l hl h4 d k _ (i + 1) (by omega) (by omega) (by omega) (by omega), aAt_drop l i h0 (by omega)]
    rfl
theorem impl_Entry_bytes_l1 (l : List At) (n i : Int) (vs : List ByteArray) (h4 : vs.length ≤ 4) : ∀ (e k : Nat) (x : ByteArray) (j : Int), 0 ≤ j → j + e = vs.length → 10 ≤ k → x.size + 8010 * e ≤ 1000000000000 →
    impl_Entry_bytes.l1 (k + e + 1) x l n i vs (vs.length : Int) j = impl_Entry_bytes.l0 k (valsB x (vs.drop j.toNat)) l n (wrap64 (i + 1))
  | 0, k, x, j, hj, he, hk, hx => by
    rw [impl_Entry_bytes.l1, if_neg (by omega), List.drop_of_length_le (by omega)]
    rfl
  | e + 1, k, x, j, hj, he, hk, hx => by
    have hp := PT_size (sAt vs j.toNat)
    rw [impl_Entry_bytes.l1, if_pos (by omega), if_pos hj, if_pos (by omega), rdOf_sAt, impl_PutText_f _ _ (by omega)]
    simp only [Option.bind_some]
    rw [if_pos (by omega), w64 (x := j + 1) (by omega) (by omega), show k + (e + 1) = k + e + 1 by omega, impl_Entry_bytes_l1 l n i vs h4 e k _ (j + 1) (by omega) (by omega) hk (by rw [ba_append_size]; omega), sAt_drop _ j hj (by omega)]
    rfl
theorem impl_Entry_bytes_l0 (l : List At) (hl : l.length ≤ 8) (h4 : ∀ a ∈ l, a.f1.length ≤ 4) : ∀ (d k : Nat) (x : ByteArray) (i : Int), 0 ≤ i → i + d = l.length → 6 * d + 20 ≤ k → x.size + 50000 * d ≤ 1000000000 →
    impl_Entry_bytes.l0 k x l (l.length : Int) i = some ((l.drop i.toNat).foldl attrB x)
  | 0, k, x, i, h0, hi, hk, hx => by
    obtain ⟨k, rfl⟩ : ∃ q, k = q + 1 := ⟨k - 1, by omega⟩
    rw [impl_Entry_bytes.l0, if_neg (by omega), List.drop_of_length_le (by omega)]; rfl
  | d + 1, k, x, i, h0, hi, hk, hx => by
    have hm := h4 _ (aAt_mem l i h0 (by omega))
    obtain ⟨k, rfl⟩ : ∃ q, k = q + (aAt l i.toNat).f1.length + 1 + 1 := ⟨k - (aAt l i.toNat).f1.length - 2, by omega⟩
    have hp := PT_size (aAt l i.toNat).f0
    have hn := PN_size (aAt l i.toNat).f1.length
    have hv := valsB_size (aAt l i.toNat).f1 ((x ++ PT (aAt l i.toNat).f0) ++ PN (aAt l i.toNat).f1.length)
    simp only [ba_append_size] at hv
    have hz : ∀ v : List ByteArray, impl_size_string.f v = some (v.length : Int) := fun _ => rfl
    rw [impl_Entry_bytes.l0, if_pos (by omega), if_pos h0, if_pos (by omega), rd_aAt, impl_PutText_f _ _ (by omega)]
    simp only [Option.bind_some, hz]
    rw [impl_PutNum_f _ _ (by omega) (by omega) (by omega)]
    simp only [Option.bind_some]
    rw [if_pos (by omega), if_pos (by rw [ba_append_size]; omega), ← ba_append_assoc, impl_Entry_bytes_l1 l _ i _ hm (aAt l i.toNat).f1.length k _ 0 (by omega) (by omega) (by omega) (by simp only [ba_append_size]; omega), w64 (x := i + 1) (by omega) (by omega), show (0 : Int).toNat = 0 from rfl, List.drop_zero,
      impl_Entry_bytes_l0 l hl h4 d k _ (i + 1) (by omega) (by omega) (by omega) (by omega), aAt_drop l i h0 (by omega)]
    rfl
theorem EntryP_mem {dn : List Rd} {l : List At} (h : EntryP dn l = true) : DnP dn = true ∧ l.length ≤ 8 ∧ ∀ a ∈ l, AttrP a.f0 a.f1 = true := by
  unfold EntryP AttrsP at h
  simp only [Bool.and_eq_true, decide_eq_true_eq, List.all_eq_true, List.mem_range] at h
  refine ⟨h.1.2, h.2.2, fun a ha => ?_⟩
  obtain ⟨j, hj, rfl⟩ := List.getElem_of_mem ha
  have h1 := h.2.1 j hj
  unfold attrF at h1
  rw [Bool.and_eq_true] at h1
  have e : aAt l j = l[j] := by unfold aAt; rw [List.getD_eq_getElem?_getD, List.getElem?_eq_getElem hj]; rfl
  rw [e] at h1
  exact h1.1
theorem AttrP_len {n : ByteArray} {l : List ByteArray} (h : AttrP n l = true) : NameP n = true ∧ 1 ≤ l.length ∧ l.length ≤ 4 := by
  unfold AttrP ValsP at h
  simp only [Bool.and_eq_true, decide_eq_true_eq] at h
  exact ⟨h.1, h.2.2⟩
theorem spec_l03Bytes_f (dn : List Rd) (l : List At) (h : EntryP dn l = true) (k : Nat) (hk : 200 ≤ k) : spec_l03Bytes.f k dn l = some (EntryB dn l) := by
  obtain ⟨h1, h2, h3⟩ := EntryP_mem h
  have hp := PT_size (TextP dn)
  have hn := PN_size l.length
  unfold spec_l03Bytes.f EntryB
  rw [spec_l02Text_f dn h1 k (by omega), Option.bind_some, spec_PutText_f _ _ (by omega), Option.bind_some, spec_PutNum_f _ _ (by omega) (by omega) (by omega), Option.bind_some, if_pos (by omega),
    spec_l03Bytes_l0 dn l h2 (fun a ha => (AttrP_len (h3 a ha)).2.2) l.length k _ 0 (by omega) (by omega) (by omega) (by rw [ba_append_size]; omega)]
  rfl
theorem impl_Entry_bytes_f (dn : List Rd) (l : List At) (h : EntryP dn l = true) (k : Nat) (hk : 1000 ≤ k) : impl_Entry_bytes.f k dn l = some (EntryB dn l) := by
  obtain ⟨h1, h2, h3⟩ := EntryP_mem h
  have hp := PT_size (TextP dn)
  have hn := PN_size l.length
  have hz : impl_Attr.f l = some (l.length : Int) := rfl
  unfold impl_Entry_bytes.f EntryB
  rw [impl_dnText_f dn h1 k (by omega), Option.bind_some, impl_PutText_f _ _ (by omega), Option.bind_some, hz, Option.bind_some, impl_PutNum_f _ _ (by omega) (by omega) (by omega), Option.bind_some, if_pos (by omega),
    impl_Entry_bytes_l0 l h2 (fun a ha => (AttrP_len (h3 a ha)).2.2) l.length k _ 0 (by omega) (by omega) (by omega) (by rw [ba_append_size]; omega)]
  rfl

theorem FnExactEntryBytes : laws_FnExactEntryBytes.Pure := by
  intro d l ⟨hd, _⟩ ⟨hl, hx⟩
  have hM : ∀ x ∈ l, x.f1.length ≤ 17592186044416 ∧ ∀ s ∈ x.f1, s.size ≤ 140737488351232 := fun x hx2 => by
    have := (hx x hx2).2
    refine ⟨?_, this.2⟩
    have := this.1
    omega
  obtain ⟨K, hK⟩ : ∃ K : Nat, K = 1152921504606846976 := ⟨_, rfl⟩
  refine ⟨K, ?_⟩
  unfold laws_FnExactEntryBytes.f
  obtain ⟨r, e⟩ := laws_szEntry_f d l (by omega) (by omega) (fun x hx => by have := (hM x hx).1; omega) 1048576 K (by omega)
  rw [e, laws_toEntry_f d l (by omega) (by omega) (fun x hx => (hM x hx).1) K (by omega), Option.bind_some]
  split
  · rfl
  · have hA : AtOK (l.map cvAttr) := by
      refine ⟨by rw [List.length_map]; omega, fun x hx => ?_⟩
      obtain ⟨y, hy, rfl⟩ := List.mem_map.1 hx
      have := hM y hy
      exact ⟨by show y.f1.length ≤ _; omega, this.2⟩
    simp only [Option.bind_some]
    have e1 : spec_EntryBytes.f K (d.map cvRdn) (l.map cvAttr) = some (if EntryP (d.map cvRdn) (l.map cvAttr) = true then EntryB (d.map cvRdn) (l.map cvAttr) else ⟨#[]⟩) := by
      unfold spec_EntryBytes.f
      rw [spec_EntryRight_f _ (by rw [List.length_map]; omega) _ hA K (by omega), Option.bind_some]
      by_cases h : EntryP (d.map cvRdn) (l.map cvAttr) = true
      · rw [if_pos h, if_pos h, spec_l03Bytes_f _ _ h K (by omega)]; rfl
      · rw [if_neg h, if_neg h]
    have e2 : impl_EntryBytes.f K (d.map cvRdn) (l.map cvAttr) = some (if EntryP (d.map cvRdn) (l.map cvAttr) = true then EntryB (d.map cvRdn) (l.map cvAttr) else ⟨#[]⟩) := by
      unfold impl_EntryBytes.f
      rw [impl_EntryRight_f _ _ hA K (by omega), Option.bind_some]
      by_cases h : EntryP (d.map cvRdn) (l.map cvAttr) = true
      · rw [if_pos h, if_pos h, impl_Entry_bytes_f _ _ h K (by omega)]; rfl
      · rw [if_neg h, if_neg h]
    rw [e1, e2, laws_eqEntry_f _ _ (by rw [List.length_map]; omega) hA.1 (fun x hx => (hA.2 x hx).1) K (by omega)]
    simp

end Go.Proofs.YtdbboelacgehoaaDoor.Pure
