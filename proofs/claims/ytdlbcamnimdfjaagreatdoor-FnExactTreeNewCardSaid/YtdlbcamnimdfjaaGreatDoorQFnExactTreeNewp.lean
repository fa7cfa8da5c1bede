/- The law FnExactTreeNew answers true at every list of classes: the program's TreeNew gives what the reference's gives, in memory of its own. No condition. -/
import Derived.Test.YtdlbcamnimdfjaaGreatDoorQFnExactTreeNewx17
import Derived.Laws.Bits64
import Derived.Lib.Strings
namespace Go.Proofs.YtdlbcamnimdfjaaGreatDoor.Pure
open Go.RowKit Go.Proofs.YtdlbcamnimdfjaaGreatDoor.PFnExactTreeNew Go.Proofs.YtdlbcamnimdfjaaGreatDoorW.PrintWords Go.Proofs.YtdlbcamnimdfjaaGreatDoorW.PrintLast
set_option linter.unusedVariables false
set_option linter.unusedSimpArgs false

/-! plain lemmas -/
theorem w64 {x : Int} (h0 : -9223372036854775808 ≤ x) (h1 : x ≤ 9223372036854775807) : wrap64 x = x := by unfold wrap64; omega
theorem ba_append_size (a b : ByteArray) : (a ++ b).size = a.size + b.size := by simp
theorem ba_ext {a b : ByteArray} (h : a.data.toList = b.data.toList) : a = b := ByteArray.ext (Array.toList_inj.1 h)
theorem ba_inj {a b : ByteArray} : a.toList = b.toList ↔ a = b :=
  ⟨fun h => ba_ext (by rwa [Go.Lib.toList_data, Go.Lib.toList_data] at h), fun h => by rw [h]⟩
theorem drop_bt (s : ByteArray) (i : Int) (h0 : 0 ≤ i) (h1 : i < s.size) : (bytesOf s).drop i.toNat = bt s i :: (bytesOf s).drop (i + 1).toNat := by
  have hl : i.toNat < (bytesOf s).length := by rw [bytesOf_length]; omega
  rw [List.drop_eq_getElem_cons hl, ← rd_bytesOf, show (i + 1).toNat = i.toNat + 1 by omega]
  congr 1
  unfold rd
  rw [List.getD_eq_getElem?_getD, List.getElem?_eq_getElem hl]; rfl

/-! loops that go over a row once -/
theorem some_loop {ρ : Type} (n : Nat) (hn : (n : Int) ≤ 4611686018427387904) (K : Nat) (g : Nat → Int → Int → Option ρ)
    (step : ∀ (k : Nat) (a i : Int), K ≤ k → 0 ≤ i → i < n → (∃ r, g (k + 1) a i = some r) ∨ ∃ a', g (k + 1) a i = g k a' (wrap64 (i + 1)))
    (fin : ∀ (k : Nat) (a i : Int), K ≤ k → 0 ≤ i → (n : Int) ≤ i → ∃ r, g (k + 1) a i = some r) :
    ∀ (d k : Nat) (a i : Int), 0 ≤ i → i + d = n → K + d < k → ∃ r, g k a i = some r
  | 0, k, a, i, h0, hi, hk => by
    obtain ⟨k, rfl⟩ : ∃ q, k = q + 1 := ⟨k - 1, by omega⟩
    exact fin k a i (by omega) h0 (by omega)
  | d + 1, k, a, i, h0, hi, hk => by
    obtain ⟨k, rfl⟩ : ∃ q, k = q + 1 := ⟨k - 1, by omega⟩
    rcases step k a i (by omega) h0 (by omega) with h | ⟨a', e⟩
    · exact h
    · rw [e, w64 (x := i + 1) (by omega) (by omega)]
      exact some_loop n hn K g step fin d k a' (i + 1) (by omega) (by omega) (by omega)
theorem skip_loop {ρ : Type} (r : ρ) (n : Nat) (hn : (n : Int) ≤ 4611686018427387904) (K : Nat) (g : Nat → Int → Option ρ)
    (step : ∀ (k : Nat) (i : Int), K ≤ k → 0 ≤ i → i < n → g (k + 1) i = g k (wrap64 (i + 1)))
    (fin : ∀ (k : Nat) (i : Int), K ≤ k → 0 ≤ i → (n : Int) ≤ i → g (k + 1) i = some r) :
    ∀ (d k : Nat) (i : Int), 0 ≤ i → i + d = n → K + d < k → g k i = some r
  | 0, k, i, h0, hi, hk => by
    obtain ⟨k, rfl⟩ : ∃ q, k = q + 1 := ⟨k - 1, by omega⟩
    exact fin k i (by omega) h0 (by omega)
  | d + 1, k, i, h0, hi, hk => by
    obtain ⟨k, rfl⟩ : ∃ q, k = q + 1 := ⟨k - 1, by omega⟩
    rw [step k i (by omega) h0 (by omega), w64 (x := i + 1) (by omega) (by omega)]
    exact skip_loop r n hn K g step fin d k (i + 1) (by omega) (by omega) (by omega)
theorem copy_loop {β : Type} (n : Nat) (hn : (n : Int) ≤ 4611686018427387904) (src : Nat → β) (K : Nat) (g : Nat → List β → Int → Option (List β))
    (step : ∀ (k : Nat) (x : List β) (i : Int), K ≤ k → 0 ≤ i → i < n → x.length = n → g (k + 1) x i = g k (x.set i.toNat (src i.toNat)) (wrap64 (i + 1)))
    (fin : ∀ (k : Nat) (x : List β) (i : Int), (n : Int) ≤ i → g (k + 1) x i = some x) :
    ∀ (d k : Nat) (x : List β) (i : Int), 0 ≤ i → i + d = n → K + d < k → x.length = n → g k x i = some (x.take i.toNat ++ (List.range' i.toNat d).map src)
  | 0, k, x, i, h0, hi, hk, hx => by
    obtain ⟨k, rfl⟩ : ∃ q, k = q + 1 := ⟨k - 1, by omega⟩
    rw [fin k x i (by omega), List.take_of_length_le (by omega)]
    simp
  | d + 1, k, x, i, h0, hi, hk, hx => by
    obtain ⟨k, rfl⟩ : ∃ q, k = q + 1 := ⟨k - 1, by omega⟩
    rw [step k x i (by omega) h0 (by omega) hx, w64 (x := i + 1) (by omega) (by omega),
      copy_loop n hn src K g step fin d k _ (i + 1) (by omega) (by omega) (by omega) (by rw [List.length_set]; exact hx)]
    congr 1
    rw [show (i + 1).toNat = i.toNat + 1 by omega, List.range'_succ, List.map_cons, List.take_succ_eq_append_getElem (by rw [List.length_set]; omega), List.getElem_set_self, List.take_set_of_le (by omega), List.append_assoc]
    rfl
theorem copy_all {β : Type} (n : Nat) (hn : (n : Int) ≤ 4611686018427387904) (src : Nat → β) (K : Nat) (g : Nat → List β → Int → Option (List β)) (z : β)
    (step : ∀ (k : Nat) (x : List β) (i : Int), K ≤ k → 0 ≤ i → i < n → x.length = n → g (k + 1) x i = g k (x.set i.toNat (src i.toNat)) (wrap64 (i + 1)))
    (fin : ∀ (k : Nat) (x : List β) (i : Int), (n : Int) ≤ i → g (k + 1) x i = some x) (k : Nat) (hk : K + n < k) :
    g k (List.replicate n z) 0 = some ((List.range n).map src) := by
  rw [copy_loop n hn src K g step fin n k _ 0 (by omega) (by omega) hk (by simp)]
  simp [List.range_eq_range']
theorem range_map_getD {α β : Type} (l : List α) (z : α) (f : α → β) : (List.range l.length).map (fun j => f (l.getD j z)) = l.map f := by
  apply List.ext_getElem
  · simp
  · intro i h1 h2
    simp only [List.getElem_map, List.getElem_range]
    rw [List.getD_eq_getElem?_getD, List.getElem?_eq_getElem (by simpa using h1)]
    rfl
theorem all_loop (fin : Bool) (f : Nat → Bool) (n : Nat) (hn : (n : Int) ≤ 4611686018427387904) (K : Nat) (g : Nat → Int → Option Bool)
    (step : ∀ (k : Nat) (i : Int), K ≤ k → 0 ≤ i → i < n → g (k + 1) i = if f i.toNat = true then g k (wrap64 (i + 1)) else some false)
    (hfin : ∀ (k : Nat) (i : Int), K ≤ k → 0 ≤ i → (n : Int) ≤ i → g (k + 1) i = some fin) :
    ∀ (d k : Nat) (i : Int), 0 ≤ i → i + d = n → K + d < k → g k i = some ((List.range' i.toNat d).all f && fin)
  | 0, k, i, h0, hi, hk => by
    obtain ⟨k, rfl⟩ : ∃ q, k = q + 1 := ⟨k - 1, by omega⟩
    rw [hfin k i (by omega) h0 (by omega)]; simp
  | d + 1, k, i, h0, hi, hk => by
    obtain ⟨k, rfl⟩ : ∃ q, k = q + 1 := ⟨k - 1, by omega⟩
    rw [step k i (by omega) h0 (by omega), w64 (x := i + 1) (by omega) (by omega), List.range'_succ, List.all_cons]
    cases hf : f i.toNat with
    | false => simp
    | true =>
      rw [if_pos rfl, all_loop fin f n hn K g step hfin d k (i + 1) (by omega) (by omega) (by omega), show (i + 1).toNat = i.toNat + 1 by omega]
      simp

/-! lists of strings -/
theorem laws_szStringS_f (l : List ByteArray) (hl : (l.length : Int) ≤ 4611686018427387904) (a : Int) (k : Nat) (hk : l.length < k) : ∃ r, laws_szStringS.f k l a = some r := by
  unfold laws_szStringS.f
  split
  · exact ⟨_, rfl⟩
  · refine some_loop l.length hl 0 (fun k a i => laws_szStringS.l0 k l a i) (fun k a i _ h0 hi => ?_) (fun k a i _ h0 hi => ?_) l.length k _ 0 (by omega) (by omega) (by omega)
    · show (∃ r, laws_szStringS.l0 (k + 1) l a i = some r) ∨ ∃ a', laws_szStringS.l0 (k + 1) l a i = laws_szStringS.l0 k l a' (wrap64 (i + 1))
      rw [laws_szStringS.l0, if_pos hi, if_pos h0]
      repeat' split
      all_goals first | exact .inl ⟨_, rfl⟩ | exact .inr ⟨_, rfl⟩
    · show ∃ r, laws_szStringS.l0 (k + 1) l a i = some r
      rw [laws_szStringS.l0, if_neg (by omega)]
      exact ⟨_, rfl⟩
theorem laws_toStringS_f (l : List ByteArray) (hl : l.length ≤ 17592186044416) (k : Nat) (hk : l.length < k) : laws_toStringS.f k l = some l := by
  unfold laws_toStringS.f
  rw [if_pos (by omega), if_pos (by omega), show ((l.length : Int)).toNat = l.length from rfl,
    copy_all l.length (by omega) (fun j => id (l.getD j ByteArray.empty)) 0 (fun k x i => laws_toStringS.l0 k l x i) (⟨#[]⟩ : ByteArray) (fun k x i _ h0 hi hx => ?_) (fun k x i hi => ?_) k (by omega), range_map_getD]
  · rw [List.map_id]
  · show laws_toStringS.l0 (k + 1) l x i = _
    rw [laws_toStringS.l0, if_pos hi, if_pos h0, if_pos (by omega)]
    rfl
  · show laws_toStringS.l0 (k + 1) l x i = _
    rw [laws_toStringS.l0, if_neg (by omega)]
theorem laws_eqStringS_f (l : List ByteArray) (hl : (l.length : Int) ≤ 4611686018427387904) (k : Nat) (hk : l.length < k) : laws_eqStringS.f k l l = some true := by
  unfold laws_eqStringS.f
  rw [if_pos rfl]
  refine skip_loop true l.length hl 0 (fun k i => laws_eqStringS.l0 k l l i) (fun k i _ h0 hi => ?_) (fun k i _ h0 hi => ?_) l.length k 0 (by omega) (by omega) (by omega)
  · show laws_eqStringS.l0 (k + 1) l l i = laws_eqStringS.l0 k l l (wrap64 (i + 1))
    rw [laws_eqStringS.l0, if_pos hi, if_pos h0, if_pos hi]
    simp
  · show laws_eqStringS.l0 (k + 1) l l i = _
    rw [laws_eqStringS.l0, if_neg (by omega)]

/-! NameRight -/
def lowc (c : Int) : Bool := decide (97 ≤ c) && decide (c ≤ 122)
def nch (c : Int) : Bool := lowc c || (decide (48 ≤ c) && decide (c ≤ 57)) || decide (c = 95)
/-- What NameRight says. -/
def NameP (s : ByteArray) : Bool := decide (1 ≤ s.size) && decide (s.size ≤ 20) && lowc (bt s 0) && (bytesOf s).all nch
theorem spec_NameRight_l0 (s : ByteArray) (hs : s.size ≤ 20) : ∀ (d k : Nat) (i : Int), 0 ≤ i → i + d = s.size → d < k →
    spec_NameRight.l0 k s i = some ((decide (i ≠ 0) || decide (s.size = 0) || lowc (bt s 0)) && ((bytesOf s).drop i.toNat).all nch)
  | 0, k, i, h0, hi, hk => by
    obtain ⟨k, rfl⟩ : ∃ q, k = q + 1 := ⟨k - 1, by omega⟩
    rw [spec_NameRight.l0, if_neg (by omega), List.drop_of_length_le (by rw [bytesOf_length]; omega), List.all_nil, Bool.and_true]
    by_cases hz : i = 0
    · rw [decide_eq_true (p := s.size = 0) (by omega)]; simp
    · rw [decide_eq_true (p := i ≠ 0) hz]; rfl
  | d + 1, k, i, h0, hi, hk => by
    obtain ⟨k, rfl⟩ : ∃ q, k = q + 1 := ⟨k - 1, by omega⟩
    have ih := spec_NameRight_l0 s hs d k (i + 1) (by omega) (by omega) (by omega)
    rw [decide_eq_true (p := i + 1 ≠ 0) (by omega), Bool.true_or, Bool.true_or, Bool.true_and] at ih
    rw [spec_NameRight.l0, if_pos (by omega), if_pos h0, drop_bt s i h0 (by omega), List.all_cons, w64 (x := i + 1) (by omega) (by omega), ih, decide_eq_false (p := s.size = 0) (by omega), Bool.or_false]
    have hc := bt_range s i
    generalize hcg : bt s i = c at hc ⊢
    have h00 : i = 0 → lowc (bt s 0) = lowc c := fun e => by rw [← hcg, e]
    unfold nch lowc at *
    by_cases c1 : c ≥ 97
    · rw [if_pos c1, decide_eq_true (p := 97 ≤ c) c1]
      by_cases c2 : c ≤ 122
      · rw [if_pos c2, decide_eq_true c2]
        by_cases hz : i = 0
        · rw [h00 hz, decide_eq_true (p := 97 ≤ c) c1, decide_eq_true c2]; simp
        · rw [decide_eq_true (p := i ≠ 0) hz]; simp
      · rw [if_neg c2, decide_eq_false c2, decide_eq_false (p := c ≤ 57) (by omega), decide_eq_false (p := c = 95) (by omega)]
        by_cases hz : i = 0
        · rw [if_pos hz, h00 hz, decide_eq_false c2, decide_eq_false (p := i ≠ 0) (by omega)]; simp
        · rw [if_neg hz, if_pos (by omega), if_neg (by omega), if_neg (by omega)]; simp
    · rw [if_neg c1, decide_eq_false (p := 97 ≤ c) c1]
      by_cases hz : i = 0
      · rw [if_pos hz, h00 hz, decide_eq_false (p := 97 ≤ c) c1, decide_eq_false (p := i ≠ 0) (by omega)]; simp
      · rw [if_neg hz, decide_eq_true (p := i ≠ 0) hz]
        by_cases c3 : c ≥ 48
        · rw [if_pos c3, decide_eq_true (p := 48 ≤ c) c3]
          by_cases c4 : c ≤ 57
          · rw [if_pos c4, decide_eq_true c4]; simp
          · rw [if_neg c4, decide_eq_false c4]
            by_cases c5 : c = 95
            · rw [if_pos c5, decide_eq_true c5]; simp
            · rw [if_neg c5, decide_eq_false c5]; simp
        · rw [if_neg c3, decide_eq_false (p := 48 ≤ c) c3, if_neg (by omega), decide_eq_false (p := c = 95) (by omega)]; simp
theorem spec_NameRight_f (s : ByteArray) (k : Nat) (hk : 30 ≤ k) : spec_NameRight.f k s = some (NameP s) := by
  obtain ⟨k, rfl⟩ : ∃ q, k = q + 1 := ⟨k - 1, by omega⟩
  unfold spec_NameRight.f NameP
  by_cases h1 : (s.size : Int) < 1
  · rw [if_pos h1, spec_NameRight.j0, if_pos rfl, decide_eq_false (p := 1 ≤ s.size) (by omega)]; rfl
  · rw [if_neg h1, decide_eq_true (p := 1 ≤ s.size) (by omega)]
    by_cases h2 : (s.size : Int) > 20
    · rw [decide_eq_true h2, spec_NameRight.j0, if_pos rfl, decide_eq_false (p := s.size ≤ 20) (by omega)]; rfl
    · rw [decide_eq_false h2, spec_NameRight.j0, if_neg (by simp), decide_eq_true (p := s.size ≤ 20) (by omega), spec_NameRight_l0 s (by omega) s.size k 0 (by omega) (by omega) (by omega), decide_eq_false (p := s.size = 0) (by omega)]
      simp
theorem dw_nil {α : Type} (p : α → Bool) : ∀ l : List α, (∀ x ∈ l, p x = true) → l.dropWhile p = []
  | [], _ => rfl
  | a :: l, h => by
    rw [List.dropWhile_cons, if_pos (h a (by simp))]
    exact dw_nil p l (fun x hx => h x (List.mem_cons_of_mem _ hx))
theorem dw_all {α : Type} (p : α → Bool) : ∀ l : List α, (∀ x ∈ l.dropWhile p, p x = true) → ∀ x ∈ l, p x = true
  | [], _, x, hx => by cases hx
  | a :: l, h, x, hx => by
    rw [List.dropWhile_cons] at h
    by_cases ha : p a = true
    · rw [if_pos ha] at h
      rcases List.mem_cons.1 hx with e | e
      · rw [e]; exact ha
      · exact dw_all p l h x e
    · rw [if_neg ha] at h
      exact absurd (h a (by simp)) ha
theorem trim_nil (l cs : List UInt8) : (Lib.trimS l cs == ([] : List UInt8)) = l.all (cs.contains ·) := by
  have key : Lib.trimS l cs = [] ↔ ∀ x ∈ l, cs.contains x = true := by
    unfold Lib.trimS Lib.trimLeftS Lib.trimRightS
    constructor
    · intro h x hx
      refine dw_all (cs.contains ·) l.reverse (fun y hy => ?_) x (List.mem_reverse.2 hx)
      refine dw_all (cs.contains ·) (l.reverse.dropWhile (cs.contains ·)).reverse (fun z hz => ?_) y (List.mem_reverse.2 hy)
      rw [h] at hz; cases hz
    · intro h
      rw [dw_nil (cs.contains ·) l.reverse (fun x hx => h x (List.mem_reverse.1 hx))]; rfl
  by_cases h : Lib.trimS l cs = []
  · rw [h, List.all_eq_true.2 (key.1 h)]; rfl
  · rw [beq_eq_false_iff_ne.2 h]
    symm
    rw [Bool.eq_false_iff]
    exact fun h2 => h (key.2 (List.all_eq_true.1 h2))
theorem nch_contains (b : UInt8) : ([97, 98, 99, 100, 101, 102, 103, 104, 105, 106, 107, 108, 109, 110, 111, 112, 113, 114, 115, 116, 117, 118, 119, 120, 121, 122, 48, 49, 50, 51, 52, 53, 54, 55, 56, 57, 95] : List UInt8).contains b = nch b.toNat := by
  have key : ∀ z : Fin 256, ([97, 98, 99, 100, 101, 102, 103, 104, 105, 106, 107, 108, 109, 110, 111, 112, 113, 114, 115, 116, 117, 118, 119, 120, 121, 122, 48, 49, 50, 51, 52, 53, 54, 55, 56, 57, 95] : List UInt8).contains (UInt8.ofNat z.val) = nch (z.val : Nat) := by decide +kernel
  have := key ⟨b.toNat, b.toNat_lt⟩
  simpa using this
theorem impl_NameRight_f (s : ByteArray) : impl_NameRight.f s = some (NameP s) := by
  unfold impl_NameRight.f NameP
  by_cases h1 : (s.size : Int) ≥ 1
  · rw [if_pos h1, decide_eq_true (p := 1 ≤ s.size) (by omega)]
    by_cases h2 : (s.size : Int) ≤ 20
    · rw [if_pos h2, decide_eq_true (p := s.size ≤ 20) (by omega), if_pos (by omega)]
      unfold lowc
      by_cases h3 : bt s 0 ≥ 97
      · rw [if_pos h3, decide_eq_true (p := 97 ≤ bt s 0) h3]
        by_cases h4 : bt s 0 ≤ 122
        · rw [if_pos h4, decide_eq_true h4]
          unfold strings_Trim.f
          rw [if_pos ⟨by omega, by decide, by decide⟩]
          simp only [Option.bind_some, Bool.true_and]
          congr 1
          rw [Go.Lib.toList_data]
          show (Lib.trimS s.data.toList _ == []) = _
          rw [trim_nil]
          unfold bytesOf
          rw [List.all_map]
          congr 1
          funext b
          exact nch_contains b
        · rw [if_neg h4, decide_eq_false h4]; rfl
      · rw [if_neg h3, decide_eq_false (p := 97 ≤ bt s 0) h3]; rfl
    · rw [if_neg h2, decide_eq_false (p := s.size ≤ 20) (by omega)]; rfl
  · rw [if_neg h1, decide_eq_false (p := 1 ≤ s.size) (by omega)]; rfl

/-! a string of a list -/
def sAt (l : List ByteArray) (j : Nat) : ByteArray := l.getD j ByteArray.empty
theorem sAt_size (l : List ByteArray) (hs : ∀ x ∈ l, x.size ≤ 140737488351232) (j : Nat) : (sAt l j).size ≤ 140737488351232 := by
  unfold sAt
  rw [List.getD_eq_getElem?_getD]
  by_cases h : j < l.length
  · rw [List.getElem?_eq_getElem h]; exact hs _ (List.getElem_mem h)
  · rw [List.getElem?_eq_none (by omega)]; decide
theorem rdOf_sAt (l : List ByteArray) (i : Int) : rdOf ByteArray.empty l i = sAt l i.toNat := rfl
theorem sAt_drop (l : List ByteArray) (i : Int) (h0 : 0 ≤ i) (h1 : i < l.length) : l.drop i.toNat = sAt l i.toNat :: l.drop (i + 1).toNat := by
  have hi : i.toNat < l.length := by omega
  rw [List.drop_eq_getElem_cons hi, show (i + 1).toNat = i.toNat + 1 by omega]
  unfold sAt
  rw [List.getD_eq_getElem?_getD, List.getElem?_eq_getElem hi]; rfl

/-! a text among some -/
def hasP (l : List ByteArray) (t : ByteArray) : Bool := l.any fun y => decide (y.toList = t.toList)
theorem spec_l04Has_l0 (l : List ByteArray) (t : ByteArray) (hl : l.length ≤ 4611686018427387904) : ∀ (d k : Nat) (i : Int), 0 ≤ i → i + d = l.length → d < k → spec_l04Has.l0 k l t i = some (hasP (l.drop i.toNat) t)
  | 0, k, i, h0, hi, hk => by
    obtain ⟨k, rfl⟩ : ∃ q, k = q + 1 := ⟨k - 1, by omega⟩
    rw [spec_l04Has.l0, if_neg (by omega), List.drop_of_length_le (by omega)]; rfl
  | d + 1, k, i, h0, hi, hk => by
    obtain ⟨k, rfl⟩ : ∃ q, k = q + 1 := ⟨k - 1, by omega⟩
    rw [spec_l04Has.l0, if_pos (by omega), if_pos h0, rdOf_sAt, sAt_drop l i h0 (by omega)]
    unfold hasP
    rw [List.any_cons]
    by_cases h : (sAt l i.toNat).toList = t.toList
    · rw [if_pos h, decide_eq_true h, Bool.true_or]
    · rw [if_neg h, decide_eq_false h, Bool.false_or, w64 (x := i + 1) (by omega) (by omega), spec_l04Has_l0 l t hl d k (i + 1) (by omega) (by omega) (by omega)]
      rfl
theorem spec_l04Has_f (l : List ByteArray) (t : ByteArray) (hl : l.length ≤ 4611686018427387904) (k : Nat) (hk : l.length < k) : spec_l04Has.f k l t = some (hasP l t) := by
  unfold spec_l04Has.f
  rw [spec_l04Has_l0 l t hl l.length k 0 (by omega) (by omega) hk]
  rfl

/-! rising names -/
def nameF (l : List ByteArray) (j : Nat) : Bool := NameP (sAt l j) && (decide (j = 0) || Op.bytesLess (sAt l (j - 1)).toList (sAt l j).toList)
def NamesP (l : List ByteArray) : Bool := (List.range l.length).all (nameF l)
theorem spec_l04Names_f (l : List ByteArray) (hl : l.length ≤ 140737488351232) (k : Nat) (hk : 30 + l.length < k) : spec_l04Names.f k l = some (NamesP l) := by
  unfold spec_l04Names.f NamesP
  have := all_loop true (nameF l) l.length (by omega) 30 (fun k i => spec_l04Names.l0 k l i) (fun k i hk h0 hi => ?_) (fun k i hk h0 hi => ?_) l.length k 0 (by omega) (by omega) (by omega)
  · rw [show (0 : Int).toNat = 0 from rfl, ← List.range_eq_range', Bool.and_true] at this
    exact this
  · show spec_l04Names.l0 (k + 1) l i = if nameF l i.toNat = true then spec_l04Names.l0 k l (wrap64 (i + 1)) else some false
    rw [spec_l04Names.l0, if_pos hi, if_pos h0, rdOf_sAt, spec_NameRight_f _ _ hk, Option.bind_some]
    unfold nameF
    cases hn : NameP (sAt l i.toNat) with
    | false => simp
    | true =>
      rw [if_pos rfl, Bool.true_and]
      by_cases hz : i > 0
      · rw [if_pos hz, w64 (x := i - 1) (by omega) (by omega), if_pos (by omega), if_pos (by omega), rdOf_sAt, show (i - 1).toNat = i.toNat - 1 by omega, decide_eq_false (by omega), Bool.false_or]
      · rw [if_neg hz, decide_eq_true (by omega), Bool.true_or, if_pos rfl]
  · show spec_l04Names.l0 (k + 1) l i = some true
    rw [spec_l04Names.l0, if_neg (by omega)]
theorem impl_areNames_f (l : List ByteArray) (hl : l.length ≤ 140737488351232) (k : Nat) (hk : l.length < k) : impl_areNames.f k l = some (NamesP l) := by
  unfold impl_areNames.f NamesP
  have := all_loop true (nameF l) l.length (by omega) 0 (fun k i => impl_areNames.l0 k l l (l.length : Int) i) (fun k i hk h0 hi => ?_) (fun k i hk h0 hi => ?_) l.length k 0 (by omega) (by omega) (by omega)
  · rw [show (0 : Int).toNat = 0 from rfl, ← List.range_eq_range', Bool.and_true] at this
    exact this
  · show impl_areNames.l0 (k + 1) l l (l.length : Int) i = if nameF l i.toNat = true then impl_areNames.l0 k l l (l.length : Int) (wrap64 (i + 1)) else some false
    rw [impl_areNames.l0, if_pos hi, if_pos h0, if_pos hi, rdOf_sAt, impl_NameRight_f, Option.bind_some]
    unfold nameF
    cases hn : NameP (sAt l i.toNat) with
    | false => simp
    | true =>
      rw [if_pos rfl, Bool.true_and]
      by_cases hz : i > 0
      · rw [if_pos hz, w64 (x := i - 1) (by omega) (by omega), if_pos (by omega), if_pos (by omega), rdOf_sAt, show (i - 1).toNat = i.toNat - 1 by omega, decide_eq_false (by omega), Bool.false_or]
      · rw [if_neg hz, decide_eq_true (by omega), Bool.true_or, if_pos rfl]
  · show impl_areNames.l0 (k + 1) l l (l.length : Int) i = some true
    rw [impl_areNames.l0, if_neg (by omega)]

theorem slices_Index_l0 (l : List ByteArray) (t : ByteArray) (hl : l.length ≤ 4611686018427387904) : ∀ (d k : Nat) (i : Int), 0 ≤ i → i + d = l.length → d < k → ∃ r, slices_Index_string_string.l0 k l t (l.length : Int) i = some r ∧ decide (r ≥ 0) = hasP (l.drop i.toNat) t
  | 0, k, i, h0, hi, hk => by
    obtain ⟨k, rfl⟩ : ∃ q, k = q + 1 := ⟨k - 1, by omega⟩
    rw [slices_Index_string_string.l0, if_neg (by omega), List.drop_of_length_le (by omega)]
    exact ⟨-1, rfl, rfl⟩
  | d + 1, k, i, h0, hi, hk => by
    obtain ⟨k, rfl⟩ : ∃ q, k = q + 1 := ⟨k - 1, by omega⟩
    rw [slices_Index_string_string.l0, if_pos (by omega), if_pos h0, if_pos (by omega), rdOf_sAt, sAt_drop l i h0 (by omega)]
    unfold hasP
    rw [List.any_cons]
    by_cases h : t.toList = (sAt l i.toNat).toList
    · rw [if_pos h, decide_eq_true h.symm, Bool.true_or]
      exact ⟨i, rfl, decide_eq_true h0⟩
    · rw [if_neg h, decide_eq_false (fun e => h e.symm), Bool.false_or, w64 (x := i + 1) (by omega) (by omega)]
      exact slices_Index_l0 l t hl d k (i + 1) (by omega) (by omega) (by omega)
theorem slices_Contains_f (l : List ByteArray) (t : ByteArray) (hl : l.length ≤ 4611686018427387904) (k : Nat) (hk : l.length < k) : slices_Contains_string_string.f k l t = some (hasP l t) := by
  unfold slices_Contains_string_string.f slices_Index_string_string.f
  obtain ⟨r, e, h⟩ := slices_Index_l0 l t hl l.length k 0 (by omega) (by omega) hk
  rw [e, Option.bind_some, h]
  rfl

/-! texts in order, each once -/
theorem bl_lt : ∀ (x y : List UInt8), Op.bytesLess x y = decide (x < y)
  | [], [] => by simp [Op.bytesLess]
  | _ :: _, [] => by simp [Op.bytesLess]
  | [], _ :: _ => by simp [Op.bytesLess]
  | a :: x, b :: y => by
    rw [Op.bytesLess, bl_lt x y]
    simp only [List.cons_lt_cons_iff]
    by_cases h1 : a < b <;> by_cases h2 : a = b <;> by_cases h3 : x < y <;> simp [h1, h2, h3]
theorem lt_tri (a b : List UInt8) : a < b ∨ a = b ∨ b < a := by
  rcases Decidable.em (a < b) with h | h
  · exact .inl h
  · rcases Decidable.em (b < a) with h2 | h2
    · exact .inr (.inr h2)
    · exact .inr (.inl (List.le_antisymm (List.not_lt.1 h2) (List.not_lt.1 h)))
/-- One text before another. -/
def Lt (a b : ByteArray) : Prop := a.toList < b.toList
theorem Lt_iff {a b : ByteArray} : Op.bytesLess a.toList b.toList = true ↔ Lt a b := by rw [bl_lt]; exact decide_eq_true_iff
theorem Lt_irr (a : ByteArray) : ¬ Lt a a := List.lt_irrefl _
theorem Lt_trans {a b c : ByteArray} (h : Lt a b) (h2 : Lt b c) : Lt a c := List.lt_trans h h2
theorem Lt_tri (a b : ByteArray) : Lt a b ∨ a = b ∨ Lt b a := by
  rcases lt_tri a.toList b.toList with h | h | h
  · exact .inl h
  · exact .inr (.inl (ba_inj.1 h))
  · exact .inr (.inr h)
def SS (l : List ByteArray) : Prop := l.Pairwise Lt
theorem SS_eq : ∀ (l m : List ByteArray), SS l → SS m → (∀ x, x ∈ l ↔ x ∈ m) → l = m
  | [], [], _, _, _ => rfl
  | [], y :: m, _, _, h => absurd ((h y).2 (by simp)) (by simp)
  | x :: l, [], _, _, h => absurd ((h x).1 (by simp)) (by simp)
  | x :: l, y :: m, hl, hm, h => by
    obtain ⟨h1, h2⟩ := List.pairwise_cons.1 hl
    obtain ⟨h3, h4⟩ := List.pairwise_cons.1 hm
    have e : x = y := by
      rcases List.mem_cons.1 ((h x).1 (by simp)) with e | e
      · exact e
      · rcases List.mem_cons.1 ((h y).2 (by simp)) with e2 | e2
        · exact e2.symm
        · exact absurd (Lt_trans (h1 y e2) (h3 x e)) (Lt_irr x)
    subst e
    congr 1
    refine SS_eq l m h2 h4 fun z => ⟨fun hz => ?_, fun hz => ?_⟩
    · rcases List.mem_cons.1 ((h z).1 (List.mem_cons_of_mem _ hz)) with e | e
      · subst e; exact absurd (h1 z hz) (Lt_irr z)
      · exact e
    · rcases List.mem_cons.1 ((h z).2 (List.mem_cons_of_mem _ hz)) with e | e
      · subst e; exact absurd (h3 z hz) (Lt_irr z)
      · exact e
/-- A text put among others in order, if it is not there. -/
def putS : List ByteArray → ByteArray → List ByteArray
  | [], t => [t]
  | y :: ys, t => if Op.bytesLess y.toList t.toList = true then y :: putS ys t else if y.toList = t.toList then y :: ys else t :: y :: ys
theorem putS_mem : ∀ (l : List ByteArray) (t x : ByteArray), x ∈ putS l t ↔ x = t ∨ x ∈ l
  | [], t, x => by simp [putS]
  | y :: ys, t, x => by
    rw [putS]
    split
    · simp only [List.mem_cons, putS_mem ys t x]
      constructor
      · rintro (h | h | h)
        · exact .inr (.inl h)
        · exact .inl h
        · exact .inr (.inr h)
      · rintro (h | h | h)
        · exact .inr (.inl h)
        · exact .inl h
        · exact .inr (.inr h)
    · split
      · rename_i h
        have := ba_inj.1 h
        subst this
        simp
      · simp
theorem putS_SS : ∀ (l : List ByteArray) (t : ByteArray), SS l → SS (putS l t)
  | [], t, h => by simp [putS, SS]
  | y :: ys, t, h => by
    obtain ⟨h1, h2⟩ := List.pairwise_cons.1 h
    rw [putS]
    split
    · rename_i hlt
      refine List.pairwise_cons.2 ⟨fun x hx => ?_, putS_SS ys t h2⟩
      rcases (putS_mem ys t x).1 hx with e | e
      · subst e; exact Lt_iff.1 hlt
      · exact h1 x e
    · split
      · exact h
      · rename_i hn hne
        have hty : Lt t y := by
          rcases Lt_tri t y with e | e | e
          · exact e
          · exact absurd (by rw [e]) hne
          · exact absurd (Lt_iff.2 e) hn
        refine List.pairwise_cons.2 ⟨fun x hx => ?_, h⟩
        rcases List.mem_cons.1 hx with e | e
        · subst e; exact hty
        · exact Lt_trans hty (h1 x e)
theorem putS_length : ∀ (l : List ByteArray) (t : ByteArray), (putS l t).length ≤ l.length + 1
  | [], t => by simp [putS]
  | y :: ys, t => by
    have := putS_length ys t
    rw [putS]
    split
    · simp only [List.length_cons]; omega
    · split <;> simp
def putAll (l : List ByteArray) (ts : List ByteArray) : List ByteArray := ts.foldl putS l
theorem putAll_mem : ∀ (ts l : List ByteArray) (x : ByteArray), x ∈ putAll l ts ↔ x ∈ ts ∨ x ∈ l
  | [], l, x => by simp [putAll]
  | t :: ts, l, x => by
    show x ∈ putAll (putS l t) ts ↔ _
    rw [putAll_mem ts (putS l t) x, putS_mem, List.mem_cons]
    constructor
    · rintro (h | h | h)
      · exact .inl (.inr h)
      · exact .inl (.inl h)
      · exact .inr h
    · rintro ((h | h) | h)
      · exact .inr (.inl h)
      · exact .inl h
      · exact .inr (.inr h)
theorem putAll_SS : ∀ (ts l : List ByteArray), SS l → SS (putAll l ts)
  | [], l, h => h
  | t :: ts, l, h => putAll_SS ts (putS l t) (putS_SS l t h)
theorem putAll_length : ∀ (ts l : List ByteArray), (putAll l ts).length ≤ l.length + ts.length
  | [], l => by simp [putAll]
  | t :: ts, l => by
    have h1 := putAll_length ts (putS l t)
    have h2 := putS_length l t
    show (putAll (putS l t) ts).length ≤ _
    simp only [List.length_cons]; omega
/-! what sorting and compaction give -/
theorem compact_mem (zs : List (List UInt8)) (x : List UInt8) : x ∈ Lib.compact zs ↔ x ∈ zs := by
  unfold Lib.compact Lib.compactUpTo
  constructor
  · intro h
    obtain ⟨i, hi, rfl⟩ := List.mem_map.1 h
    have hi' : i < zs.length := List.mem_range.1 (List.mem_filter.1 hi).1
    simp [getElem!_pos, hi']
  · intro h
    obtain ⟨i, hi, rfl⟩ := List.getElem_of_mem h
    have key : ∀ (n i : Nat) (hi : i < zs.length), i ≤ n → zs[i] ∈ (((List.range zs.length).filter (Lib.keeps zs.toArray)).map (zs.toArray[·]!)) := by
      intro n
      induction n with
      | zero =>
        intro i hi hn
        obtain rfl : i = 0 := by omega
        refine List.mem_map.2 ⟨0, List.mem_filter.2 ⟨List.mem_range.2 hi, by simp [Lib.keeps]⟩, by simp [getElem!_pos, hi]⟩
      | succ n ih =>
        intro i hi hn
        by_cases hk : Lib.keeps zs.toArray i = true
        · exact List.mem_map.2 ⟨i, List.mem_filter.2 ⟨List.mem_range.2 hi, hk⟩, by simp [getElem!_pos, hi]⟩
        · have h0 : ¬ (i = 0) ∧ zs.toArray[i]! = zs.toArray[i - 1]! := by
            unfold Lib.keeps at hk
            simp only [decide_eq_true_eq, not_or, Decidable.not_not] at hk
            exact hk
          have hi1 : i - 1 < zs.length := by omega
          have e : zs[i] = zs[i - 1] := by
            have := h0.2
            simpa [getElem!_pos, hi, hi1] using this
          rw [e]
          exact ih (i - 1) hi1 (by omega)
    exact key i i hi (Nat.le_refl _)
theorem compact_lt (zs : List (List UInt8)) (h : zs.Pairwise fun a b => a ≤ b) : (Lib.compact zs).Pairwise fun a b => a < b := by
  unfold Lib.compact Lib.compactUpTo
  rw [List.pairwise_map]
  have hr : ((List.range zs.length).filter (Lib.keeps zs.toArray)).Pairwise (· < ·) := List.Pairwise.filter _ List.pairwise_lt_range
  refine hr.imp_of_mem fun {i j} hi hj hij => ?_
  obtain ⟨h1, h2⟩ := List.mem_filter.1 hj
  have hjl := List.mem_range.1 h1
  have hne : zs.toArray[j]! ≠ zs.toArray[j - 1]! := by
    unfold Lib.keeps at h2
    simp only [decide_eq_true_eq] at h2
    rcases h2 with h2 | h2
    · omega
    · exact h2
  have hil : i < zs.length := by omega
  have hj1 : j - 1 < zs.length := by omega
  have e0 : zs.toArray[i]! = zs[i] := by simp [getElem!_pos, hil]
  have e1 : zs.toArray[j]! = zs[j] := by simp [getElem!_pos, hjl]
  have e2 : zs.toArray[j - 1]! = zs[j - 1] := by simp [getElem!_pos, hj1]
  show zs.toArray[i]! < zs.toArray[j]!
  rw [e0, e1]
  rw [e1, e2] at hne
  have hlt : zs[j - 1] < zs[j] := by
    have hle := List.pairwise_iff_getElem.1 h (j - 1) j hj1 hjl (by omega)
    rcases lt_tri zs[j - 1] zs[j] with e | e | e
    · exact e
    · exact absurd e.symm hne
    · exact absurd e (List.not_lt.2 hle)
  by_cases hij1 : i = j - 1
  · subst hij1; exact hlt
  · have hle := List.pairwise_iff_getElem.1 h i (j - 1) hil hj1 (by omega)
    rcases lt_tri zs[i] zs[j - 1] with e | e | e
    · exact List.lt_trans e hlt
    · rw [e]; exact hlt
    · exact absurd e (List.not_lt.2 hle)
theorem sorted_le (l : List (List UInt8)) : (l.mergeSort fun x y => decide (x ≤ y)).Pairwise fun a b => a ≤ b := by
  have := List.pairwise_mergeSort (le := fun x y : List UInt8 => decide (x ≤ y)) (fun a b c h1 h2 => by
    simp only [decide_eq_true_eq] at h1 h2 ⊢
    exact List.le_trans h1 h2) (fun a b => by
    simp only [Bool.or_eq_true, decide_eq_true_eq]
    exact List.le_total a b) l
  exact this.imp fun h => by simpa using h
theorem back_list (b : List UInt8) : (⟨b.toArray⟩ : ByteArray).toList = b := by rw [Go.Lib.toList_data]
theorem u_mem (l : List ByteArray) (x : ByteArray) : x ∈ impl_union.u l ↔ x ∈ l := by
  unfold impl_union.u
  rw [List.mem_map]
  constructor
  · rintro ⟨b, hb, rfl⟩
    have := (List.mergeSort_perm _ _).mem_iff.1 ((compact_mem _ _).1 hb)
    obtain ⟨y, hy, rfl⟩ := List.mem_map.1 this
    exact hy
  · intro h
    exact ⟨x.data.toList, (compact_mem _ _).2 ((List.mergeSort_perm _ _).mem_iff.2 (List.mem_map.2 ⟨x, h, rfl⟩)), rfl⟩
theorem u_SS (l : List ByteArray) : SS (impl_union.u l) := by
  unfold impl_union.u SS
  rw [List.pairwise_map]
  exact (compact_lt _ (sorted_le _)).imp fun h => by unfold Lt; rwa [back_list, back_list]
theorem u_putAll (l : List ByteArray) : impl_union.u l = putAll [] l :=
  SS_eq _ _ (u_SS l) (putAll_SS l [] (by simp [SS])) fun x => by rw [u_mem, putAll_mem]; simp

/-! lists of classes: brought over, held beside each other, weighed -/
theorem getD_mem_ {α : Type} (l : List α) (z : α) (j : Nat) (h : j < l.length) : l.getD j z ∈ l := by
  rw [List.getD_eq_getElem?_getD, List.getElem?_eq_getElem h]
  exact List.getElem_mem h
def cvCl (x : S45) : S48 := ⟨x.f0, x.f1, x.f2, x.f3⟩
def clL (l : List S45) (j : Nat) : S45 := l.getD j z45
theorem rd_clL (l : List S45) (i : Int) : rd_T45 l i = clL l i.toNat := rfl
def ClIn (x : S45) : Prop := (x.f1.length ≤ 8796093022208 ∧ ∀ s ∈ x.f1, s.size ≤ 140737488351232) ∧ (x.f2.length ≤ 8796093022208 ∧ ∀ s ∈ x.f2, s.size ≤ 140737488351232) ∧ (x.f3.length ≤ 8796093022208 ∧ ∀ s ∈ x.f3, s.size ≤ 140737488351232)
theorem laws_szClass_f (x : S45) (h : ClIn x) (a : Int) (k : Nat) (hk : 17592186044416 < k) : ∃ r, laws_szClass.f k x.f0 x.f1 x.f2 x.f3 a = some r := by
  unfold laws_szClass.f
  split
  · exact ⟨_, rfl⟩
  · obtain ⟨r1, e1⟩ := laws_szStringS_f x.f1 (by have := h.1.1; omega) (wrap64 (a - (x.f0.size : Int))) k (by have := h.1.1; omega)
    rw [e1, Option.bind_some]
    split
    · exact ⟨_, rfl⟩
    · obtain ⟨r2, e2⟩ := laws_szStringS_f x.f2 (by have := h.2.1.1; omega) r1 k (by have := h.2.1.1; omega)
      rw [e2, Option.bind_some]
      split
      · exact ⟨_, rfl⟩
      · obtain ⟨r3, e3⟩ := laws_szStringS_f x.f3 (by have := h.2.2.1; omega) r2 k (by have := h.2.2.1; omega)
        rw [e3, Option.bind_some]
        split <;> exact ⟨_, rfl⟩
theorem laws_szClassS_f (l : List S45) (hl : l.length ≤ 140737488351232) (h : ∀ x ∈ l, ClIn x) (a : Int) (k : Nat) (hk : 17592186044417 + l.length < k) : ∃ r, laws_szClassS.f k l a = some r := by
  unfold laws_szClassS.f
  split
  · exact ⟨_, rfl⟩
  · refine some_loop l.length (by omega) 17592186044417 (fun k a i => laws_szClassS.l0 k l a i) (fun k a i hk h0 hi => ?_) (fun k a i _ h0 hi => ?_) l.length k _ 0 (by omega) (by omega) (by omega)
    · show (∃ r, laws_szClassS.l0 (k + 1) l a i = some r) ∨ ∃ a', laws_szClassS.l0 (k + 1) l a i = laws_szClassS.l0 k l a' (wrap64 (i + 1))
      rw [laws_szClassS.l0, if_pos hi, if_pos h0, rd_clL]
      obtain ⟨r, e⟩ := laws_szClass_f (clL l i.toNat) (h _ (getD_mem_ _ _ _ (by omega))) a k (by omega)
      rw [e, Option.bind_some]
      split
      · exact .inl ⟨_, rfl⟩
      · exact .inr ⟨_, rfl⟩
    · show ∃ r, laws_szClassS.l0 (k + 1) l a i = some r
      rw [laws_szClassS.l0, if_neg (by omega)]
      exact ⟨_, rfl⟩
theorem laws_toClassS_f (l : List S45) (hl : l.length ≤ 3198579280802) (h : ∀ x ∈ l, ClIn x) (k : Nat) (hk : 17592186044417 + l.length < k) : laws_toClassS.f k l = some (l.map cvCl) := by
  unfold laws_toClassS.f
  rw [if_pos (by omega), if_pos (by omega), show ((l.length : Int)).toNat = l.length from rfl,
    copy_all l.length (by omega) (fun j => cvCl (l.getD j z45)) 17592186044417 (fun k x i => laws_toClassS.l0 k l x i) z48 (fun k x i hk h0 hi hx => ?_) (fun k x i hi => ?_) k (by omega), range_map_getD]
  · show laws_toClassS.l0 (k + 1) l x i = _
    have hz := h (clL l i.toNat) (getD_mem_ _ _ _ (by omega))
    rw [laws_toClassS.l0, if_pos hi, if_pos h0, rd_clL]
    unfold laws_toClass.f
    rw [laws_toStringS_f _ (by have := hz.1.1; omega) k (by have := hz.1.1; omega), laws_toStringS_f _ (by have := hz.2.1.1; omega) k (by have := hz.2.1.1; omega), laws_toStringS_f _ (by have := hz.2.2.1; omega) k (by have := hz.2.2.1; omega)]
    simp only [Option.bind_some]
    rw [if_pos (by omega)]
    rfl
  · show laws_toClassS.l0 (k + 1) l x i = _
    rw [laws_toClassS.l0, if_neg (by omega)]
def clI (l : List S48) (j : Nat) : S48 := l.getD j z48
theorem rd_clI (l : List S48) (i : Int) : rd_T48 l i = clI l i.toNat := rfl
def ClOK (x : S48) : Prop := x.f1.length ≤ 8796093022208 ∧ x.f2.length ≤ 8796093022208 ∧ x.f3.length ≤ 8796093022208
theorem laws_eqClass_f (x : S48) (h : ClOK x) (k : Nat) (hk : 17592186044416 < k) : laws_eqClass.f k x.f0 x.f1 x.f2 x.f3 x.f0 x.f1 x.f2 x.f3 = some true := by
  have h1 := h.1
  have h2 := h.2.1
  have h3 := h.2.2
  unfold laws_eqClass.f
  rw [if_pos rfl, laws_eqStringS_f _ (by omega) k (by omega), laws_eqStringS_f _ (by omega) k (by omega), laws_eqStringS_f _ (by omega) k (by omega)]
  simp
theorem laws_eqClassS_f (l : List S48) (hl : l.length ≤ 140737488351232) (h : ∀ x ∈ l, ClOK x) (k : Nat) (hk : 17592186044417 + l.length < k) : laws_eqClassS.f k l l = some true := by
  unfold laws_eqClassS.f
  rw [if_pos rfl]
  refine skip_loop true l.length (by omega) 17592186044417 (fun k i => laws_eqClassS.l0 k l l i) (fun k i hk h0 hi => ?_) (fun k i _ h0 hi => ?_) l.length k 0 (by omega) (by omega) (by omega)
  · show laws_eqClassS.l0 (k + 1) l l i = laws_eqClassS.l0 k l l (wrap64 (i + 1))
    have hz := h (clI l i.toNat) (getD_mem_ _ _ _ (by omega))
    rw [laws_eqClassS.l0, if_pos hi, if_pos h0, if_pos hi, rd_clI, laws_eqClass_f _ hz k (by omega)]
    simp
  · show laws_eqClassS.l0 (k + 1) l l i = _
    rw [laws_eqClassS.l0, if_neg (by omega)]

/-! schemas -/
theorem hasP_iff {l : List ByteArray} {t : ByteArray} : hasP l t = true ↔ t ∈ l := by
  unfold hasP
  rw [List.any_eq_true]
  constructor
  · rintro ⟨y, hy, h⟩
    have := ba_inj.1 (of_decide_eq_true h)
    rwa [← this]
  · intro h
    exact ⟨t, h, decide_eq_true rfl⟩
theorem all_sAt (l : List ByteArray) (g : ByteArray → Bool) : (List.range l.length).all (fun j => g (sAt l j)) = l.all g := by
  have h := range_map_getD l ByteArray.empty id
  rw [List.map_id] at h
  conv => rhs; rw [← h]
  rw [List.all_map]
  rfl
theorem NamesP_SS {l : List ByteArray} (h : NamesP l = true) : SS l := by
  unfold NamesP at h
  have hj : ∀ j, j + 1 < l.length → Lt (sAt l j) (sAt l (j + 1)) := fun j hj => by
    have := List.all_eq_true.1 h (j + 1) (List.mem_range.2 hj)
    unfold nameF at this
    simp only [Bool.and_eq_true, Bool.or_eq_true, decide_eq_true_eq, Nat.add_sub_cancel] at this
    rcases this.2 with e | e
    · omega
    · exact Lt_iff.1 e
  have hij : ∀ d i, i + d + 1 < l.length → Lt (sAt l i) (sAt l (i + d + 1)) := by
    intro d
    induction d with
    | zero => exact fun i hi => hj i hi
    | succ d ih => exact fun i hi => Lt_trans (ih i (by omega)) (hj (i + d + 1) hi)
  refine List.pairwise_iff_getElem.2 fun i j hi hj2 hlt => ?_
  have := hij (j - i - 1) i (by omega)
  rw [show i + (j - i - 1) + 1 = j by omega] at this
  unfold sAt at this
  rwa [List.getD_eq_getElem?_getD, List.getD_eq_getElem?_getD, List.getElem?_eq_getElem hi, List.getElem?_eq_getElem hj2] at this
theorem SS_nodup {l : List ByteArray} (h : SS l) : l.Nodup := h.imp fun {a b} hab e => by subst e; exact Lt_irr _ hab
theorem putS_in : ∀ {l : List ByteArray} {t : ByteArray}, SS l → t ∈ l → (putS l t).length = l.length
  | [], t, h, hm => by cases hm
  | y :: ys, t, h, hm => by
    obtain ⟨h1, h2⟩ := List.pairwise_cons.1 h
    rw [putS]
    by_cases hb : Op.bytesLess y.toList t.toList = true
    · rw [if_pos hb, List.length_cons, List.length_cons]
      rcases List.mem_cons.1 hm with e | e
      · subst e; exact absurd (Lt_iff.1 hb) (Lt_irr _)
      · rw [putS_in h2 e]
    · rw [if_neg hb]
      rcases List.mem_cons.1 hm with e | e
      · subst e; rw [if_pos rfl]
      · exact absurd (Lt_iff.2 (h1 t e)) hb
theorem putS_out : ∀ {l : List ByteArray} {t : ByteArray}, ¬ (t ∈ l) → (putS l t).length = l.length + 1
  | [], t, hm => by simp [putS]
  | y :: ys, t, hm => by
    rw [putS]
    by_cases hb : Op.bytesLess y.toList t.toList = true
    · rw [if_pos hb, List.length_cons, List.length_cons, putS_out (fun e => hm (List.mem_cons_of_mem _ e))]
    · rw [if_neg hb]
      by_cases he : y.toList = t.toList
      · exact absurd (by rw [ba_inj.1 he]; simp) hm
      · rw [if_neg he]; rfl
theorem putAll_len : ∀ (ts l : List ByteArray), SS l → ((putAll l ts).length = l.length + ts.length ↔ ts.Nodup ∧ ∀ t ∈ ts, t ∉ l)
  | [], l, h => by simp [putAll]
  | t :: ts, l, h => by
    have ih := putAll_len ts (putS l t) (putS_SS l t h)
    have hle := putAll_length ts (putS l t)
    show (putAll (putS l t) ts).length = l.length + (t :: ts).length ↔ _
    rw [List.length_cons, List.nodup_cons]
    rcases Classical.em (t ∈ l) with hm | hm
    · have hl := putS_in h hm
      constructor
      · intro e; omega
      · intro e; exact absurd hm (e.2 t (by simp))
    · have hl := putS_out hm
      rw [show l.length + (ts.length + 1) = (putS l t).length + ts.length by omega, ih]
      constructor
      · rintro ⟨h1, h2⟩
        refine ⟨⟨fun hc => h2 t hc ((putS_mem l t t).2 (.inl rfl)), h1⟩, fun s hs hsl => ?_⟩
        rcases List.mem_cons.1 hs with e | e
        · subst e; exact hm hsl
        · exact h2 s e ((putS_mem l t s).2 (.inr hsl))
      · rintro ⟨⟨h1, h2⟩, h3⟩
        refine ⟨h2, fun s hs hsp => ?_⟩
        rcases (putS_mem l t s).1 hsp with e | e
        · subst e; exact h1 hs
        · exact h3 s (List.mem_cons_of_mem _ hs) e
theorem u_len (l : List ByteArray) : (impl_union.u l).length = l.length ↔ l.Nodup := by
  rw [u_putAll]
  have := putAll_len l [] (by simp [SS])
  simp only [List.length_nil, Nat.zero_add, List.not_mem_nil, not_false_eq_true, implies_true, and_true] at this
  exact this
def clsB : ByteArray := ⟨#[99, 108, 97, 115, 115]⟩
/-- What both say of a class. -/
def ClassP (a : ByteArray) (l1 l2 l3 : List ByteArray) : Bool :=
  (NameP a && (decide (l1.length ≤ 10) && (decide (l2.length ≤ 10) && (decide (l3.length ≤ 10) && (NamesP l1 && (NamesP l2 && NamesP l3)))))) && ((l1.all fun t => !(hasP l2 t)) && ((l3.all fun t => hasP l2 t || hasP l1 t) && (!(hasP l1 clsB) && !(hasP l2 clsB))))
theorem spec_l05Class_f (a : ByteArray) (l1 l2 l3 : List ByteArray) (h1 : l1.length ≤ 8796093022208) (h2 : l2.length ≤ 8796093022208) (h3 : l3.length ≤ 8796093022208) (k : Nat) (hk : 70368744177664 < k) : spec_l05Class.f k a l1 l2 l3 = some (ClassP a l1 l2 l3) := by
  obtain ⟨k, rfl⟩ : ∃ q, k = q + 1 := ⟨k - 1, by omega⟩
  have hl1 : ∀ k, 35184372088832 < k → spec_l05Class.l1 k 0 a l1 l2 l3 = some ((l3.all fun t => hasP l2 t || hasP l1 t) && (!(hasP l1 clsB) && !(hasP l2 clsB))) := fun k hk => by
    have := all_loop (!(hasP l1 clsB) && !(hasP l2 clsB)) (fun j => hasP l2 (sAt l3 j) || hasP l1 (sAt l3 j)) l3.length (by omega) 17592186044416 (fun k i => spec_l05Class.l1 k i a l1 l2 l3) (fun k i hk h0 hi => ?_) (fun k i hk h0 hi => ?_) l3.length k 0 (by omega) (by omega) (by omega)
    · rw [show (0 : Int).toNat = 0 from rfl, ← List.range_eq_range', all_sAt l3 (fun t => hasP l2 t || hasP l1 t)] at this
      exact this
    · show spec_l05Class.l1 (k + 1) i a l1 l2 l3 = if (hasP l2 (sAt l3 i.toNat) || hasP l1 (sAt l3 i.toNat)) = true then spec_l05Class.l1 k (wrap64 (i + 1)) a l1 l2 l3 else some false
      rw [spec_l05Class.l1, if_pos hi, if_pos h0, rdOf_sAt, spec_l04Has_f l2 _ (by omega) k (by omega), spec_l04Has_f l1 _ (by omega) k (by omega)]
      simp only [Option.bind_some]
      cases hasP l2 (sAt l3 i.toNat) <;> cases hasP l1 (sAt l3 i.toNat) <;> simp
    · show spec_l05Class.l1 (k + 1) i a l1 l2 l3 = _
      rw [spec_l05Class.l1, if_neg (by omega), spec_l04Has_f l1 _ (by omega) k (by omega), spec_l04Has_f l2 _ (by omega) k (by omega)]
      simp only [Option.bind_some]
      unfold clsB
      cases hasP l1 _ <;> simp
  have hl0 : spec_l05Class.l0 k 0 a l1 l2 l3 = some ((l1.all fun t => !(hasP l2 t)) && ((l3.all fun t => hasP l2 t || hasP l1 t) && (!(hasP l1 clsB) && !(hasP l2 clsB)))) := by
    have := all_loop ((l3.all fun t => hasP l2 t || hasP l1 t) && (!(hasP l1 clsB) && !(hasP l2 clsB))) (fun j => !(hasP l2 (sAt l1 j))) l1.length (by omega) 35184372088833 (fun k i => spec_l05Class.l0 k i a l1 l2 l3) (fun k i hk h0 hi => ?_) (fun k i hk h0 hi => ?_) l1.length k 0 (by omega) (by omega) (by omega)
    · rw [show (0 : Int).toNat = 0 from rfl, ← List.range_eq_range', all_sAt l1 (fun t => !(hasP l2 t))] at this
      exact this
    · show spec_l05Class.l0 (k + 1) i a l1 l2 l3 = if (!(hasP l2 (sAt l1 i.toNat))) = true then spec_l05Class.l0 k (wrap64 (i + 1)) a l1 l2 l3 else some false
      rw [spec_l05Class.l0, if_pos hi, if_pos h0, rdOf_sAt, spec_l04Has_f l2 _ (by omega) k (by omega)]
      simp only [Option.bind_some]
      cases hasP l2 (sAt l1 i.toNat) <;> simp
    · show spec_l05Class.l0 (k + 1) i a l1 l2 l3 = _
      rw [spec_l05Class.l0, if_neg (by omega), hl1 k (by omega)]
  have hj : ∀ b, spec_l05Class.j0 (k + 1) b a l1 l2 l3 = some (!b && ((l1.all fun t => !(hasP l2 t)) && ((l3.all fun t => hasP l2 t || hasP l1 t) && (!(hasP l1 clsB) && !(hasP l2 clsB))))) := fun b => by
    rw [spec_l05Class.j0, hl0]
    cases b <;> simp
  unfold spec_l05Class.f ClassP
  rw [spec_NameRight_f a _ (by omega), Option.bind_some, hj true, spec_l04Names_f l1 (by omega) _ (by omega), spec_l04Names_f l2 (by omega) _ (by omega), spec_l04Names_f l3 (by omega) _ (by omega)]
  simp only [Option.bind_some]
  cases NameP a with
  | false => rfl
  | true =>
    rw [if_pos rfl]
    by_cases g1 : l1.length ≤ 10
    · rw [if_neg (by omega), decide_eq_true g1]
      by_cases g2 : l2.length ≤ 10
      · rw [if_neg (by omega), decide_eq_true g2]
        by_cases g3 : l3.length ≤ 10
        · rw [if_neg (by omega), decide_eq_true g3]
          cases NamesP l1 with
          | false => rfl
          | true =>
            cases NamesP l2 with
            | false => rfl
            | true => rw [if_pos rfl, if_pos rfl, hj]; cases NamesP l3 <;> rfl
        · rw [if_pos (by omega), decide_eq_false g3]; rfl
      · rw [if_pos (by omega), decide_eq_false g2]; rfl
    · rw [if_pos (by omega), decide_eq_false g1]; rfl
theorem impl_isClass_bad (k : Nat) (hk : 20 ≤ k) : ∀ (xs : List (List ByteArray)), impl_isClass.bad k xs = some (xs.any fun x => !(decide (x.length ≤ 10)) || !(NamesP x))
  | [] => rfl
  | x :: xs => by
    rw [impl_isClass.bad, List.any_cons]
    by_cases h : x.length ≤ 10
    · rw [if_neg (by omega), impl_areNames_f x (by omega) k (by omega), Option.bind_some, decide_eq_true h, impl_isClass_bad k hk xs]
      cases NamesP x <;> simp
    · rw [if_pos (by omega), decide_eq_false h]; simp
theorem impl_isClass_ix (k : Nat) (l : List ByteArray) (hl : l.length ≤ 4611686018427387904) (hk : l.length < k) : ∀ (xs : List ByteArray) (i : Int), 0 ≤ i → ∃ r, impl_isClass.ix k l xs i = some r ∧ (!(decide (0 ≤ r))) = xs.all (fun t => hasP l t)
  | [], i, h0 => ⟨-1, rfl, rfl⟩
  | x :: xs, i, h0 => by
    rw [impl_isClass.ix]
    unfold impl_isClass.clo2
    rw [slices_Contains_f l x hl k hk, Option.bind_some, Option.bind_some, List.all_cons]
    cases hasP l x with
    | true =>
      obtain ⟨r, e, h⟩ := impl_isClass_ix k l hl hk xs (i + 1) (by omega)
      exact ⟨r, by simpa using e, by simpa using h⟩
    | false => exact ⟨i, rfl, by rw [decide_eq_true h0]; rfl⟩
theorem hasP_append (a b : List ByteArray) (t : ByteArray) : hasP (a ++ b) t = (hasP a t || hasP b t) := by
  unfold hasP; rw [List.any_append]
theorem impl_isClass_f (a : ByteArray) (l1 l2 l3 : List ByteArray) (k : Nat) (hk : 100 ≤ k) : impl_isClass.f k a l1 l2 l3 = some (ClassP a l1 l2 l3) := by
  unfold impl_isClass.f ClassP
  rw [impl_isClass_bad k (by omega), Option.bind_some]
  by_cases hb : (decide (l1.length ≤ 10) && (decide (l2.length ≤ 10) && (decide (l3.length ≤ 10) && (NamesP l1 && (NamesP l2 && NamesP l3))))) = true
  · have hb2 := hb
    simp only [Bool.and_eq_true, decide_eq_true_eq] at hb2
    obtain ⟨g1, g2, g3, n1, n2, n3⟩ := hb2
    have e0 : ([l1, l2, l3].any fun x => !(decide (x.length ≤ 10)) || !(NamesP x)) = false := by simp [g1, g2, g3, n1, n2, n3]
    rw [e0, if_neg (by simp), hb, Bool.and_true, show ([l1, l2] : List (List ByteArray)).flatten = l1 ++ l2 by simp]
    unfold impl_isClass.rest impl_union.f
    have hlen : (l1 ++ l2).length ≤ 20 := by rw [List.length_append]; omega
    obtain ⟨r, er, hr⟩ := impl_isClass_ix k (l1 ++ l2) (by omega) (by omega) l3 0 (by omega)
    rw [if_pos (by omega), impl_NameRight_f, Option.bind_some]
    cases NameP a with
    | false => rfl
    | true =>
      rw [if_pos rfl, Bool.true_and, show ([l1 ++ l2] : List (List ByteArray)).flatten = l1 ++ l2 by simp, if_pos (by omega), Option.bind_some, slices_Contains_f (l1 ++ l2) _ (by omega) k (by omega), Option.bind_some, er, Option.bind_some, hr, hasP_append]
      have hd : (((impl_union.u (l1 ++ l2)).length : Int) = ((l1 ++ l2).length : Int)) ↔ (l1.all fun t => !(hasP l2 t)) = true := by
        rw [Int.ofNat_inj, u_len, List.nodup_append, List.all_eq_true]
        constructor
        · rintro ⟨_, _, h⟩ t ht
          cases hh : hasP l2 t with
          | false => rfl
          | true => exact absurd rfl (h t ht t (hasP_iff.1 hh))
        · intro h
          refine ⟨SS_nodup (NamesP_SS n1), SS_nodup (NamesP_SS n2), fun t ht s hs e => ?_⟩
          subst e
          have := h t ht
          rw [hasP_iff.2 hs] at this
          cases this
      have hall : (l3.all fun t => hasP (l1 ++ l2) t) = l3.all fun t => hasP l2 t || hasP l1 t := by
        congr 1
        funext t
        rw [hasP_append, Bool.or_comm]
      rw [hall]
      by_cases he : (l1.all fun t => !(hasP l2 t)) = true
      · rw [if_pos (hd.2 he), he, Bool.true_and]
        unfold clsB
        cases hasP l1 _ <;> cases hasP l2 _ <;> simp
      · rw [if_neg (fun hc => he (hd.1 hc)), Bool.eq_false_iff.2 he]; rfl
  · have e0 : ([l1, l2, l3].any fun x => !(decide (x.length ≤ 10)) || !(NamesP x)) = true := by
      rw [Bool.not_eq_true] at hb
      simp only [List.any_cons, List.any_nil]
      revert hb
      cases decide (l1.length ≤ 10) <;> cases decide (l2.length ≤ 10) <;> cases decide (l3.length ≤ 10) <;> cases NamesP l1 <;> cases NamesP l2 <;> cases NamesP l3 <;> simp
    rw [e0, if_pos rfl, Bool.eq_false_iff.2 hb, Bool.and_false, Bool.false_and]
def schF (l : List S48) (j : Nat) : Bool := ClassP (clI l j).f0 (clI l j).f1 (clI l j).f2 (clI l j).f3 && (decide (j = 0) || Op.bytesLess (clI l (j - 1)).f0.toList (clI l j).f0.toList)
/-- What both say of a schema. -/
def SchemaP (l : List S48) : Bool := (List.range l.length).all (schF l) && decide (l.length ≤ 6)
theorem spec_SchemaRight_f (l : List S48) (hl : l.length ≤ 140737488351232) (h : ∀ x ∈ l, ClOK x) (k : Nat) (hk : 70368744177665 + l.length < k) : spec_SchemaRight.f k l = some (SchemaP l) := by
  unfold spec_SchemaRight.f SchemaP
  rw [all_loop (decide (l.length ≤ 6)) (schF l) l.length (by omega) 70368744177665 (fun k i => spec_SchemaRight.l0 k l i) (fun k i hk h0 hi => ?_) (fun k i hk h0 hi => ?_) l.length k 0 (by omega) (by omega) (by omega)]
  · rw [List.range_eq_range']; rfl
  · show spec_SchemaRight.l0 (k + 1) l i = if schF l i.toNat = true then spec_SchemaRight.l0 k l (wrap64 (i + 1)) else some false
    have hz := h (clI l i.toNat) (getD_mem_ _ _ _ (by omega))
    rw [spec_SchemaRight.l0, if_pos hi, if_pos h0, rd_clI, spec_l05Class_f _ _ _ _ hz.1 hz.2.1 hz.2.2 k (by omega)]
    simp only [Option.bind_some]
    unfold schF
    cases ClassP (clI l i.toNat).f0 (clI l i.toNat).f1 (clI l i.toNat).f2 (clI l i.toNat).f3 with
    | false => simp
    | true =>
      rw [if_pos rfl]
      by_cases hz : i > 0
      · rw [if_pos hz, w64 (x := i - 1) (by omega) (by omega), if_pos (by omega), if_pos (by omega), rd_clI, show (i - 1).toNat = i.toNat - 1 by omega, decide_eq_false (p := i.toNat = 0) (by omega)]
        simp
      · rw [if_neg hz, decide_eq_true (p := i.toNat = 0) (by omega)]
        simp
  · show spec_SchemaRight.l0 (k + 1) l i = _
    rw [spec_SchemaRight.l0, if_neg (by omega)]
    congr 1
    by_cases h4 : l.length ≤ 6
    · rw [decide_eq_true h4, decide_eq_true (by omega)]
    · rw [decide_eq_false h4, decide_eq_false (by omega)]
theorem impl_SchemaRight_f (l : List S48) (k : Nat) (hk : 200 ≤ k) : impl_SchemaRight.f k l = some (SchemaP l) := by
  unfold impl_SchemaRight.f SchemaP
  by_cases h6 : l.length ≤ 6
  · rw [if_neg (by omega), decide_eq_true h6, all_loop true (schF l) l.length (by omega) 101 (fun k i => impl_SchemaRight.l0 k l l (l.length : Int) i) (fun k i hk h0 hi => ?_) (fun k i hk h0 hi => ?_) l.length k 0 (by omega) (by omega) (by omega)]
    · rw [List.range_eq_range']; rfl
    · show impl_SchemaRight.l0 (k + 1) l l (l.length : Int) i = if schF l i.toNat = true then impl_SchemaRight.l0 k l l (l.length : Int) (wrap64 (i + 1)) else some false
      rw [impl_SchemaRight.l0, if_pos hi, if_pos h0, if_pos hi, rd_clI, impl_isClass_f _ _ _ _ k (by omega)]
      simp only [Option.bind_some]
      unfold schF
      cases ClassP (clI l i.toNat).f0 (clI l i.toNat).f1 (clI l i.toNat).f2 (clI l i.toNat).f3 with
      | false => simp
      | true =>
        rw [if_pos rfl]
        by_cases hz : i > 0
        · rw [if_pos hz, w64 (x := i - 1) (by omega) (by omega), if_pos (by omega), if_pos (by omega), rd_clI, show (i - 1).toNat = i.toNat - 1 by omega, decide_eq_false (p := i.toNat = 0) (by omega)]
          simp
        · rw [if_neg hz, decide_eq_true (p := i.toNat = 0) (by omega)]
          simp
    · show impl_SchemaRight.l0 (k + 1) l l (l.length : Int) i = _
      rw [impl_SchemaRight.l0, if_neg (by omega)]
  · rw [if_pos (by omega), decide_eq_false h6, Bool.and_false]

/-! marks -/
theorem markText_l0 : ∀ (d k : Nat) (n : Int) (a : ByteArray), n < 10 ^ d → d < k → a.size + d ≤ 100000 → ∃ t, laws_markText.l0 k n a = some t
  | 0, k, n, a, hn, hk, ha => by
    obtain ⟨k, rfl⟩ : ∃ q, k = q + 1 := ⟨k - 1, by omega⟩
    have hn : n < 1 := hn
    rw [laws_markText.l0, if_neg (by omega), if_pos (by omega)]
    exact ⟨_, rfl⟩
  | d + 1, k, n, a, hn, hk, ha => by
    obtain ⟨k, rfl⟩ : ∃ q, k = q + 1 := ⟨k - 1, by omega⟩
    rw [laws_markText.l0]
    by_cases h : n > 0
    · rw [if_pos h]
      simp only [Option.bind_some]
      rw [if_pos (by rw [strOfNums_size]; simp; omega)]
      have hp : (0 : Int) < 10 ^ d := Int.pow_pos (by decide)
      have hpow : (10 : Int) ^ (d + 1) = 10 ^ d * 10 := Int.pow_succ 10 d
      have ht : Int.tdiv n 10 = n / 10 := Int.tdiv_eq_ediv_of_nonneg (by omega)
      rw [ht]
      have hw : wrap64 (n / 10) < 10 ^ d := by
        have h1 : n / 10 < 10 ^ d := by omega
        have h2 : 0 ≤ n / 10 := by omega
        unfold wrap64
        omega
      exact markText_l0 d k _ _ hw (by omega) (by rw [ba_append_size, strOfNums_size]; simp; omega)
    · rw [if_neg h, if_pos (by omega)]
      exact ⟨_, rfl⟩
/-- A mark. -/
def MT (n : Int) : ByteArray := (laws_markText.f 30 n).getD ⟨#[]⟩
theorem markText_30 (n : Int) (h : n < 10000000000000000000) : laws_markText.f 30 n = some (MT n) := by
  unfold MT
  have : ∃ t, laws_markText.f 30 n = some t := by
    unfold laws_markText.f
    split
    · exact ⟨_, rfl⟩
    · exact markText_l0 19 30 n _ (by rw [show (10 : Int) ^ 19 = 10000000000000000000 by decide]; exact h) (by omega) (by decide)
  obtain ⟨t, e⟩ := this
  rw [e]; rfl
theorem markText_f (n : Int) (h : n < 10000000000000000000) : ∀ (k : Nat), 30 ≤ k → laws_markText.f k n = some (MT n) := by
  intro k hk
  obtain ⟨d, rfl⟩ : ∃ d, k = 30 + d := ⟨k - 30, by omega⟩
  induction d with
  | zero => exact markText_30 n h
  | succ d ih => exact laws_markText.mono n (30 + d) _ (ih (by omega))

/-! marks of texts -/
theorem markStringS_l0 (n : Nat) (hn : (n : Int) ≤ 46116860184273) (b : Int) (hb : 0 ≤ b) (hb2 : b ≤ 461168601842738) : ∀ (d k : Nat) (x : List ByteArray) (i : Nat), i + d = n → 31 + d < k → x.length = n →
    laws_markStringS.l0 k x (b + (i : Int)) (i : Int) = some (b + (n : Int), x.take i ++ (List.range' i d).map fun j : Nat => MT (b + (j : Int)))
  | 0, k, x, i, hi, hk, hx => by
    obtain ⟨k, rfl⟩ : ∃ q, k = q + 1 := ⟨k - 1, by omega⟩
    rw [laws_markStringS.l0, if_neg (by omega), List.take_of_length_le (by omega)]
    simp
    omega
  | d + 1, k, x, i, hi, hk, hx => by
    obtain ⟨k, rfl⟩ : ∃ q, k = q + 1 := ⟨k - 1, by omega⟩
    rw [laws_markStringS.l0, if_pos (by omega), markText_f _ (by omega) k (by omega), Option.bind_some, if_pos (by omega), w64 (x := b + (i : Int) + 1) (by omega) (by omega), w64 (x := (i : Int) + 1) (by omega) (by omega),
      show b + (i : Int) + 1 = b + ((i + 1 : Nat) : Int) by omega, show (i : Int) + 1 = ((i + 1 : Nat) : Int) by omega, markStringS_l0 n hn b hb hb2 d k _ (i + 1) (by omega) (by omega) (by rw [List.length_set]; exact hx), Int.toNat_natCast]
    congr 2
    rw [List.range'_succ, List.map_cons, List.take_succ_eq_append_getElem (by rw [List.length_set]; omega), List.getElem_set_self, List.take_set_of_le (by omega), List.append_assoc]
    rfl
def mkS (b : Int) (n : Nat) : List ByteArray := (List.range n).map fun j : Nat => MT (b + (j : Int))
theorem laws_markStringS_f (x : List ByteArray) (b : Int) (hb : 0 ≤ b) (hb2 : b ≤ 461168601842738) (hn : (x.length : Int) ≤ 46116860184273) (k : Nat) (hk : 32 + x.length ≤ k) : laws_markStringS.f k x b = some (b + (x.length : Int), mkS b x.length) := by
  unfold laws_markStringS.f mkS
  have := markStringS_l0 x.length hn b hb hb2 x.length k x 0 (by omega) (by omega) rfl
  rw [show b + ((0 : Nat) : Int) = b by omega] at this
  rw [show (0 : Int) = ((0 : Nat) : Int) from rfl, this]
  simp [List.range_eq_range']
theorem laws_heldStringS_f (n : Nat) (b : Int) (hb : 0 ≤ b) (hb2 : b ≤ 461168601842738) (hn : (n : Int) ≤ 46116860184273) (k : Nat) (hk : 32 + n ≤ k) : laws_heldStringS.f k (mkS b n) b = some (b + (n : Int)) := by
  have key : ∀ (d k : Nat) (i : Nat), i + d = n → 31 + d < k → laws_heldStringS.l0 k (mkS b n) (b + (i : Int)) (i : Int) = some (b + (n : Int)) := by
    intro d
    induction d with
    | zero =>
      intro k i hi hk
      obtain ⟨k, rfl⟩ : ∃ q, k = q + 1 := ⟨k - 1, by omega⟩
      rw [laws_heldStringS.l0, if_neg (by unfold mkS; simp; omega)]
      congr 1; omega
    | succ d ih =>
      intro k i hi hk
      obtain ⟨k, rfl⟩ : ∃ q, k = q + 1 := ⟨k - 1, by omega⟩
      have hr : rdOf ByteArray.empty (mkS b n) (i : Int) = MT (b + (i : Int)) := by
        unfold mkS
        rw [rdOf, Int.toNat_natCast, List.getD_eq_getElem?_getD, List.getElem?_map, List.getElem?_range (by omega)]; rfl
      rw [laws_heldStringS.l0, if_pos (by unfold mkS; simp; omega), if_pos (by omega), markText_f _ (by omega) k (by omega), hr]
      simp only [Option.bind_some]
      rw [if_pos trivial, w64 (x := b + (i : Int) + 1) (by omega) (by omega), w64 (x := (i : Int) + 1) (by omega) (by omega), show b + (i : Int) + 1 = b + ((i + 1 : Nat) : Int) by omega, show (i : Int) + 1 = ((i + 1 : Nat) : Int) by omega]
      exact ih k (i + 1) (by omega) (by omega)
  unfold laws_heldStringS.f
  have := key n k 0 (by omega) (by omega)
  rw [show b + ((0 : Nat) : Int) = b by omega] at this
  exact this

/-! what is weighed grows no lighter -/
theorem le_loop (n : Nat) (hn : (n : Int) ≤ 4611686018427387904) (P : Nat → Prop) (g : Nat → Int → Int → Option Int)
    (step : ∀ (k : Nat) (a i r : Int), 0 ≤ a → a ≤ 1048576 → 0 ≤ i → i < n → g (k + 1) a i = some r → r = -1 ∨ ∃ a', 0 ≤ a' ∧ a' ≤ a ∧ P i.toNat ∧ g k a' (wrap64 (i + 1)) = some r)
    (fin : ∀ (k : Nat) (a i r : Int), (n : Int) ≤ i → g (k + 1) a i = some r → r = a) (zero : ∀ a i, g 0 a i = none) :
    ∀ (k : Nat) (a i r : Int), 0 ≤ a → a ≤ 1048576 → 0 ≤ i → i ≤ n → g k a i = some r → r = -1 ∨ (0 ≤ r ∧ r ≤ a ∧ ∀ j, i.toNat ≤ j → j < n → P j)
  | 0, a, i, r, h0, h1, hi, hn2, h => by rw [zero] at h; cases h
  | k + 1, a, i, r, h0, h1, hi, hn2, h => by
    by_cases hlt : i < (n : Int)
    · rcases step k a i r h0 h1 hi hlt h with e | ⟨a', h2, h3, hP, h4⟩
      · exact .inl e
      · rw [w64 (x := i + 1) (by omega) (by omega)] at h4
        rcases le_loop n hn P g step fin zero k a' (i + 1) r h2 (by omega) (by omega) (by omega) h4 with e | ⟨h5, h6, h7⟩
        · exact .inl e
        · refine .inr ⟨h5, by omega, fun j hj hjn => ?_⟩
          by_cases e : j = i.toNat
          · rw [e]; exact hP
          · exact h7 j (by omega) hjn
    · have e := fin k a i r (by omega) h
      exact .inr ⟨by omega, by omega, fun j hj hjn => by omega⟩
theorem szText_le {a : Int} {s : ByteArray} (h0 : 0 ≤ a) (h1 : a ≤ 1048576) (hs : s.size ≤ 140737488351232) : wrap64 (a - (s.size : Int)) = a - (s.size : Int) := w64 (by omega) (by omega)
theorem laws_szStringS_le (l : List ByteArray) (hl : l.length ≤ 140737488351232) (hs : ∀ x ∈ l, x.size ≤ 140737488351232) (k : Nat) (a r : Int) (h0 : 0 ≤ a) (h1 : a ≤ 1048576) (h : laws_szStringS.f k l a = some r) : r = -1 ∨ (0 ≤ r ∧ r ≤ a ∧ (l.length : Int) ≤ a) := by
  unfold laws_szStringS.f at h
  rw [w64 (x := a - (l.length : Int)) (by omega) (by omega)] at h
  split at h
  · exact .inl (Option.some.inj h).symm
  · have := le_loop l.length (by omega) (fun _ => True) (fun k a i => laws_szStringS.l0 k l a i) (fun k a i r h0 h1 hi hlt h => by
      have h : laws_szStringS.l0 (k + 1) l a i = some r := h
      have hz := sAt_size l hs i.toNat
      rw [laws_szStringS.l0, if_pos hlt, if_pos hi, rdOf_sAt, szText_le h0 h1 hz] at h
      split at h
      · exact .inl (Option.some.inj h).symm
      · exact .inr ⟨_, by omega, by omega, trivial, h⟩) (fun k a i r hi h => by
      have h : laws_szStringS.l0 (k + 1) l a i = some r := h
      rw [laws_szStringS.l0, if_neg (by omega)] at h
      exact (Option.some.inj h).symm) (fun _ _ => rfl) k _ 0 r (by omega) (by omega) (by omega) (by omega) h
    rcases this with e | ⟨e1, e2, _⟩
    · exact .inl e
    · exact .inr ⟨e1, by omega, by omega⟩

/-! what classes weigh -/
theorem laws_szClass_le (x : S45) (h : ClIn x) (hs : x.f0.size ≤ 140737488351232) (k : Nat) (a r : Int) (h0 : 0 ≤ a) (h1 : a ≤ 1048576) (e : laws_szClass.f k x.f0 x.f1 x.f2 x.f3 a = some r) : r = -1 ∨ (0 ≤ r ∧ r ≤ a ∧ x.f1.length ≤ 1048576 ∧ x.f2.length ≤ 1048576 ∧ x.f3.length ≤ 1048576) := by
  unfold laws_szClass.f at e
  rw [szText_le h0 h1 hs] at e
  split at e
  · exact .inl (Option.some.inj e).symm
  · obtain ⟨t1, e1, e⟩ := Option.bind_eq_some_iff.1 e
    have g1 := laws_szStringS_le x.f1 (by have := h.1.1; omega) h.1.2 k _ t1 (by omega) (by omega) e1
    split at e
    · exact .inl (Option.some.inj e).symm
    · obtain ⟨t2, e2, e⟩ := Option.bind_eq_some_iff.1 e
      rcases g1 with g1 | ⟨g1, g2, g3⟩
      · omega
      · have q1 := laws_szStringS_le x.f2 (by have := h.2.1.1; omega) h.2.1.2 k _ t2 g1 (by omega) e2
        split at e
        · exact .inl (Option.some.inj e).symm
        · obtain ⟨t3, e3, e⟩ := Option.bind_eq_some_iff.1 e
          rcases q1 with q1 | ⟨q1, q2, q3⟩
          · omega
          · have z1 := laws_szStringS_le x.f3 (by have := h.2.2.1; omega) h.2.2.2 k _ t3 q1 (by omega) e3
            split at e
            · exact .inl (Option.some.inj e).symm
            · have := Option.some.inj e
              subst this
              rcases z1 with z1 | ⟨z1, z2, z3⟩
              · omega
              · exact .inr ⟨z1, by omega, by omega, by omega, by omega⟩
def ClSm (x : S45) : Prop := x.f1.length ≤ 1048576 ∧ x.f2.length ≤ 1048576 ∧ x.f3.length ≤ 1048576
theorem laws_szClassS_le (l : List S45) (hl : l.length ≤ 140737488351232) (h : ∀ x ∈ l, ClIn x ∧ x.f0.size ≤ 140737488351232) (k : Nat) (r : Int) (e : laws_szClassS.f k l 1048576 = some r) : r = -1 ∨ (l.length ≤ 1048576 ∧ ∀ x ∈ l, ClSm x) := by
  unfold laws_szClassS.f at e
  rw [w64 (x := 1048576 - (l.length : Int)) (by omega) (by omega)] at e
  split at e
  · exact .inl (Option.some.inj e).symm
  · have := le_loop l.length (by omega) (fun j => ClSm (clL l j)) (fun k a i => laws_szClassS.l0 k l a i) (fun k a i r h0 h1 hi hlt e => by
      have e : laws_szClassS.l0 (k + 1) l a i = some r := e
      have hz := h (clL l i.toNat) (getD_mem_ _ _ _ (by omega))
      rw [laws_szClassS.l0, if_pos hlt, if_pos hi, rd_clL] at e
      obtain ⟨t, ht, e⟩ := Option.bind_eq_some_iff.1 e
      have g := laws_szClass_le _ hz.1 hz.2 k a t h0 h1 ht
      split at e
      · exact .inl (Option.some.inj e).symm
      · rcases g with g | ⟨g1, g2, g3⟩
        · omega
        · exact .inr ⟨_, g1, g2, g3, e⟩) (fun k a i r hi e => by
      have e : laws_szClassS.l0 (k + 1) l a i = some r := e
      rw [laws_szClassS.l0, if_neg (by omega)] at e
      exact (Option.some.inj e).symm) (fun _ _ => rfl) k _ 0 r (by omega) (by omega) (by omega) (by omega) e
    rcases this with e | ⟨_, _, e⟩
    · exact .inl e
    · refine .inr ⟨by omega, fun x hx => ?_⟩
      obtain ⟨j, hj, rfl⟩ := List.getElem_of_mem hx
      have := e j (by omega) hj
      unfold clL at this
      rwa [List.getD_eq_getElem?_getD, List.getElem?_eq_getElem hj] at this

/-! what marking classes comes to -/
theorem laws_FnExactTreeNew_mS (k : Nat) (hk : 30 ≤ k) : ∀ (n : Nat) (a : Int), 0 ≤ a → a + n ≤ 4611686018427387904 → laws_FnExactTreeNew.mS k n a = some (a + n)
  | 0, a, _, _ => by simp [laws_FnExactTreeNew.mS]
  | n + 1, a, h0, h1 => by
    rw [laws_FnExactTreeNew.mS, markText_f a (by omega) k hk, Option.bind_some, w64 (x := a + 1) (by omega) (by omega), laws_FnExactTreeNew_mS k hk n (a + 1) (by omega) (by omega)]
    congr 1; omega
theorem laws_FnExactTreeNew_mC (k : Nat) (hk : 30 ≤ k) : ∀ (l : List S48) (a : Int), 0 ≤ a → (∀ x ∈ l, x.f1.length ≤ 1048576 ∧ x.f2.length ≤ 1048576 ∧ x.f3.length ≤ 1048576) → a + 4000000 * l.length ≤ 4611686018427387904 → ∃ r, laws_FnExactTreeNew.mC k l a = some r ∧ 0 ≤ r
  | [], a, h0, _, _ => ⟨a, rfl, h0⟩
  | x :: l, a, h0, h, hl => by
    obtain ⟨g1, g2, g3⟩ := h x (by simp)
    simp only [List.length_cons] at hl
    rw [laws_FnExactTreeNew.mC, markText_f a (by omega) k hk, Option.bind_some, w64 (x := a + 1) (by omega) (by omega), laws_FnExactTreeNew_mS k hk _ _ (by omega) (by omega), Option.bind_some, laws_FnExactTreeNew_mS k hk _ _ (by omega) (by omega), Option.bind_some, laws_FnExactTreeNew_mS k hk _ _ (by omega) (by omega), Option.bind_some]
    exact laws_FnExactTreeNew_mC k hk l _ (by omega) (fun y hy => h y (List.mem_cons_of_mem _ hy)) (by omega)

/-! TreeNew -/
def TreeNewP (l : List S48) : List S48 := if SchemaP l = true then l else []
theorem clone_f (l : List ByteArray) (h : l.length ≤ 10) : slices_Clone_string_string.f l = some l := by
  unfold slices_Clone_string_string.f
  simp only [Option.bind_some, List.length_nil, List.nil_append]
  rw [if_pos (by omega)]
def Cl10 (x : S48) : Prop := x.f1.length ≤ 10 ∧ x.f2.length ≤ 10 ∧ x.f3.length ≤ 10
theorem copySchema_cp : ∀ (l acc : List S48), (∀ x ∈ l, Cl10 x) → acc.length + l.length < 1000000 → impl_copySchema.cp l acc = some (acc ++ l)
  | [], acc, _, _ => by rw [impl_copySchema.cp, List.append_nil]
  | x :: l, acc, h, hl => by
    obtain ⟨h1, h2, h3⟩ := h x (by simp)
    simp only [List.length_cons] at hl
    have e : impl_classOf.f [x] x.f0 = some (x.f0, x.f1, x.f2, x.f3, true) := by
      unfold impl_classOf.f
      have e0 : impl_classOf.ix x.f0 [x] 0 = 0 := by simp only [impl_classOf.ix]; rw [if_pos trivial]
      rw [e0, if_pos (by omega), show rd_T48 [x] 0 = x from rfl, clone_f _ h1, clone_f _ h2, clone_f _ h3]
      rfl
    simp only [impl_copySchema.cp]
    rw [e, Option.bind_some, if_pos (by omega), copySchema_cp l _ (fun y hy => h y (List.mem_cons_of_mem _ hy)) (by simp; omega), List.append_assoc]
    rfl
theorem cl_drop (l : List S48) (i : Int) (h0 : 0 ≤ i) (h1 : i < l.length) : l.drop i.toNat = rd_T48 l i :: l.drop (i + 1).toNat := by
  have hi : i.toNat < l.length := by omega
  rw [List.drop_eq_getElem_cons hi, show (i + 1).toNat = i.toNat + 1 by omega]
  congr 1
  unfold rd_T48
  rw [List.getD_eq_getElem?_getD, List.getElem?_eq_getElem hi]; rfl
theorem l05Copy_f (x : S48) (h : Cl10 x) : spec_l05Copy.f x.f0 x.f1 x.f2 x.f3 = some (x.f0, x.f1, x.f2, x.f3) := by
  obtain ⟨h1, h2, h3⟩ := h
  unfold spec_l05Copy.f
  simp only [Option.bind_some, List.length_nil, List.nil_append]
  rw [if_pos (by omega), if_pos (by omega), if_pos (by omega)]
theorem l07Schema_l0 (l : List S48) (hl : l.length ≤ 1000) (h : ∀ x ∈ l, Cl10 x) : ∀ (d k : Nat) (x : List S48) (i : Int), 0 ≤ i → i + d = l.length → d < k → x.length + d ≤ 1000 → spec_l07Schema.l0 k l x i = some (x ++ l.drop i.toNat)
  | 0, k, x, i, h0, hi, hk, _ => by
    obtain ⟨k, rfl⟩ : ∃ q, k = q + 1 := ⟨k - 1, by omega⟩
    rw [spec_l07Schema.l0, if_neg (by omega), List.drop_of_length_le (by omega), List.append_nil]
  | d + 1, k, x, i, h0, hi, hk, hx => by
    obtain ⟨k, rfl⟩ : ∃ q, k = q + 1 := ⟨k - 1, by omega⟩
    have hm : rd_T48 l i ∈ l := getD_mem_ _ _ _ (by omega)
    rw [spec_l07Schema.l0, if_pos (by omega), if_pos h0, l05Copy_f _ (h _ hm), Option.bind_some, if_pos (by omega), w64 (x := i + 1) (by omega) (by omega), l07Schema_l0 l hl h d k _ (i + 1) (by omega) (by omega) (by omega) (by simp; omega), cl_drop l i h0 (by omega), List.append_assoc]
    rfl
theorem SchemaP_mem {l : List S48} (h : SchemaP l = true) : l.length ≤ 6 ∧ ∀ x ∈ l, ClassP x.f0 x.f1 x.f2 x.f3 = true := by
  unfold SchemaP at h
  simp only [Bool.and_eq_true, decide_eq_true_eq] at h
  refine ⟨h.2, fun x hx => ?_⟩
  obtain ⟨j, hj, rfl⟩ := List.getElem_of_mem hx
  have := List.all_eq_true.1 h.1 j (List.mem_range.2 hj)
  unfold schF clI at this
  rw [List.getD_eq_getElem?_getD, List.getElem?_eq_getElem hj] at this
  simp only [Bool.and_eq_true] at this
  exact this.1
theorem ClassP_len {a : ByteArray} {l1 l2 l3 : List ByteArray} (h : ClassP a l1 l2 l3 = true) : l1.length ≤ 10 ∧ l2.length ≤ 10 ∧ l3.length ≤ 10 := by
  unfold ClassP at h
  simp only [Bool.and_eq_true, decide_eq_true_eq] at h
  exact ⟨h.1.2.1, h.1.2.2.1, h.1.2.2.2.1⟩
theorem TreeNewP_ok (l : List S48) : (TreeNewP l).length ≤ 6 ∧ ∀ x ∈ TreeNewP l, Cl10 x := by
  unfold TreeNewP
  by_cases h : SchemaP l = true
  · rw [if_pos h]
    obtain ⟨h1, h2⟩ := SchemaP_mem h
    exact ⟨h1, fun x hx => ClassP_len (h2 x hx)⟩
  · rw [if_neg h]
    exact ⟨by simp, fun x hx => by simp at hx⟩
theorem spec_TreeNew_f (l : List S48) (hl : l.length ≤ 140737488351232) (h : ∀ x ∈ l, ClOK x) (k : Nat) (hk : 70368744177665 + l.length < k) : spec_TreeNew.f k l = some (TreeNewP l, []) := by
  unfold spec_TreeNew.f TreeNewP
  by_cases h4 : (l.length : Int) > 400
  · have hn : ¬ (SchemaP l = true) := fun hc => by have := (SchemaP_mem hc).1; omega
    rw [if_pos h4, if_neg hn]
  · rw [if_neg h4, spec_SchemaRight_f l hl h k hk, Option.bind_some]
    by_cases hs : SchemaP l = true
    · obtain ⟨h1, h2⟩ := SchemaP_mem hs
      rw [if_pos hs, if_pos hs]
      unfold spec_l07Schema.f
      rw [l07Schema_l0 l (by omega) (fun x hx => ClassP_len (h2 x hx)) l.length k [] 0 (by omega) (by omega) (by omega) (by simp; omega), Option.bind_some]
      rfl
    · rw [if_neg hs, if_neg hs]
theorem impl_TreeNew_f (l : List S48) (k : Nat) (hk : 200 ≤ k) : impl_TreeNew.f k l = some (TreeNewP l) := by
  unfold impl_TreeNew.f TreeNewP
  rw [impl_SchemaRight_f l k hk, Option.bind_some]
  by_cases hs : SchemaP l = true
  · obtain ⟨h1, h2⟩ := SchemaP_mem hs
    rw [if_pos hs, if_pos hs]
    unfold impl_copySchema.f
    rw [copySchema_cp l [] (fun x hx => ClassP_len (h2 x hx)) (by simp; omega), List.nil_append]
  · rw [if_neg hs, if_neg hs]
/-! marked classes -/
def mkC : List S48 → Int → List S48
  | [], _ => []
  | x :: xs, a => (⟨MT a, mkS (a + 1) x.f1.length, mkS (a + 1 + (x.f1.length : Int)) x.f2.length, mkS (a + 1 + (x.f1.length : Int) + (x.f2.length : Int)) x.f3.length⟩ : S48) :: mkC xs (a + 1 + (x.f1.length : Int) + (x.f2.length : Int) + (x.f3.length : Int))
def szC : List S48 → Int → Int
  | [], a => a
  | x :: xs, a => szC xs (a + 1 + (x.f1.length : Int) + (x.f2.length : Int) + (x.f3.length : Int))
theorem szC_le : ∀ (l : List S48) (a : Int), a ≤ szC l a
  | [], a => by simp [szC]
  | x :: l, a => by have := szC_le l (a + 1 + (x.f1.length : Int) + (x.f2.length : Int) + (x.f3.length : Int)); rw [szC]; omega
theorem mD_f (k : Nat) (hk : 200 ≤ k) : ∀ (l : List S48) (a : Int), 0 ≤ a → (∀ x ∈ l, Cl10 x) → a + 40 * l.length ≤ 10000 → laws_FnExactTreeNew.mD k l a = some (szC l a, mkC l a)
  | [], a, h0, _, _ => rfl
  | x :: l, a, h0, h, hl => by
    obtain ⟨h1, h2, h3⟩ := h x (by simp)
    simp only [List.length_cons] at hl
    rw [laws_FnExactTreeNew.mD, markText_f a (by omega) k (by omega), Option.bind_some, w64 (x := a + 1) (by omega) (by omega), laws_markStringS_f x.f1 (a + 1) (by omega) (by omega) (by omega) k (by omega), Option.bind_some]
    simp only
    rw [laws_markStringS_f x.f2 _ (by omega) (by omega) (by omega) k (by omega), Option.bind_some]
    simp only
    rw [laws_markStringS_f x.f3 _ (by omega) (by omega) (by omega) k (by omega), Option.bind_some]
    simp only
    rw [mD_f k hk l _ (by omega) (fun y hy => h y (List.mem_cons_of_mem _ hy)) (by omega), Option.bind_some]
    rfl
theorem heldC_l0 : ∀ (xs L : List S48) (a i : Int) (k : Nat), xs.length + 200 < k → 0 ≤ i → L.length ≤ 100 → L.drop i.toNat = mkC xs a → i + xs.length = L.length → (∀ x ∈ xs, Cl10 x) → 0 ≤ a → a + 40 * xs.length ≤ 10000 → laws_heldClassS.l0 k L a i = some (szC xs a)
  | [], L, a, i, k, hk, h0, hL, hd, hi, _, _, _ => by
    obtain ⟨k, rfl⟩ : ∃ q, k = q + 1 := ⟨k - 1, by omega⟩
    simp only [List.length_nil] at hi
    rw [laws_heldClassS.l0, if_neg (by omega)]
    rfl
  | x :: xs, L, a, i, k, hk, h0, hL, hd, hi, h, ha, hl => by
    obtain ⟨k, rfl⟩ : ∃ q, k = q + 1 := ⟨k - 1, by omega⟩
    obtain ⟨h1, h2, h3⟩ := h x (by simp)
    simp only [List.length_cons] at hl hi hk
    rw [cl_drop L i h0 (by omega), mkC] at hd
    injection hd with hrd hd
    rw [laws_heldClassS.l0, if_pos (by omega), if_pos h0, markText_f a (by omega) k (by omega), Option.bind_some, hrd]
    dsimp only
    rw [if_pos rfl, w64 (x := a + 1) (by omega) (by omega), laws_heldStringS_f _ (a + 1) (by omega) (by omega) (by omega) k (by omega), Option.bind_some, if_neg (by omega), laws_heldStringS_f _ _ (by omega) (by omega) (by omega) k (by omega), Option.bind_some, if_neg (by omega), laws_heldStringS_f _ _ (by omega) (by omega) (by omega) k (by omega), Option.bind_some, if_neg (by omega), w64 (x := i + 1) (by omega) (by omega)]
    exact heldC_l0 xs L _ (i + 1) k (by omega) (by omega) hL hd (by omega) (fun y hy => h y (List.mem_cons_of_mem _ hy)) (by omega) (by omega)
theorem mkC_length : ∀ (l : List S48) (a : Int), (mkC l a).length = l.length
  | [], _ => rfl
  | x :: l, a => by rw [mkC, List.length_cons, List.length_cons, mkC_length l]
theorem heldTree_f (l : List S48) (hl : l.length ≤ 6) (h : ∀ x ∈ l, Cl10 x) (k : Nat) (hk : 300 ≤ k) : laws_heldTree.f k (mkC l 1) [] 1 = some (szC l 1) := by
  have h1 := szC_le l 1
  unfold laws_heldTree.f laws_heldClassS.f
  rw [heldC_l0 l (mkC l 1) 1 0 k (by omega) (by omega) (by rw [mkC_length]; omega) rfl (by rw [mkC_length]; omega) h (by omega) (by omega), Option.bind_some, if_neg (by omega)]
  obtain ⟨k, rfl⟩ : ∃ q, k = q + 1 := ⟨k - 1, by omega⟩
  unfold laws_heldEntryS.f
  rw [laws_heldEntryS.l0, if_neg (by simp), Option.bind_some, if_neg (by omega)]
theorem eqTree_f (l : List S48) (hl : l.length ≤ 6) (h : ∀ x ∈ l, Cl10 x) (k : Nat) (hk : 17592186044524 < k) : laws_eqTree.f k l [] l [] = some true := by
  unfold laws_eqTree.f
  rw [laws_eqClassS_f l (by omega) (fun x hx => ⟨by have := (h x hx).1; omega, by have := (h x hx).2.1; omega, by have := (h x hx).2.2; omega⟩) k (by omega), Option.bind_some, if_pos rfl]
  obtain ⟨k, rfl⟩ : ∃ q, k = q + 1 := ⟨k - 1, by omega⟩
  unfold laws_eqEntryS.f
  rw [if_pos rfl, laws_eqEntryS.l0, if_neg (by simp), Option.bind_some, if_pos rfl]

theorem FnExactTreeNew : laws_FnExactTreeNew.Pure := by
  intro l ⟨hl, hx⟩
  have hin : ∀ x ∈ l, ClIn x ∧ x.f0.size ≤ 140737488351232 := fun x hx2 => by
    obtain ⟨h0, h1, h2, h3⟩ := hx x hx2
    exact ⟨⟨⟨by have := h1.1; omega, h1.2⟩, ⟨by have := h2.1; omega, h2.2⟩, ⟨by have := h3.1; omega, h3.2⟩⟩, h0⟩
  obtain ⟨K, hK⟩ : ∃ K : Nat, K = 1152921504606846976 := ⟨_, rfl⟩
  refine ⟨K, ?_⟩
  unfold laws_FnExactTreeNew.f
  obtain ⟨r, e⟩ := laws_szClassS_f l (by omega) (fun x hx => (hin x hx).1) 1048576 K (by omega)
  have hle := laws_szClassS_le l (by omega) hin K r e
  rw [e, laws_toClassS_f l (by omega) (fun x hx => (hin x hx).1) K (by omega), Option.bind_some]
  by_cases hr : r < 0
  · rw [if_pos hr]
  · rw [if_neg hr]
    rcases hle with hle | ⟨hl2, hsm⟩
    · omega
    · have hok : ∀ x ∈ l.map cvCl, ClOK x := fun x hx2 => by
        obtain ⟨y, hy, rfl⟩ := List.mem_map.1 hx2
        exact ⟨(hin y hy).1.1.1, (hin y hy).1.2.1.1, (hin y hy).1.2.2.1⟩
      have hsm2 : ∀ x ∈ l.map cvCl, x.f1.length ≤ 1048576 ∧ x.f2.length ≤ 1048576 ∧ x.f3.length ≤ 1048576 := fun x hx2 => by
        obtain ⟨y, hy, rfl⟩ := List.mem_map.1 hx2
        exact hsm y hy
      have hml : (l.map cvCl).length = l.length := List.length_map _
      generalize l.map cvCl = m at hok hsm2 hml ⊢
      obtain ⟨g1, g2⟩ := TreeNewP_ok m
      obtain ⟨kk, ek, hkk⟩ := laws_FnExactTreeNew_mC K (by omega) m 1 (by omega) hsm2 (by omega)
      rw [Option.bind_some, spec_TreeNew_f m (by omega) hok K (by omega), Option.bind_some, impl_TreeNew_f m K (by omega), Option.bind_some]
      generalize TreeNewP m = g at g1 g2 ⊢
      unfold laws_FnExactTreeNew.g2
      have h1 := szC_le g 1
      rw [eqTree_f g g1 g2 K (by omega), Option.bind_some, if_pos rfl, laws_eqClassS_f m (by omega) hok K (by omega), Option.bind_some, if_pos rfl, ek, Option.bind_some, if_pos hkk, mD_f K (by omega) g 1 (by omega) g2 (by omega), Option.bind_some]
      simp only
      rw [heldTree_f g g1 g2 K (by omega), Option.bind_some, if_pos (by omega), if_pos rfl]

end Go.Proofs.YtdlbcamnimdfjaaGreatDoor.Pure
