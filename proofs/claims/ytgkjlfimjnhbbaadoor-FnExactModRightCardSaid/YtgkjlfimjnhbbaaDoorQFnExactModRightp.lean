/- The law FnExactModRight answers true at every modification: the program's ModRight gives what the reference's gives. No condition. -/
import Derived.Test.YtgkjlfimjnhbbaaDoorQFnExactModRightx8
import Derived.Laws.Bits64
import Derived.Lib.Strings
namespace Go.Proofs.YtgkjlfimjnhbbaaDoor.Pure
open Go.RowKit Go.Proofs.YtgkjlfimjnhbbaaDoor.PFnExactModRight Go.Proofs.YtgkjlfimjnhbbaaDoorW.PrintWords Go.Proofs.YtgkjlfimjnhbbaaDoorW.PrintLast
set_option linter.unusedVariables false
set_option linter.unusedSimpArgs false

/-! plain lemmas -/
theorem w64 {x : Int} (h0 : -9223372036854775808 ≤ x) (h1 : x ≤ 9223372036854775807) : wrap64 x = x := by unfold wrap64; omega
theorem ba_ext {a b : ByteArray} (h : a.data.toList = b.data.toList) : a = b := ByteArray.ext (Array.toList_inj.1 h)
theorem ba_inj {a b : ByteArray} : a.toList = b.toList ↔ a = b :=
  ⟨fun h => ba_ext (by rwa [Go.Lib.toList_data, Go.Lib.toList_data] at h), fun h => by rw [h]⟩
theorem drop_bt (s : ByteArray) (i : Int) (h0 : 0 ≤ i) (h1 : i < s.size) : (bytesOf s).drop i.toNat = bt s i :: (bytesOf s).drop (i + 1).toNat := by
  have hl : i.toNat < (bytesOf s).length := by rw [bytesOf_length]; omega
  rw [List.drop_eq_getElem_cons hl, ← rd_bytesOf, show (i + 1).toNat = i.toNat + 1 by omega]
  congr 1
  unfold rd
  rw [List.getD_eq_getElem?_getD, List.getElem?_eq_getElem hl]; rfl

/-! loops that go over a row once -/
theorem some_loop {ρ : Type} (n : Nat) (hn : (n : Int) ≤ 4611686018427387904) (K : Nat) (g : Nat → Int → Int → Option ρ)
    (step : ∀ (k : Nat) (a i : Int), K ≤ k → 0 ≤ i → i < n → (∃ r, g (k + 1) a i = some r) ∨ ∃ a', g (k + 1) a i = g k a' (wrap64 (i + 1)))
    (fin : ∀ (k : Nat) (a i : Int), K ≤ k → 0 ≤ i → (n : Int) ≤ i → ∃ r, g (k + 1) a i = some r) :
    ∀ (d k : Nat) (a i : Int), 0 ≤ i → i + d = n → K + d < k → ∃ r, g k a i = some r
  | 0, k, a, i, h0, hi, hk => by
    obtain ⟨k, rfl⟩ : ∃ q, k = q + 1 := ⟨k - 1, by omega⟩
    exact fin k a i (by omega) h0 (by omega)
  | d + 1, k, a, i, h0, hi, hk => by
    obtain ⟨k, rfl⟩ : ∃ q, k = q + 1 := ⟨k - 1, by omega⟩
    rcases step k a i (by omega) h0 (by omega) with h | ⟨a', e⟩
    · exact h
    · rw [e, w64 (x := i + 1) (by omega) (by omega)]
      exact some_loop n hn K g step fin d k a' (i + 1) (by omega) (by omega) (by omega)
theorem skip_loop {ρ : Type} (r : ρ) (n : Nat) (hn : (n : Int) ≤ 4611686018427387904) (K : Nat) (g : Nat → Int → Option ρ)
    (step : ∀ (k : Nat) (i : Int), K ≤ k → 0 ≤ i → i < n → g (k + 1) i = g k (wrap64 (i + 1)))
    (fin : ∀ (k : Nat) (i : Int), K ≤ k → 0 ≤ i → (n : Int) ≤ i → g (k + 1) i = some r) :
    ∀ (d k : Nat) (i : Int), 0 ≤ i → i + d = n → K + d < k → g k i = some r
  | 0, k, i, h0, hi, hk => by
    obtain ⟨k, rfl⟩ : ∃ q, k = q + 1 := ⟨k - 1, by omega⟩
    exact fin k i (by omega) h0 (by omega)
  | d + 1, k, i, h0, hi, hk => by
    obtain ⟨k, rfl⟩ : ∃ q, k = q + 1 := ⟨k - 1, by omega⟩
    rw [step k i (by omega) h0 (by omega), w64 (x := i + 1) (by omega) (by omega)]
    exact skip_loop r n hn K g step fin d k (i + 1) (by omega) (by omega) (by omega)
theorem copy_loop {β : Type} (n : Nat) (hn : (n : Int) ≤ 4611686018427387904) (src : Nat → β) (K : Nat) (g : Nat → List β → Int → Option (List β))
    (step : ∀ (k : Nat) (x : List β) (i : Int), K ≤ k → 0 ≤ i → i < n → x.length = n → g (k + 1) x i = g k (x.set i.toNat (src i.toNat)) (wrap64 (i + 1)))
    (fin : ∀ (k : Nat) (x : List β) (i : Int), (n : Int) ≤ i → g (k + 1) x i = some x) :
    ∀ (d k : Nat) (x : List β) (i : Int), 0 ≤ i → i + d = n → K + d < k → x.length = n → g k x i = some (x.take i.toNat ++ (List.range' i.toNat d).map src)
  | 0, k, x, i, h0, hi, hk, hx => by
    obtain ⟨k, rfl⟩ : ∃ q, k = q + 1 := ⟨k - 1, by omega⟩
    rw [fin k x i (by omega), List.take_of_length_le (by omega)]
    simp
  | d + 1, k, x, i, h0, hi, hk, hx => by
    obtain ⟨k, rfl⟩ : ∃ q, k = q + 1 := ⟨k - 1, by omega⟩
    rw [step k x i (by omega) h0 (by omega) hx, w64 (x := i + 1) (by omega) (by omega),
      copy_loop n hn src K g step fin d k _ (i + 1) (by omega) (by omega) (by omega) (by rw [List.length_set]; exact hx)]
    congr 1
    rw [show (i + 1).toNat = i.toNat + 1 by omega, List.range'_succ, List.map_cons, List.take_succ_eq_append_getElem (by rw [List.length_set]; omega), List.getElem_set_self, List.take_set_of_le (by omega), List.append_assoc]
    rfl
theorem copy_all {β : Type} (n : Nat) (hn : (n : Int) ≤ 4611686018427387904) (src : Nat → β) (K : Nat) (g : Nat → List β → Int → Option (List β)) (z : β)
    (step : ∀ (k : Nat) (x : List β) (i : Int), K ≤ k → 0 ≤ i → i < n → x.length = n → g (k + 1) x i = g k (x.set i.toNat (src i.toNat)) (wrap64 (i + 1)))
    (fin : ∀ (k : Nat) (x : List β) (i : Int), (n : Int) ≤ i → g (k + 1) x i = some x) (k : Nat) (hk : K + n < k) :
    g k (List.replicate n z) 0 = some ((List.range n).map src) := by
  rw [copy_loop n hn src K g step fin n k _ 0 (by omega) (by omega) hk (by simp)]
  simp [List.range_eq_range']
theorem range_map_getD {α β : Type} (l : List α) (z : α) (f : α → β) : (List.range l.length).map (fun j => f (l.getD j z)) = l.map f := by
  apply List.ext_getElem
  · simp
  · intro i h1 h2
    simp only [List.getElem_map, List.getElem_range]
    rw [List.getD_eq_getElem?_getD, List.getElem?_eq_getElem (by simpa using h1)]
    rfl
theorem all_loop (fin : Bool) (f : Nat → Bool) (n : Nat) (hn : (n : Int) ≤ 4611686018427387904) (K : Nat) (g : Nat → Int → Option Bool)
    (step : ∀ (k : Nat) (i : Int), K ≤ k → 0 ≤ i → i < n → g (k + 1) i = if f i.toNat = true then g k (wrap64 (i + 1)) else some false)
    (hfin : ∀ (k : Nat) (i : Int), K ≤ k → 0 ≤ i → (n : Int) ≤ i → g (k + 1) i = some fin) :
    ∀ (d k : Nat) (i : Int), 0 ≤ i → i + d = n → K + d < k → g k i = some ((List.range' i.toNat d).all f && fin)
  | 0, k, i, h0, hi, hk => by
    obtain ⟨k, rfl⟩ : ∃ q, k = q + 1 := ⟨k - 1, by omega⟩
    rw [hfin k i (by omega) h0 (by omega)]; simp
  | d + 1, k, i, h0, hi, hk => by
    obtain ⟨k, rfl⟩ : ∃ q, k = q + 1 := ⟨k - 1, by omega⟩
    rw [step k i (by omega) h0 (by omega), w64 (x := i + 1) (by omega) (by omega), List.range'_succ, List.all_cons]
    cases hf : f i.toNat with
    | false => simp
    | true =>
      rw [if_pos rfl, all_loop fin f n hn K g step hfin d k (i + 1) (by omega) (by omega) (by omega), show (i + 1).toNat = i.toNat + 1 by omega]
      simp

/-! lists of strings -/
theorem laws_szStringS_f (l : List ByteArray) (hl : (l.length : Int) ≤ 4611686018427387904) (a : Int) (k : Nat) (hk : l.length < k) : ∃ r, laws_szStringS.f k l a = some r := by
  unfold laws_szStringS.f
  split
  · exact ⟨_, rfl⟩
  · refine some_loop l.length hl 0 (fun k a i => laws_szStringS.l0 k l a i) (fun k a i _ h0 hi => ?_) (fun k a i _ h0 hi => ?_) l.length k _ 0 (by omega) (by omega) (by omega)
    · show (∃ r, laws_szStringS.l0 (k + 1) l a i = some r) ∨ ∃ a', laws_szStringS.l0 (k + 1) l a i = laws_szStringS.l0 k l a' (wrap64 (i + 1))
      rw [laws_szStringS.l0, if_pos hi, if_pos h0]
      repeat' split
      all_goals first | exact .inl ⟨_, rfl⟩ | exact .inr ⟨_, rfl⟩
    · show ∃ r, laws_szStringS.l0 (k + 1) l a i = some r
      rw [laws_szStringS.l0, if_neg (by omega)]
      exact ⟨_, rfl⟩
theorem laws_toStringS_f (l : List ByteArray) (hl : l.length ≤ 17592186044416) (k : Nat) (hk : l.length < k) : laws_toStringS.f k l = some l := by
  unfold laws_toStringS.f
  rw [if_pos (by omega), if_pos (by omega), show ((l.length : Int)).toNat = l.length from rfl,
    copy_all l.length (by omega) (fun j => id (l.getD j ByteArray.empty)) 0 (fun k x i => laws_toStringS.l0 k l x i) (⟨#[]⟩ : ByteArray) (fun k x i _ h0 hi hx => ?_) (fun k x i hi => ?_) k (by omega), range_map_getD]
  · rw [List.map_id]
  · show laws_toStringS.l0 (k + 1) l x i = _
    rw [laws_toStringS.l0, if_pos hi, if_pos h0, if_pos (by omega)]
    rfl
  · show laws_toStringS.l0 (k + 1) l x i = _
    rw [laws_toStringS.l0, if_neg (by omega)]
theorem laws_eqStringS_f (l : List ByteArray) (hl : (l.length : Int) ≤ 4611686018427387904) (k : Nat) (hk : l.length < k) : laws_eqStringS.f k l l = some true := by
  unfold laws_eqStringS.f
  rw [if_pos rfl]
  refine skip_loop true l.length hl 0 (fun k i => laws_eqStringS.l0 k l l i) (fun k i _ h0 hi => ?_) (fun k i _ h0 hi => ?_) l.length k 0 (by omega) (by omega) (by omega)
  · show laws_eqStringS.l0 (k + 1) l l i = laws_eqStringS.l0 k l l (wrap64 (i + 1))
    rw [laws_eqStringS.l0, if_pos hi, if_pos h0, if_pos hi]
    simp
  · show laws_eqStringS.l0 (k + 1) l l i = _
    rw [laws_eqStringS.l0, if_neg (by omega)]

/-! Norm -/
/-- A capital as a small letter. -/
def up (c : Int) : Int := if 65 ≤ c ∧ c ≤ 90 then c + 32 else c
/-- A byte put behind what is there: no blank at the begin, none behind another. -/
def nput (l : List Int) (c : Int) : List Int := if c = 32 ∧ (l = [] ∨ rd l ((l.length : Int) - 1) = 32) then l else l ++ [c]
def nfold (l cs : List Int) : List Int := cs.foldl (fun l c => nput l (up c)) l
def ntrim (l : List Int) : List Int := if l ≠ [] ∧ rd l ((l.length : Int) - 1) = 32 then l.take (l.length - 1) else l
def prt (c : Int) : Bool := decide (32 ≤ c) && decide (c ≤ 126)
theorem prt_lo {c : Int} (h : c < 32) : prt c = false := by unfold prt; rw [decide_eq_false (by omega)]; rfl
theorem prt_hi {c : Int} (h : c > 126) : prt c = false := by unfold prt; rw [decide_eq_false (p := c ≤ 126) (by omega)]; simp
def plainP (s : ByteArray) : Bool := (bytesOf s).all prt
def NormL (s : ByteArray) : List Int := if s.size ≤ 100 ∧ plainP s = true then ntrim (nfold [] (bytesOf s)) else []
def NormP (s : ByteArray) : ByteArray := strOfNums (NormL s)
theorem son_nil : strOfNums [] = (⟨#[]⟩ : ByteArray) := rfl
theorem spec_l02Plain_l0 (s : ByteArray) (hs : s.size ≤ 4611686018427387904) : ∀ (d k : Nat) (i : Int), 0 ≤ i → i + d = s.size → d < k →
    spec_l02Plain.l0 k s i = some (((bytesOf s).drop i.toNat).all prt)
  | 0, k, i, h0, hd, hk => by
    obtain ⟨k, rfl⟩ : ∃ m, k = m + 1 := ⟨k - 1, by omega⟩
    simp only [spec_l02Plain.l0]
    rw [if_neg (by omega), List.drop_of_length_le (by rw [bytesOf_length]; omega)]; rfl
  | d + 1, k, i, h0, hd, hk => by
    obtain ⟨k, rfl⟩ : ∃ m, k = m + 1 := ⟨k - 1, by omega⟩
    simp only [spec_l02Plain.l0]
    rw [if_pos (by omega), if_pos h0, drop_bt s i h0 (by omega), List.all_cons]
    by_cases h1 : bt s i < 32
    · rw [if_pos h1, show prt (bt s i) = false from prt_lo h1]; rfl
    · rw [if_neg h1]
      by_cases h2 : bt s i > 126
      · rw [if_pos h2, show prt (bt s i) = false from prt_hi h2]; rfl
      · rw [if_neg h2, w64 (by omega) (by omega), spec_l02Plain_l0 s hs d k (i + 1) (by omega) (by omega) (by omega)]
        simp [prt, show 32 ≤ bt s i by omega, show bt s i ≤ 126 by omega]
theorem spec_l02Plain_f (s : ByteArray) (hs : s.size ≤ 4611686018427387904) (k : Nat) (hk : s.size < k) : spec_l02Plain.f k s = some (plainP s) := by
  unfold spec_l02Plain.f
  rw [spec_l02Plain_l0 s hs s.size k 0 (by omega) (by omega) hk]; rfl
theorem impl_isPrintable_l0 (s : ByteArray) (hs : s.size ≤ 4611686018427387904) : ∀ (d k : Nat) (i : Int), 0 ≤ i → i + d = s.size → d < k →
    impl_isPrintable.l0 k s (s.size : Int) i = some (((bytesOf s).drop i.toNat).all prt)
  | 0, k, i, h0, hd, hk => by
    obtain ⟨k, rfl⟩ : ∃ m, k = m + 1 := ⟨k - 1, by omega⟩
    simp only [impl_isPrintable.l0]
    rw [if_neg (by omega), List.drop_of_length_le (by rw [bytesOf_length]; omega)]; rfl
  | d + 1, k, i, h0, hd, hk => by
    obtain ⟨k, rfl⟩ : ∃ m, k = m + 1 := ⟨k - 1, by omega⟩
    simp only [impl_isPrintable.l0]
    rw [if_pos (by omega), if_pos h0, if_pos (by omega), drop_bt s i h0 (by omega), List.all_cons]
    by_cases h1 : bt s i < 32
    · rw [if_pos h1, show prt (bt s i) = false from prt_lo h1]; rfl
    · rw [if_neg h1]
      by_cases h2 : bt s i > 126
      · rw [if_pos h2, show prt (bt s i) = false from prt_hi h2]; rfl
      · rw [if_neg h2, w64 (by omega) (by omega), impl_isPrintable_l0 s hs d k (i + 1) (by omega) (by omega) (by omega)]
        simp [prt, show 32 ≤ bt s i by omega, show bt s i ≤ 126 by omega]
theorem impl_isPrintable_f (s : ByteArray) (hs : s.size ≤ 4611686018427387904) (k : Nat) (hk : s.size < k) : impl_isPrintable.f k s = some (plainP s) := by
  unfold impl_isPrintable.f
  rw [impl_isPrintable_l0 s hs s.size k 0 (by omega) (by omega) hk]; rfl
theorem nput_length (l : List Int) (c : Int) : (nput l c).length ≤ l.length + 1 := by
  unfold nput; split <;> simp
theorem up_of {c : Int} (h0 : 0 ≤ c) (h1 : c ≤ 255) (b : Bool) (hb : b = (decide (c ≥ 65) && decide (c ≤ 90))) : (if b = true then (c + 32) % 256 else c) = up c := by
  unfold up
  subst hb
  by_cases h : 65 ≤ c ∧ c ≤ 90
  · rw [if_pos h, if_pos (by simp [h.1, h.2])]; omega
  · rw [if_neg h, if_neg (by simpa using h)]
theorem spec_Norm_j2 (k : Nat) (s : ByteArray) (l : List Int) (i c : Int) (b : Bool) (hl : l.length < 1000) (h0 : 0 ≤ i) (h1 : i < 1000) :
    spec_Norm.j2 (k + 1) s l i c b = spec_Norm.l0 k s (nput l (if b = true then (c + 32) % 256 else c)) (i + 1) := by
  simp only [spec_Norm.j2]
  rw [w64 (x := i + 1) (by omega) (by omega), w64 (x := (l.length : Int) - 1) (by omega) (by omega), if_pos (show l.length < 140737488355328 by omega), if_pos (show l.length < 140737488355328 by omega)]
  have key : ∀ c : Int, (if c = 32 then (if (l.length : Int) = 0 then spec_Norm.l0 k s l (i + 1) else (if 0 ≤ (l.length : Int) - 1 then (if (l.length : Int) - 1 < (l.length : Int) then (if rd l ((l.length : Int) - 1) = 32 then spec_Norm.l0 k s l (i + 1) else spec_Norm.l0 k s (l ++ [c]) (i + 1)) else none) else none)) else spec_Norm.l0 k s (l ++ [c]) (i + 1)) = spec_Norm.l0 k s (nput l c) (i + 1) := by
    intro c
    unfold nput
    by_cases hc : c = 32
    · rw [if_pos hc]
      by_cases hn : l = []
      · rw [if_pos (by simp [hn]), if_pos ⟨hc, .inl hn⟩]
      · have : 0 < l.length := List.length_pos_iff.2 hn
        rw [if_neg (by omega), if_pos (by omega), if_pos (by omega)]
        by_cases hr : rd l ((l.length : Int) - 1) = 32
        · rw [if_pos hr, if_pos ⟨hc, .inr hr⟩]
        · rw [if_neg hr, if_neg (fun x => x.2.elim hn hr)]
    · rw [if_neg hc, if_neg (fun x => hc x.1)]
  cases b
  · exact key c
  · exact key _
theorem impl_Norm_j2 (k : Nat) (s : ByteArray) (l : List Int) (n i c : Int) (b : Bool) (hl : l.length < 1000) (h0 : 0 ≤ i) (h1 : i < 1000) :
    impl_Norm.j2 (k + 1) s l c n i b = impl_Norm.l0 k s (nput l (if b = true then (c + 32) % 256 else c)) n (i + 1) := by
  simp only [impl_Norm.j2]
  rw [w64 (x := i + 1) (by omega) (by omega), w64 (x := (l.length : Int) - 1) (by omega) (by omega), if_pos (show l.length < 140737488355328 by omega), if_pos (show l.length < 140737488355328 by omega)]
  have key : ∀ c : Int, (if c = 32 then (if (l.length : Int) > 0 then (if 0 ≤ (l.length : Int) - 1 then (if (l.length : Int) - 1 < (l.length : Int) then (if rd l ((l.length : Int) - 1) = 32 then impl_Norm.l0 k s l n (i + 1) else impl_Norm.l0 k s (l ++ [c]) n (i + 1)) else none) else none) else impl_Norm.l0 k s l n (i + 1)) else impl_Norm.l0 k s (l ++ [c]) n (i + 1)) = impl_Norm.l0 k s (nput l c) n (i + 1) := by
    intro c
    unfold nput
    by_cases hc : c = 32
    · rw [if_pos hc]
      by_cases hn : l = []
      · rw [if_neg (by simp [hn]), if_pos ⟨hc, .inl hn⟩]
      · have : 0 < l.length := List.length_pos_iff.2 hn
        rw [if_pos (by omega), if_pos (by omega), if_pos (by omega)]
        by_cases hr : rd l ((l.length : Int) - 1) = 32
        · rw [if_pos hr, if_pos ⟨hc, .inr hr⟩]
        · rw [if_neg hr, if_neg (fun x => x.2.elim hn hr)]
    · rw [if_neg hc, if_neg (fun x => hc x.1)]
  cases b
  · exact key c
  · exact key _
theorem spec_Norm_l0 (s : ByteArray) (hs : s.size ≤ 100) : ∀ (d k : Nat) (i : Int) (l : List Int), 0 ≤ i → i + d = s.size → 2 * d < k → l.length ≤ i →
    spec_Norm.l0 k s l i = some (strOfNums (ntrim (nfold l ((bytesOf s).drop i.toNat))))
  | 0, k, i, l, h0, hd, hk, hl => by
    obtain ⟨k, rfl⟩ : ∃ m, k = m + 1 := ⟨k - 1, by omega⟩
    simp only [spec_Norm.l0]
    rw [if_neg (by omega), List.drop_of_length_le (by rw [bytesOf_length]; omega)]
    rw [show nfold l [] = l from rfl]
    unfold ntrim
    by_cases hn : l = []
    · subst hn; simp
    · have : 0 < l.length := List.length_pos_iff.2 hn
      rw [w64 (x := (l.length : Int) - 1) (by omega) (by omega), if_pos (by omega), if_pos (by omega), if_pos (by omega)]
      by_cases hr : rd l ((l.length : Int) - 1) = 32
      · rw [if_pos hr, if_pos (show (l.length : Int) - 1 ≤ (l.length : Int) by omega), if_pos ⟨hn, hr⟩, show ((l.length : Int) - 1).toNat = l.length - 1 by omega]
      · rw [if_neg hr, if_neg (fun x => hr x.2)]
  | d + 1, k, i, l, h0, hd, hk, hl => by
    obtain ⟨k, rfl⟩ : ∃ m, k = m + 2 := ⟨k - 2, by omega⟩
    have hb := bt_range s i
    have hj : ∀ b : Bool, b = (decide (bt s i ≥ 65) && decide (bt s i ≤ 90)) → spec_Norm.j2 (k + 1) s l i (bt s i) b = some (strOfNums (ntrim (nfold l ((bytesOf s).drop i.toNat)))) := by
      intro b hbb
      rw [spec_Norm_j2 k s l i _ b (by omega) h0 (by omega), up_of hb.1 hb.2 b hbb]
      have := nput_length l (up (bt s i))
      rw [spec_Norm_l0 s hs d k (i + 1) _ (by omega) (by omega) (by omega) (by omega), drop_bt s i h0 (by omega)]; rfl
    simp only [spec_Norm.l0]
    rw [if_pos (by omega), if_pos h0]
    by_cases h : bt s i ≥ 65
    · rw [if_pos h]; exact hj _ (by simp [h])
    · rw [if_neg h]; exact hj _ (by simp [h])
theorem son_take (l : List Int) (n : Nat) : (strOfNums l).extract 0 n = strOfNums (l.take n) := by
  apply ba_ext
  rw [ByteArray.data_extract, Array.toList_extract, strOfNums_data, strOfNums_data]
  simp [List.extract]
theorem son_drop (l : List Int) (n : Nat) : (strOfNums l).extract n (strOfNums l).size = strOfNums (l.drop n) := by
  apply ba_ext
  rw [ByteArray.data_extract, Array.toList_extract, strOfNums_data, strOfNums_data, strOfNums_size]
  simp only [List.extract, List.map_drop]
  exact List.take_of_length_le (by simp)
theorem drop_last (l : List Int) (h : 0 < l.length) : l.drop (l.length - 1) = [rd l ((l.length : Int) - 1)] := by
  rw [List.drop_eq_getElem_cons (by omega), List.drop_of_length_le (by omega)]
  congr 1
  unfold rd
  rw [show ((l.length : Int) - 1).toNat = l.length - 1 by omega, List.getD_eq_getElem?_getD, List.getElem?_eq_getElem (by omega)]; rfl
theorem trim_blank (l : List Int) (hl : l.length < 1000) (hr : ∀ x ∈ l, 0 ≤ x ∧ x ≤ 255) : strings_TrimSuffix.f (strOfNums l) (⟨#[32]⟩ : ByteArray) = some (strOfNums (ntrim l)) := by
  have hz : (⟨#[32]⟩ : ByteArray).size = 1 := rfl
  unfold strings_TrimSuffix.f stringslite_TrimSuffix.f stringslite_HasSuffix.f ntrim
  rw [hz]
  by_cases hn : l = []
  · subst hn
    rw [if_neg (show ¬ (((strOfNums []).size : Int) ≥ ((1 : Nat) : Int)) by decide)]; rfl
  · have hp : 0 < l.length := List.length_pos_iff.2 hn
    have hin : rd l ((l.length : Int) - 1) ∈ l := by have h := drop_last l hp; exact List.mem_of_mem_drop (i := l.length - 1) (by rw [h]; simp)
    have hb := hr _ hin
    simp only [strOfNums_size, Int.natCast_one]
    rw [w64 (x := (l.length : Int) - 1) (by omega) (by omega), if_pos (by omega), if_pos (by omega), if_pos (by omega)]
    simp only [Option.bind_some]
    have e1 : (strOfNums l).extract ((l.length : Int) - 1).toNat l.length = strOfNums [rd l ((l.length : Int) - 1)] := by
      rw [← drop_last l hp, ← son_drop, strOfNums_size, show ((l.length : Int) - 1).toNat = l.length - 1 by omega]
    rw [e1]
    have e2 : ((strOfNums [rd l ((l.length : Int) - 1)]).toList == (⟨#[32]⟩ : ByteArray).toList) = decide (rd l ((l.length : Int) - 1) = 32) := by
      rw [Go.Lib.toList_data, Go.Lib.toList_data, strOfNums_data]
      generalize rd l ((l.length : Int) - 1) = x at hb
      have key : ∀ z : Fin 256, (([(z.val : Int)].map fun n => UInt8.ofNat n.toNat) == (⟨#[32]⟩ : ByteArray).data.toList) = decide ((z.val : Int) = 32) := by decide +kernel
      have := key ⟨x.toNat, by omega⟩
      simpa [Int.toNat_of_nonneg hb.1] using this
    rw [e2]
    by_cases h : rd l ((l.length : Int) - 1) = 32
    · rw [decide_eq_true h]
      simp only [if_true, Option.bind_some]
      rw [if_pos (show l ≠ [] ∧ rd l ((l.length : Int) - 1) = 32 from ⟨hn, h⟩), son_take, show ((l.length : Int) - 1).toNat = l.length - 1 by omega, if_pos (show 0 ≤ (l.length : Int) - 1 by omega), if_pos (show (l.length : Int) - 1 ≤ (l.length : Int) by omega)]; rfl
    · rw [decide_eq_false h, if_neg (show ¬ (l ≠ [] ∧ rd l ((l.length : Int) - 1) = 32) from fun x => h x.2)]; rfl
theorem nput_range {l : List Int} {c : Int} (hl : ∀ x ∈ l, 0 ≤ x ∧ x ≤ 255) (hc : 0 ≤ c ∧ c ≤ 255) : ∀ x ∈ nput l c, 0 ≤ x ∧ x ≤ 255 := by
  intro x hx
  unfold nput at hx
  split at hx
  · exact hl x hx
  · rcases List.mem_append.1 hx with h | h
    · exact hl x h
    · rw [List.mem_singleton.1 h]; exact hc
theorem up_range {c : Int} (hc : 0 ≤ c ∧ c ≤ 255) : 0 ≤ up c ∧ up c ≤ 255 := by unfold up; split <;> omega
theorem impl_Norm_l0 (s : ByteArray) (hs : s.size ≤ 100) : ∀ (d k : Nat) (i : Int) (l : List Int), 0 ≤ i → i + d = s.size → 2 * d < k → l.length ≤ i → (∀ x ∈ l, 0 ≤ x ∧ x ≤ 255) →
    impl_Norm.l0 k s l (s.size : Int) i = some (strOfNums (ntrim (nfold l ((bytesOf s).drop i.toNat))))
  | 0, k, i, l, h0, hd, hk, hl, hr => by
    obtain ⟨k, rfl⟩ : ∃ m, k = m + 1 := ⟨k - 1, by omega⟩
    simp only [impl_Norm.l0]
    rw [if_neg (by omega), List.drop_of_length_le (by rw [bytesOf_length]; omega), trim_blank l (by omega) hr]
    rfl
  | d + 1, k, i, l, h0, hd, hk, hl, hr => by
    obtain ⟨k, rfl⟩ : ∃ m, k = m + 2 := ⟨k - 2, by omega⟩
    have hb := bt_range s i
    have hj : ∀ b : Bool, b = (decide (bt s i ≥ 65) && decide (bt s i ≤ 90)) → impl_Norm.j2 (k + 1) s l (bt s i) (s.size : Int) i b = some (strOfNums (ntrim (nfold l ((bytesOf s).drop i.toNat)))) := by
      intro b hbb
      rw [impl_Norm_j2 k s l _ i _ b (by omega) h0 (by omega), up_of hb.1 hb.2 b hbb]
      have := nput_length l (up (bt s i))
      rw [impl_Norm_l0 s hs d k (i + 1) _ (by omega) (by omega) (by omega) (by omega) (nput_range hr (up_range hb)), drop_bt s i h0 (by omega)]; rfl
    simp only [impl_Norm.l0]
    rw [if_pos (by omega), if_pos h0, if_pos (by omega)]
    by_cases h : bt s i ≥ 65
    · rw [if_pos h]; exact hj _ (by simp [h])
    · rw [if_neg h]; exact hj _ (by simp [h])
theorem spec_Norm_f (s : ByteArray) (k : Nat) (hk : 2 * s.size + 2 < k) : spec_Norm.f k s = some (NormP s) := by
  obtain ⟨k, rfl⟩ : ∃ m, k = m + 1 := ⟨k - 1, by omega⟩
  unfold spec_Norm.f NormP NormL
  by_cases h : s.size ≤ 100
  · rw [if_neg (by omega), spec_l02Plain_f s (by omega) _ (by omega)]
    simp only [Option.bind_some, spec_Norm.j0]
    by_cases hp : plainP s = true
    · rw [if_neg (by simp [hp]), if_pos ⟨h, hp⟩, spec_Norm_l0 s h s.size k 0 [] (by omega) (by omega) (by omega) (by simp)]; rfl
    · rw [if_pos (by simp [hp]), if_neg (fun x => hp x.2)]; rfl
  · rw [if_pos (by omega), if_neg (fun x => h x.1)]
    simp only [spec_Norm.j0, if_true]; rfl
theorem impl_Norm_f (s : ByteArray) (k : Nat) (hk : 2 * s.size + 2 < k) : impl_Norm.f k s = some (NormP s) := by
  obtain ⟨k, rfl⟩ : ∃ m, k = m + 1 := ⟨k - 1, by omega⟩
  unfold impl_Norm.f NormP NormL
  by_cases h : s.size ≤ 100
  · rw [if_neg (by omega), impl_isPrintable_f s (by omega) _ (by omega)]
    simp only [Option.bind_some, impl_Norm.j0]
    by_cases hp : plainP s = true
    · rw [if_neg (by simp [hp]), if_pos ⟨h, hp⟩, impl_Norm_l0 s h s.size k 0 [] (by omega) (by omega) (by omega) (by simp) (by simp)]; rfl
    · rw [if_pos (by simp [hp]), if_neg (fun x => hp x.2)]; rfl
  · rw [if_pos (by omega), if_neg (fun x => h x.1)]
    simp only [impl_Norm.j0, if_true]; rfl

/-! NameRight -/
def lowc (c : Int) : Bool := decide (97 ≤ c) && decide (c ≤ 122)
def nch (c : Int) : Bool := lowc c || (decide (48 ≤ c) && decide (c ≤ 57)) || decide (c = 95)
/-- What NameRight says. -/
def NameP (s : ByteArray) : Bool := decide (1 ≤ s.size) && decide (s.size ≤ 20) && lowc (bt s 0) && (bytesOf s).all nch
theorem spec_NameRight_l0 (s : ByteArray) (hs : s.size ≤ 20) : ∀ (d k : Nat) (i : Int), 0 ≤ i → i + d = s.size → d < k →
    spec_NameRight.l0 k s i = some ((decide (i ≠ 0) || decide (s.size = 0) || lowc (bt s 0)) && ((bytesOf s).drop i.toNat).all nch)
  | 0, k, i, h0, hi, hk => by
    obtain ⟨k, rfl⟩ : ∃ q, k = q + 1 := ⟨k - 1, by omega⟩
    rw [spec_NameRight.l0, if_neg (by omega), List.drop_of_length_le (by rw [bytesOf_length]; omega), List.all_nil, Bool.and_true]
    by_cases hz : i = 0
    · rw [decide_eq_true (p := s.size = 0) (by omega)]; simp
    · rw [decide_eq_true (p := i ≠ 0) hz]; rfl
  | d + 1, k, i, h0, hi, hk => by
    obtain ⟨k, rfl⟩ : ∃ q, k = q + 1 := ⟨k - 1, by omega⟩
    have ih := spec_NameRight_l0 s hs d k (i + 1) (by omega) (by omega) (by omega)
    rw [decide_eq_true (p := i + 1 ≠ 0) (by omega), Bool.true_or, Bool.true_or, Bool.true_and] at ih
    rw [spec_NameRight.l0, if_pos (by omega), if_pos h0, drop_bt s i h0 (by omega), List.all_cons, w64 (x := i + 1) (by omega) (by omega), ih, decide_eq_false (p := s.size = 0) (by omega), Bool.or_false]
    have hc := bt_range s i
    generalize hcg : bt s i = c at hc ⊢
    have h00 : i = 0 → lowc (bt s 0) = lowc c := fun e => by rw [← hcg, e]
    unfold nch lowc at *
    by_cases c1 : c ≥ 97
    · rw [if_pos c1, decide_eq_true (p := 97 ≤ c) c1]
      by_cases c2 : c ≤ 122
      · rw [if_pos c2, decide_eq_true c2]
        by_cases hz : i = 0
        · rw [h00 hz, decide_eq_true (p := 97 ≤ c) c1, decide_eq_true c2]; simp
        · rw [decide_eq_true (p := i ≠ 0) hz]; simp
      · rw [if_neg c2, decide_eq_false c2, decide_eq_false (p := c ≤ 57) (by omega), decide_eq_false (p := c = 95) (by omega)]
        by_cases hz : i = 0
        · rw [if_pos hz, h00 hz, decide_eq_false c2, decide_eq_false (p := i ≠ 0) (by omega)]; simp
        · rw [if_neg hz, if_pos (by omega), if_neg (by omega), if_neg (by omega)]; simp
    · rw [if_neg c1, decide_eq_false (p := 97 ≤ c) c1]
      by_cases hz : i = 0
      · rw [if_pos hz, h00 hz, decide_eq_false (p := 97 ≤ c) c1, decide_eq_false (p := i ≠ 0) (by omega)]; simp
      · rw [if_neg hz, decide_eq_true (p := i ≠ 0) hz]
        by_cases c3 : c ≥ 48
        · rw [if_pos c3, decide_eq_true (p := 48 ≤ c) c3]
          by_cases c4 : c ≤ 57
          · rw [if_pos c4, decide_eq_true c4]; simp
          · rw [if_neg c4, decide_eq_false c4]
            by_cases c5 : c = 95
            · rw [if_pos c5, decide_eq_true c5]; simp
            · rw [if_neg c5, decide_eq_false c5]; simp
        · rw [if_neg c3, decide_eq_false (p := 48 ≤ c) c3, if_neg (by omega), decide_eq_false (p := c = 95) (by omega)]; simp
theorem spec_NameRight_f (s : ByteArray) (k : Nat) (hk : 30 ≤ k) : spec_NameRight.f k s = some (NameP s) := by
  obtain ⟨k, rfl⟩ : ∃ q, k = q + 1 := ⟨k - 1, by omega⟩
  unfold spec_NameRight.f NameP
  by_cases h1 : (s.size : Int) < 1
  · rw [if_pos h1, spec_NameRight.j0, if_pos rfl, decide_eq_false (p := 1 ≤ s.size) (by omega)]; rfl
  · rw [if_neg h1, decide_eq_true (p := 1 ≤ s.size) (by omega)]
    by_cases h2 : (s.size : Int) > 20
    · rw [decide_eq_true h2, spec_NameRight.j0, if_pos rfl, decide_eq_false (p := s.size ≤ 20) (by omega)]; rfl
    · rw [decide_eq_false h2, spec_NameRight.j0, if_neg (by simp), decide_eq_true (p := s.size ≤ 20) (by omega), spec_NameRight_l0 s (by omega) s.size k 0 (by omega) (by omega) (by omega), decide_eq_false (p := s.size = 0) (by omega)]
      simp
theorem dw_nil {α : Type} (p : α → Bool) : ∀ l : List α, (∀ x ∈ l, p x = true) → l.dropWhile p = []
  | [], _ => rfl
  | a :: l, h => by
    rw [List.dropWhile_cons, if_pos (h a (by simp))]
    exact dw_nil p l (fun x hx => h x (List.mem_cons_of_mem _ hx))
theorem dw_all {α : Type} (p : α → Bool) : ∀ l : List α, (∀ x ∈ l.dropWhile p, p x = true) → ∀ x ∈ l, p x = true
  | [], _, x, hx => by cases hx
  | a :: l, h, x, hx => by
    rw [List.dropWhile_cons] at h
    by_cases ha : p a = true
    · rw [if_pos ha] at h
      rcases List.mem_cons.1 hx with e | e
      · rw [e]; exact ha
      · exact dw_all p l h x e
    · rw [if_neg ha] at h
      exact absurd (h a (by simp)) ha
theorem trim_nil (l cs : List UInt8) : (Lib.trimS l cs == ([] : List UInt8)) = l.all (cs.contains ·) := by
  have key : Lib.trimS l cs = [] ↔ ∀ x ∈ l, cs.contains x = true := by
    unfold Lib.trimS Lib.trimLeftS Lib.trimRightS
    constructor
    · intro h x hx
      refine dw_all (cs.contains ·) l.reverse (fun y hy => ?_) x (List.mem_reverse.2 hx)
      refine dw_all (cs.contains ·) (l.reverse.dropWhile (cs.contains ·)).reverse (fun z hz => ?_) y (List.mem_reverse.2 hy)
      rw [h] at hz; cases hz
    · intro h
      rw [dw_nil (cs.contains ·) l.reverse (fun x hx => h x (List.mem_reverse.1 hx))]; rfl
  by_cases h : Lib.trimS l cs = []
  · rw [h, List.all_eq_true.2 (key.1 h)]; rfl
  · rw [beq_eq_false_iff_ne.2 h]
    symm
    rw [Bool.eq_false_iff]
    exact fun h2 => h (key.2 (List.all_eq_true.1 h2))
theorem nch_contains (b : UInt8) : ([97, 98, 99, 100, 101, 102, 103, 104, 105, 106, 107, 108, 109, 110, 111, 112, 113, 114, 115, 116, 117, 118, 119, 120, 121, 122, 48, 49, 50, 51, 52, 53, 54, 55, 56, 57, 95] : List UInt8).contains b = nch b.toNat := by
  have key : ∀ z : Fin 256, ([97, 98, 99, 100, 101, 102, 103, 104, 105, 106, 107, 108, 109, 110, 111, 112, 113, 114, 115, 116, 117, 118, 119, 120, 121, 122, 48, 49, 50, 51, 52, 53, 54, 55, 56, 57, 95] : List UInt8).contains (UInt8.ofNat z.val) = nch (z.val : Nat) := by decide +kernel
  have := key ⟨b.toNat, b.toNat_lt⟩
  simpa using this
theorem impl_NameRight_f (s : ByteArray) : impl_NameRight.f s = some (NameP s) := by
  unfold impl_NameRight.f NameP
  by_cases h1 : (s.size : Int) ≥ 1
  · rw [if_pos h1, decide_eq_true (p := 1 ≤ s.size) (by omega)]
    by_cases h2 : (s.size : Int) ≤ 20
    · rw [if_pos h2, decide_eq_true (p := s.size ≤ 20) (by omega), if_pos (by omega)]
      unfold lowc
      by_cases h3 : bt s 0 ≥ 97
      · rw [if_pos h3, decide_eq_true (p := 97 ≤ bt s 0) h3]
        by_cases h4 : bt s 0 ≤ 122
        · rw [if_pos h4, decide_eq_true h4]
          unfold strings_Trim.f
          rw [if_pos ⟨by omega, by decide, by decide⟩]
          simp only [Option.bind_some, Bool.true_and]
          congr 1
          rw [Go.Lib.toList_data]
          show (Lib.trimS s.data.toList _ == []) = _
          rw [trim_nil]
          unfold bytesOf
          rw [List.all_map]
          congr 1
          funext b
          exact nch_contains b
        · rw [if_neg h4, decide_eq_false h4]; rfl
      · rw [if_neg h3, decide_eq_false (p := 97 ≤ bt s 0) h3]; rfl
    · rw [if_neg h2, decide_eq_false (p := s.size ≤ 20) (by omega)]; rfl
  · rw [if_neg h1, decide_eq_false (p := 1 ≤ s.size) (by omega)]; rfl

/-! values -/
/-- Is a text a value. -/
def ValueP (s : ByteArray) : Bool := decide (1 ≤ s.size) && decide (s.size ≤ 40) && ((NormP s).toList != ([] : List UInt8))
theorem spec_l02Value_f (s : ByteArray) (k : Nat) (hk : 100 ≤ k) : spec_l02Value.f k s = some (ValueP s) := by
  unfold spec_l02Value.f ValueP
  by_cases h1 : (s.size : Int) ≥ 1
  · by_cases h2 : (s.size : Int) ≤ 40
    · rw [if_pos h1, if_pos h2, spec_Norm_f s k (by omega), decide_eq_true (p := 1 ≤ s.size) (by omega), decide_eq_true (p := s.size ≤ 40) (by omega)]
      simp
    · rw [if_pos h1, if_neg h2, decide_eq_false (p := s.size ≤ 40) (by omega)]; simp
  · rw [if_neg h1, decide_eq_false (p := 1 ≤ s.size) (by omega)]; simp
theorem impl_isProper_f (s : ByteArray) (k : Nat) (hk : 100 ≤ k) : impl_isProper.f k s = some (ValueP s) := by
  unfold impl_isProper.f ValueP
  by_cases h1 : (s.size : Int) ≥ 1
  · by_cases h2 : (s.size : Int) ≤ 40
    · rw [if_pos h1, if_pos h2, impl_Norm_f s k (by omega), decide_eq_true (p := 1 ≤ s.size) (by omega), decide_eq_true (p := s.size ≤ 40) (by omega)]
      simp
    · rw [if_pos h1, if_neg h2, decide_eq_false (p := s.size ≤ 40) (by omega)]; simp
  · rw [if_neg h1, decide_eq_false (p := 1 ≤ s.size) (by omega)]; simp

/-! a string of a list -/
def sAt (l : List ByteArray) (j : Nat) : ByteArray := l.getD j ByteArray.empty
theorem sAt_size (l : List ByteArray) (hs : ∀ x ∈ l, x.size ≤ 140737488351232) (j : Nat) : (sAt l j).size ≤ 140737488351232 := by
  unfold sAt
  rw [List.getD_eq_getElem?_getD]
  by_cases h : j < l.length
  · rw [List.getElem?_eq_getElem h]; exact hs _ (List.getElem_mem h)
  · rw [List.getElem?_eq_none (by omega)]; decide
theorem rdOf_sAt (l : List ByteArray) (i : Int) : rdOf ByteArray.empty l i = sAt l i.toNat := rfl
theorem sAt_drop (l : List ByteArray) (i : Int) (h0 : 0 ≤ i) (h1 : i < l.length) : l.drop i.toNat = sAt l i.toNat :: l.drop (i + 1).toNat := by
  have hi : i.toNat < l.length := by omega
  rw [List.drop_eq_getElem_cons hi, show (i + 1).toNat = i.toNat + 1 by omega]
  unfold sAt
  rw [List.getD_eq_getElem?_getD, List.getElem?_eq_getElem hi]; rfl

/-! an attribute's values, in order -/
theorem cmp_iff : ∀ (a b : List UInt8), Lib.compareBytes a b ≥ 0 ↔ Op.bytesLess a b = false
  | [], [] => by simp [Lib.compareBytes, Op.bytesLess]
  | [], _ :: _ => by simp [Lib.compareBytes, Op.bytesLess]
  | _ :: _, [] => by simp [Lib.compareBytes, Op.bytesLess]
  | a :: p, b :: q => by
    rw [Lib.compareBytes, Op.bytesLess]
    by_cases h1 : a < b
    · simp [h1]
    · by_cases h2 : b < a
      · have hne : ¬ (a = b) := fun e => by subst e; exact h1 h2
        simp [h1, h2, hne]
      · have he : a = b := UInt8.le_antisymm (UInt8.not_lt.1 h2) (UInt8.not_lt.1 h1)
        subst he
        rw [if_neg h1, if_neg h1, cmp_iff p q]
        simp
theorem cmp_less (a b : List UInt8) : decide (Lib.compareBytes a b ≥ 0) = !(Op.bytesLess a b) := by
  cases h : Op.bytesLess a b with
  | false => rw [decide_eq_true ((cmp_iff a b).2 h)]; rfl
  | true => rw [decide_eq_false (fun h2 => by rw [(cmp_iff a b).1 h2] at h; cases h)]; rfl
/-- A value at a place, behind its forerunner. -/
def valF (l : List ByteArray) (j : Nat) : Bool := ValueP (sAt l j) && (decide (j = 0) || Op.bytesLess (NormP (sAt l (j - 1))).toList (NormP (sAt l j)).toList)
def ValsP (l : List ByteArray) : Bool := (List.range l.length).all (valF l) && (decide (1 ≤ l.length) && decide (l.length ≤ 4))
def AttrP (n : ByteArray) (l : List ByteArray) : Bool := NameP n && ValsP l
theorem impl_byNorm_f (a b : ByteArray) (k : Nat) (ha : 2 * a.size + 2 < k) (hb : 2 * b.size + 2 < k) : impl_byNorm.f k a b = some (Lib.compareBytes (NormP a).toList (NormP b).toList) := by
  unfold impl_byNorm.f strings_Compare.f
  rw [impl_Norm_f a k ha, impl_Norm_f b k hb, Go.Lib.toList_data, Go.Lib.toList_data]; rfl
theorem impl_isAttr_f (n : ByteArray) (l : List ByteArray) (hl : l.length ≤ 140737488351232) (hs : ∀ x ∈ l, x.size ≤ 140737488351232) (k : Nat) (hk : 1125899906842624 + 1 + l.length < k) : impl_isAttr.f k n l = some (AttrP n l) := by
  obtain ⟨k, rfl⟩ : ∃ q, k = q + 1 := ⟨k - 1, by omega⟩
  unfold impl_isAttr.f AttrP
  rw [impl_NameRight_f, Option.bind_some]
  cases NameP n with
  | false => rw [if_neg (by simp), impl_isAttr.j0, if_pos rfl]; rfl
  | true =>
    have hb : impl_between.f (l.length : Int) 1 4 = some (decide (1 ≤ l.length) && decide (l.length ≤ 4)) := by
      unfold impl_between.f
      by_cases h1 : (l.length : Int) ≥ 1
      · rw [if_pos h1, decide_eq_true (p := 1 ≤ l.length) (by omega), Bool.true_and]
        congr 1
        by_cases h4 : l.length ≤ 4
        · rw [decide_eq_true h4, decide_eq_true (by omega)]
        · rw [decide_eq_false h4, decide_eq_false (by omega)]
      · rw [if_neg h1, decide_eq_false (p := 1 ≤ l.length) (by omega)]; rfl
    unfold impl_size_string.f
    rw [if_pos rfl]
    simp only [Option.bind_some]
    rw [hb]
    simp only [Option.bind_some, Bool.true_and]
    unfold ValsP
    cases hc : (decide (1 ≤ l.length) && decide (l.length ≤ 4)) with
    | false => rw [impl_isAttr.j0, Bool.not_false, if_pos rfl, Bool.and_false]
    | true =>
      rw [impl_isAttr.j0, if_neg (by simp), all_loop true (valF l) l.length (by omega) 1125899906842624 (fun k i => impl_isAttr.l0 k l (l.length : Int) i n l) (fun k i hk h0 hi => ?_) (fun k i hk h0 hi => ?_) l.length k 0 (by omega) (by omega) (by omega)]
      · rw [List.range_eq_range']; rfl
      · show impl_isAttr.l0 (k + 1) l (l.length : Int) i n l = if valF l i.toNat = true then impl_isAttr.l0 k l (l.length : Int) (wrap64 (i + 1)) n l else some false
        have h1 := sAt_size l hs i.toNat
        have h2 := sAt_size l hs (i.toNat - 1)
        rw [impl_isAttr.l0, if_pos hi, if_pos h0, if_pos hi, rdOf_sAt, impl_isProper_f _ k (by omega)]
        simp only [Option.bind_some]
        unfold valF
        cases hv : ValueP (sAt l i.toNat) with
        | false => simp
        | true =>
          rw [if_pos rfl]
          by_cases hz : i > 0
          · rw [if_pos hz, w64 (x := i - 1) (by omega) (by omega), if_pos (by omega), if_pos (by omega), rdOf_sAt, show (i - 1).toNat = i.toNat - 1 by omega, impl_byNorm_f _ _ k (by omega) (by omega), decide_eq_false (p := i.toNat = 0) (by omega)]
            simp only [Option.bind_some, Bool.true_and, Bool.false_or]
            have hcl := cmp_less (NormP (sAt l (i.toNat - 1))).toList (NormP (sAt l i.toNat)).toList
            cases hbl : Op.bytesLess (NormP (sAt l (i.toNat - 1))).toList (NormP (sAt l i.toNat)).toList with
            | true =>
              rw [hbl, Bool.not_true] at hcl
              rw [if_neg (of_decide_eq_false hcl), if_pos rfl]
            | false =>
              rw [hbl, Bool.not_false] at hcl
              rw [if_pos (of_decide_eq_true hcl), if_neg (by simp)]
          · rw [if_neg hz, decide_eq_true (p := i.toNat = 0) (by omega)]
            simp
      · show impl_isAttr.l0 (k + 1) l (l.length : Int) i n l = _
        rw [impl_isAttr.l0, if_neg (by omega)]

/-! texts in order, each once -/
theorem bl_lt : ∀ (x y : List UInt8), Op.bytesLess x y = decide (x < y)
  | [], [] => by simp [Op.bytesLess]
  | _ :: _, [] => by simp [Op.bytesLess]
  | [], _ :: _ => by simp [Op.bytesLess]
  | a :: x, b :: y => by
    rw [Op.bytesLess, bl_lt x y]
    simp only [List.cons_lt_cons_iff]
    by_cases h1 : a < b <;> by_cases h2 : a = b <;> by_cases h3 : x < y <;> simp [h1, h2, h3]
theorem lt_tri (a b : List UInt8) : a < b ∨ a = b ∨ b < a := by
  rcases Decidable.em (a < b) with h | h
  · exact .inl h
  · rcases Decidable.em (b < a) with h2 | h2
    · exact .inr (.inr h2)
    · exact .inr (.inl (List.le_antisymm (List.not_lt.1 h2) (List.not_lt.1 h)))
/-- One text before another. -/
def Lt (a b : ByteArray) : Prop := a.toList < b.toList
theorem Lt_iff {a b : ByteArray} : Op.bytesLess a.toList b.toList = true ↔ Lt a b := by rw [bl_lt]; exact decide_eq_true_iff
theorem Lt_irr (a : ByteArray) : ¬ Lt a a := List.lt_irrefl _
theorem Lt_trans {a b c : ByteArray} (h : Lt a b) (h2 : Lt b c) : Lt a c := List.lt_trans h h2
theorem Lt_tri (a b : ByteArray) : Lt a b ∨ a = b ∨ Lt b a := by
  rcases lt_tri a.toList b.toList with h | h | h
  · exact .inl h
  · exact .inr (.inl (ba_inj.1 h))
  · exact .inr (.inr h)
def SS (l : List ByteArray) : Prop := l.Pairwise Lt

/-! values that are new: right, and no two of one norm -/
def newF (l : List ByteArray) (j : Nat) : Bool := ValueP (sAt l j) && !((l.take j).any fun x => decide ((NormP x).toList = (NormP (sAt l j)).toList))
def NewP (l : List ByteArray) : Bool := (List.range l.length).all (newF l) && decide (l.length ≤ 4)
theorem spec_l03In_l0 (l : List ByteArray) (hl : l.length ≤ 140737488351232) (hs : ∀ x ∈ l, x.size ≤ 140737488351232) (t : ByteArray) : ∀ (d k : Nat) (i : Int), 0 ≤ i → i + d = l.length → 1125899906842624 + d < k →
    ∃ r, spec_l03In.l0 k l t i = some r ∧ (r ≥ 0 ↔ ((l.drop i.toNat).any fun x => decide ((NormP x).toList = t.toList)) = true)
  | 0, k, i, h0, hi, hk => by
    obtain ⟨k, rfl⟩ : ∃ q, k = q + 1 := ⟨k - 1, by omega⟩
    rw [spec_l03In.l0, if_neg (by omega), List.drop_of_length_le (by omega)]
    exact ⟨-1, rfl, by simp⟩
  | d + 1, k, i, h0, hi, hk => by
    obtain ⟨k, rfl⟩ : ∃ q, k = q + 1 := ⟨k - 1, by omega⟩
    have h1 := sAt_size l hs i.toNat
    rw [spec_l03In.l0, if_pos (by omega), if_pos h0, rdOf_sAt, spec_Norm_f _ k (by omega), Option.bind_some, sAt_drop l i h0 (by omega), List.any_cons]
    by_cases h : (NormP (sAt l i.toNat)).toList = t.toList
    · rw [if_pos h, decide_eq_true h]
      exact ⟨i, rfl, by simp; omega⟩
    · rw [if_neg h, decide_eq_false h, Bool.false_or, w64 (x := i + 1) (by omega) (by omega)]
      exact spec_l03In_l0 l hl hs t d k (i + 1) (by omega) (by omega) (by omega)
theorem spec_l03New_f (l : List ByteArray) (hl : l.length ≤ 140737488351232) (hs : ∀ x ∈ l, x.size ≤ 140737488351232) (k : Nat) (hk : 1407374883553280 + l.length < k) : spec_l03New.f k l = some (NewP l) := by
  unfold spec_l03New.f NewP
  rw [all_loop (decide (l.length ≤ 4)) (newF l) l.length (by omega) 1407374883553280 (fun k i => spec_l03New.l0 k l i) (fun k i hk h0 hi => ?_) (fun k i hk h0 hi => ?_) l.length k 0 (by omega) (by omega) (by omega)]
  · rw [List.range_eq_range']; rfl
  · show spec_l03New.l0 (k + 1) l i = if newF l i.toNat = true then spec_l03New.l0 k l (wrap64 (i + 1)) else some false
    have h1 := sAt_size l hs i.toNat
    rw [spec_l03New.l0, if_pos hi, if_pos h0, rdOf_sAt, spec_l02Value_f _ k (by omega)]
    simp only [Option.bind_some]
    unfold newF
    cases hv : ValueP (sAt l i.toNat) with
    | false => simp
    | true =>
      have hz : (l.take i.toNat).length ≤ l.length := by rw [List.length_take]; omega
      rw [if_pos rfl, if_pos (by omega), spec_Norm_f _ k (by omega)]
      simp only [Option.bind_some]
      unfold spec_l03In.f
      obtain ⟨r, e, hr⟩ := spec_l03In_l0 (l.take i.toNat) (by omega) (fun x hx => hs x (List.mem_of_mem_take hx)) (NormP (sAt l i.toNat)) (l.take i.toNat).length k 0 (by omega) (by omega) (by omega)
      rw [e]
      simp only [Option.bind_some, Bool.true_and]
      rw [show (l.take i.toNat).drop (0 : Int).toNat = l.take i.toNat from rfl] at hr
      cases hc : ((l.take i.toNat).any fun x => decide ((NormP x).toList = (NormP (sAt l i.toNat)).toList)) with
      | true => rw [if_pos (hr.2 hc)]; rfl
      | false => rw [if_neg (fun h => by rw [hr.1 h] at hc; cases hc)]; rfl
  · show spec_l03New.l0 (k + 1) l i = _
    rw [spec_l03New.l0, if_neg (by omega)]
    congr 1
    by_cases h4 : l.length ≤ 4
    · rw [decide_eq_true h4, decide_eq_true (by omega)]
    · rw [decide_eq_false h4, decide_eq_false (by omega)]
theorem sAt_get (l : List ByteArray) (j : Nat) (h : j < l.length) : sAt l j = l[j] := by
  unfold sAt; rw [List.getD_eq_getElem?_getD, List.getElem?_eq_getElem h]; rfl
/-- Right values, no norm twice, at most four. -/
theorem NewP_iff (l : List ByteArray) : NewP l = true ↔ (∀ x ∈ l, ValueP x = true) ∧ (l.map NormP).Nodup ∧ l.length ≤ 4 := by
  unfold NewP
  rw [Bool.and_eq_true, List.all_eq_true, decide_eq_true_eq]
  constructor
  · rintro ⟨h, h4⟩
    refine ⟨fun x hx => ?_, ?_, h4⟩
    · obtain ⟨j, hj, e⟩ := List.getElem_of_mem hx
      have := h j (List.mem_range.2 hj)
      unfold newF at this
      rw [Bool.and_eq_true, sAt_get l j hj, e] at this
      exact this.1
    · refine List.pairwise_iff_getElem.2 fun i j hi hj hlt e => ?_
      rw [List.length_map] at hi hj
      rw [List.getElem_map, List.getElem_map] at e
      have := h j (List.mem_range.2 hj)
      unfold newF at this
      rw [Bool.and_eq_true, sAt_get l j hj, Bool.not_eq_true'] at this
      have h2 := List.any_eq_false.1 this.2 l[i] (by rw [List.mem_take_iff_getElem]; exact ⟨i, by omega, rfl⟩)
      exact h2 (decide_eq_true (by rw [e]))
  · rintro ⟨hv, hn, h4⟩
    refine ⟨fun j hj => ?_, h4⟩
    rw [List.mem_range] at hj
    unfold newF
    rw [Bool.and_eq_true, sAt_get l j hj, Bool.not_eq_true']
    refine ⟨hv _ (List.getElem_mem hj), List.any_eq_false.2 fun x hx he => ?_⟩
    rw [List.mem_take_iff_getElem] at hx
    obtain ⟨i, hi, rfl⟩ := hx
    have h2 := List.pairwise_iff_getElem.1 hn i j (by rw [List.length_map]; omega) (by rw [List.length_map]; omega) (by omega)
    rw [List.getElem_map, List.getElem_map] at h2
    exact h2 (ba_inj.1 (of_decide_eq_true he))
/-- In rising order: right values, strictly rising norms. -/
theorem ValsP_iff (l : List ByteArray) : ValsP l = true ↔ (∀ x ∈ l, ValueP x = true) ∧ SS (l.map NormP) ∧ 1 ≤ l.length ∧ l.length ≤ 4 := by
  unfold ValsP
  rw [Bool.and_eq_true, Bool.and_eq_true, List.all_eq_true, decide_eq_true_eq, decide_eq_true_eq]
  constructor
  · rintro ⟨h, h1, h4⟩
    have hv : ∀ j (hj : j < l.length), ValueP l[j] = true := fun j hj => by
      have := h j (List.mem_range.2 hj)
      unfold valF at this
      rw [Bool.and_eq_true, sAt_get l j hj] at this
      exact this.1
    have hj : ∀ j, j + 1 < l.length → Lt (NormP (sAt l j)) (NormP (sAt l (j + 1))) := fun j hj => by
      have := h (j + 1) (List.mem_range.2 hj)
      unfold valF at this
      simp only [Bool.and_eq_true, Bool.or_eq_true, decide_eq_true_eq, Nat.add_sub_cancel] at this
      rcases this.2 with e | e
      · omega
      · exact Lt_iff.1 e
    have hij : ∀ d i, i + d + 1 < l.length → Lt (NormP (sAt l i)) (NormP (sAt l (i + d + 1))) := by
      intro d
      induction d with
      | zero => exact fun i hi => hj i hi
      | succ d ih => exact fun i hi => Lt_trans (ih i (by omega)) (hj (i + d + 1) hi)
    refine ⟨fun x hx => ?_, List.pairwise_iff_getElem.2 fun i j hi hj2 hlt => ?_, h1, h4⟩
    · obtain ⟨j, hj, rfl⟩ := List.getElem_of_mem hx
      exact hv j hj
    · rw [List.length_map] at hi hj2
      have := hij (j - i - 1) i (by omega)
      rw [show i + (j - i - 1) + 1 = j by omega, sAt_get l i hi, sAt_get l j hj2] at this
      rw [List.getElem_map, List.getElem_map]
      exact this
  · rintro ⟨hv, hs, h1, h4⟩
    refine ⟨fun j hj => ?_, h1, h4⟩
    rw [List.mem_range] at hj
    unfold valF
    rw [Bool.and_eq_true, sAt_get l j hj, Bool.or_eq_true, decide_eq_true_eq]
    refine ⟨hv _ (List.getElem_mem hj), ?_⟩
    by_cases h0 : j = 0
    · exact .inl h0
    · refine .inr (Lt_iff.2 ?_)
      have h2 := List.pairwise_iff_getElem.1 hs (j - 1) j (by rw [List.length_map]; omega) (by rw [List.length_map]; omega) (by omega)
      rw [List.getElem_map, List.getElem_map] at h2
      rw [sAt_get l (j - 1) (by omega)]
      exact h2
/-- The values in the order of their norms. -/
theorem Vals_sorted (l e : List ByteArray) (hp : e.Perm l) (hs : e.Pairwise fun a b => ¬ Lt (NormP b) (NormP a)) (h1 : 1 ≤ l.length) : ValsP e = NewP l := by
  rw [Bool.eq_iff_iff, ValsP_iff, NewP_iff]
  have hlen := hp.length_eq
  have hpm := hp.map NormP
  constructor
  · rintro ⟨hv, hss, _, h4⟩
    exact ⟨fun x hx => hv x (hp.mem_iff.2 hx), hpm.nodup_iff.1 (hss.imp fun {a b} hab ee => by subst ee; exact Lt_irr _ hab), by omega⟩
  · rintro ⟨hv, hn, h4⟩
    refine ⟨fun x hx => hv x (hp.mem_iff.1 hx), ?_, by omega, by omega⟩
    have hn2 : (e.map NormP).Nodup := hpm.nodup_iff.2 hn
    refine List.pairwise_iff_getElem.2 fun i j hi hj hlt => ?_
    have h2 := List.pairwise_iff_getElem.1 hn2 i j hi hj hlt
    rw [List.length_map] at hi hj
    have h3 := List.pairwise_iff_getElem.1 hs i j hi hj hlt
    rw [List.getElem_map, List.getElem_map] at h2 ⊢
    rcases Lt_tri (NormP e[i]) (NormP e[j]) with h | h | h
    · exact h
    · exact absurd h h2
    · exact absurd h h3

/-! sortedValues: the sort under byNorm -/
theorem impl_Norm_all (s : ByteArray) (k : Nat) (hk : 300 ≤ k) : impl_Norm.f k s = some (NormP s) := by
  by_cases h : s.size ≤ 100
  · exact impl_Norm_f s k (by omega)
  · obtain ⟨k, rfl⟩ : ∃ q, k = q + 1 := ⟨k - 1, by omega⟩
    unfold impl_Norm.f NormP NormL
    rw [if_pos (by omega), impl_Norm.j0, if_pos rfl, if_neg (fun h2 => h h2.1), son_nil]
theorem impl_byNorm_all (a b : ByteArray) (k : Nat) (hk : 300 ≤ k) : impl_byNorm.f k a b = some (Lib.compareBytes (NormP a).toList (NormP b).toList) := by
  unfold impl_byNorm.f strings_Compare.f
  rw [impl_Norm_all a k hk, impl_Norm_all b k hk, Go.Lib.toList_data, Go.Lib.toList_data]; rfl
def nB (x : List UInt8) : List UInt8 := (NormP ⟨x.toArray⟩).toList
theorem lt_cf (k : Nat) (hk : 300 ≤ k) (x y : List UInt8) : Go.Proofs.ltOf (impl_sortedValues.cf k) x y = decide (nB x < nB y) := by
  have e : impl_sortedValues.cf k x y = Lib.compareBytes (nB x) (nB y) := by
    unfold impl_sortedValues.cf
    rw [impl_byNorm_all _ _ k hk]; rfl
  unfold Go.Proofs.ltOf
  rw [e, ← bl_lt]
  have h := cmp_less (nB x) (nB y)
  cases hb : Op.bytesLess (nB x) (nB y) with
  | true =>
    rw [hb] at h
    exact decide_eq_true (by have := of_decide_eq_false h; omega)
  | false =>
    rw [hb] at h
    exact decide_eq_false (by have := of_decide_eq_true h; omega)
theorem sorted_ok (k : Nat) (hk : 300 ≤ k) : impl_sortedValues.ok k := by
  refine ⟨fun x y => ?_, ?_⟩
  · unfold impl_sortedValues.cf
    rw [impl_byNorm_all _ _ k hk]; rfl
  · constructor
    · intro x; rw [lt_cf k hk]; exact decide_eq_false (List.lt_irrefl _)
    · intro x y z h1 h2
      rw [lt_cf k hk] at *
      exact decide_eq_true (List.lt_trans (of_decide_eq_true h1) (of_decide_eq_true h2))
    · intro x y z h1 h2
      rw [lt_cf k hk] at *
      have h3 := List.not_lt.1 (of_decide_eq_false h1)
      have h4 := List.not_lt.1 (of_decide_eq_false h2)
      exact decide_eq_false (List.not_lt.2 (List.le_trans h4 h3))
theorem srtB_spec (k : Nat) (hk : 300 ≤ k) (zs : List (List UInt8)) : (impl_sortedValues.srtB k zs).Perm zs ∧ (impl_sortedValues.srtB k zs).Pairwise fun a b => ¬ nB b < nB a := by
  have h := Go.Sort.pdq_sorts (Go.Proofs.ltOf (impl_sortedValues.cf k)) (sorted_ok k hk).2 zs.toArray 0 zs.toArray.size (Lib.bitLen zs.length) true true (Nat.zero_le _) (Nat.le_refl _) (Or.inl rfl)
  rw [List.size_toArray] at h
  obtain ⟨⟨h1, _, h3⟩, h4⟩ := h
  replace h1 := h1.trans (show zs.toArray.size = zs.length by simp)
  unfold impl_sortedValues.srtB
  generalize Go.Sort.pdq (Go.Proofs.ltOf (impl_sortedValues.cf k)) zs.toArray 0 zs.length (Lib.bitLen zs.length) true true = d at h1 h3 h4 ⊢
  constructor
  · have e1 : d.extract 0 zs.length = d := by rw [← h1]; simp
    have e2 : zs.toArray.extract 0 zs.length = zs.toArray := by simp
    rw [e1, e2] at h3
    simpa using h3
  · refine List.pairwise_iff_getElem.2 fun i j hi hj hlt => ?_
    rw [Array.length_toList] at hi hj
    have h5 := h4 i j (Nat.zero_le _) hlt (by omega)
    rw [lt_cf k hk, getElem!_pos d j hj, getElem!_pos d i hi] at h5
    rw [Array.getElem_toList, Array.getElem_toList]
    exact of_decide_eq_false h5
theorem srt_spec (k : Nat) (hk : 300 ≤ k) (l : List ByteArray) : (impl_sortedValues.srt k l).Perm l ∧ (impl_sortedValues.srt k l).Pairwise fun a b => ¬ Lt (NormP b) (NormP a) := by
  obtain ⟨h1, h2⟩ := srtB_spec k hk (l.map (·.data.toList))
  unfold impl_sortedValues.srt
  constructor
  · have h3 := h1.map fun b : List UInt8 => (⟨b.toArray⟩ : ByteArray)
    rw [List.map_map] at h3
    have e : ((fun b : List UInt8 => (⟨b.toArray⟩ : ByteArray)) ∘ fun x : ByteArray => x.data.toList) = id := by
      funext x; rfl
    rw [e, List.map_id] at h3
    exact h3
  · rw [List.pairwise_map]
    exact h2
theorem sortedValues_f (l : List ByteArray) (hl : l.length ≤ 1048576) (hs : ∀ x ∈ l, x.size ≤ 140737488351232) (k : Nat) (hk : 1125899906842625 + 1048576 < k) : ∃ e, impl_sortedValues.f k l = some (e, NewP l) := by
  unfold impl_sortedValues.f
  rw [if_pos (show 300 ≤ k by omega)]
  unfold impl_sortedValues.g slices_Clone_string_string.f
  simp only [Option.bind_some, List.length_nil, List.nil_append]
  rw [if_pos (by omega), Option.bind_some]
  by_cases h0 : l.length = 0
  · rw [if_pos h0]
    obtain rfl := List.length_eq_zero_iff.1 h0
    exact ⟨[], rfl⟩
  · rw [if_neg h0, if_pos (by omega)]
    obtain ⟨h1, h2⟩ := srt_spec k (by omega) l
    have hlen := h1.length_eq
    rw [impl_isAttr_f _ _ (by omega) (fun x hx => hs x (h1.mem_iff.1 hx)) k (by omega), Option.bind_some]
    refine ⟨impl_sortedValues.srt k l, ?_⟩
    unfold AttrP
    rw [Vals_sorted l _ h1 h2 (by omega), show NameP (⟨#[97]⟩ : ByteArray) = true by decide +kernel, Bool.true_and]

/-! what is weighed grows no lighter -/
theorem le_loop (n : Nat) (hn : (n : Int) ≤ 4611686018427387904) (P : Nat → Prop) (g : Nat → Int → Int → Option Int)
    (step : ∀ (k : Nat) (a i r : Int), 0 ≤ a → a ≤ 1048576 → 0 ≤ i → i < n → g (k + 1) a i = some r → r = -1 ∨ ∃ a', 0 ≤ a' ∧ a' ≤ a ∧ P i.toNat ∧ g k a' (wrap64 (i + 1)) = some r)
    (fin : ∀ (k : Nat) (a i r : Int), (n : Int) ≤ i → g (k + 1) a i = some r → r = a) (zero : ∀ a i, g 0 a i = none) :
    ∀ (k : Nat) (a i r : Int), 0 ≤ a → a ≤ 1048576 → 0 ≤ i → i ≤ n → g k a i = some r → r = -1 ∨ (0 ≤ r ∧ r ≤ a ∧ ∀ j, i.toNat ≤ j → j < n → P j)
  | 0, a, i, r, h0, h1, hi, hn2, h => by rw [zero] at h; cases h
  | k + 1, a, i, r, h0, h1, hi, hn2, h => by
    by_cases hlt : i < (n : Int)
    · rcases step k a i r h0 h1 hi hlt h with e | ⟨a', h2, h3, hP, h4⟩
      · exact .inl e
      · rw [w64 (x := i + 1) (by omega) (by omega)] at h4
        rcases le_loop n hn P g step fin zero k a' (i + 1) r h2 (by omega) (by omega) (by omega) h4 with e | ⟨h5, h6, h7⟩
        · exact .inl e
        · refine .inr ⟨h5, by omega, fun j hj hjn => ?_⟩
          by_cases e : j = i.toNat
          · rw [e]; exact hP
          · exact h7 j (by omega) hjn
    · have e := fin k a i r (by omega) h
      exact .inr ⟨by omega, by omega, fun j hj hjn => by omega⟩
theorem szText_le {a : Int} {s : ByteArray} (h0 : 0 ≤ a) (h1 : a ≤ 1048576) (hs : s.size ≤ 140737488351232) : wrap64 (a - (s.size : Int)) = a - (s.size : Int) := w64 (by omega) (by omega)
theorem laws_szStringS_le (l : List ByteArray) (hl : l.length ≤ 140737488351232) (hs : ∀ x ∈ l, x.size ≤ 140737488351232) (k : Nat) (a r : Int) (h0 : 0 ≤ a) (h1 : a ≤ 1048576) (h : laws_szStringS.f k l a = some r) : r = -1 ∨ (0 ≤ r ∧ r ≤ a ∧ (l.length : Int) ≤ a) := by
  unfold laws_szStringS.f at h
  rw [w64 (x := a - (l.length : Int)) (by omega) (by omega)] at h
  split at h
  · exact .inl (Option.some.inj h).symm
  · have := le_loop l.length (by omega) (fun _ => True) (fun k a i => laws_szStringS.l0 k l a i) (fun k a i r h0 h1 hi hlt h => by
      have h : laws_szStringS.l0 (k + 1) l a i = some r := h
      have hz := sAt_size l hs i.toNat
      rw [laws_szStringS.l0, if_pos hlt, if_pos hi, rdOf_sAt, szText_le h0 h1 hz] at h
      split at h
      · exact .inl (Option.some.inj h).symm
      · exact .inr ⟨_, by omega, by omega, trivial, h⟩) (fun k a i r hi h => by
      have h : laws_szStringS.l0 (k + 1) l a i = some r := h
      rw [laws_szStringS.l0, if_neg (by omega)] at h
      exact (Option.some.inj h).symm) (fun _ _ => rfl) k _ 0 r (by omega) (by omega) (by omega) (by omega) h
    rcases this with e | ⟨e1, e2, _⟩
    · exact .inl e
    · exact .inr ⟨e1, by omega, by omega⟩

theorem between_13 (a : Int) : impl_between.f a 1 3 = some (decide (1 ≤ a) && decide (a ≤ 3)) := by
  unfold impl_between.f
  by_cases h : a ≥ 1
  · rw [if_pos h, decide_eq_true (p := 1 ≤ a) h, Bool.true_and]
  · rw [if_neg h, decide_eq_false (p := 1 ≤ a) h]; rfl
theorem is_13 (a : Int) : spec_l02Is.f a 1 3 = some (decide (1 ≤ a) && decide (a ≤ 3)) := by
  unfold spec_l02Is.f
  by_cases h : a ≥ 1
  · rw [if_pos h, decide_eq_true (p := 1 ≤ a) h, Bool.true_and]
  · rw [if_neg h, decide_eq_false (p := 1 ≤ a) h]; rfl
def ModP (a : Int) (n : ByteArray) (l : List ByteArray) : Bool := (decide (1 ≤ a) && decide (a ≤ 3)) && NameP n && NewP l && (decide (0 < l.length) || decide (a = 3))
theorem spec_ModRight_f (a : Int) (n : ByteArray) (l : List ByteArray) (hl : l.length ≤ 1048576) (hs : ∀ x ∈ l, x.size ≤ 140737488351232) (k : Nat) (hk : 1407374883553280 + 1048576 < k) : spec_ModRight.f k a n l = some (ModP a n l) := by
  unfold spec_ModRight.f ModP
  rw [is_13, Option.bind_some, spec_NameRight_f n k (by omega), spec_l03New_f l (by omega) hs k (by omega)]
  cases (decide (1 ≤ a) && decide (a ≤ 3)) with
  | false => simp
  | true =>
    rw [if_pos rfl, Option.bind_some]
    cases NameP n with
    | false => simp
    | true =>
      rw [if_pos rfl, Option.bind_some]
      cases NewP l with
      | false => simp
      | true =>
        rw [if_pos rfl]
        by_cases h : (l.length : Int) > 0
        · rw [if_pos h, decide_eq_true (p := 0 < l.length) (by omega)]; simp
        · rw [if_neg h, decide_eq_false (p := 0 < l.length) (by omega)]; simp; rfl
theorem impl_ModRight_f (a : Int) (n : ByteArray) (l : List ByteArray) (hl : l.length ≤ 1048576) (hs : ∀ x ∈ l, x.size ≤ 140737488351232) (k : Nat) (hk : 1407374883553280 + 1048576 < k) : impl_ModRight.f k a n l = some (ModP a n l) := by
  unfold impl_ModRight.f ModP
  obtain ⟨e, he⟩ := sortedValues_f l hl hs k (by omega)
  rw [he, Option.bind_some, between_13, Option.bind_some, impl_NameRight_f n]
  cases (decide (1 ≤ a) && decide (a ≤ 3)) with
  | false => simp
  | true =>
    rw [if_pos rfl, Option.bind_some]
    cases NameP n with
    | false => simp
    | true =>
      rw [if_pos rfl]
      cases NewP l with
      | false => simp
      | true =>
        rw [if_pos rfl]
        by_cases h : a = 3
        · rw [if_pos h, decide_eq_true (p := a = 3) h]; simp
        · rw [if_neg h, decide_eq_false (p := a = 3) h]
          by_cases h2 : (l.length : Int) > 0
          · rw [decide_eq_true h2, decide_eq_true (p := 0 < l.length) (by omega)]; rfl
          · rw [decide_eq_false h2, decide_eq_false (p := 0 < l.length) (by omega)]; rfl
theorem FnExactModRight : laws_FnExactModRight.Pure := by
  intro a n l ha hn ⟨hl, hs⟩
  obtain ⟨K, hK⟩ : ∃ K : Nat, K = 1152921504606846976 := ⟨_, rfl⟩
  refine ⟨K, ?_⟩
  unfold laws_FnExactModRight.f laws_szMod.f
  rw [w64 (x := 1048576 - (n.size : Int)) (by omega) (by omega)]
  by_cases h0 : (1048576 : Int) - (n.size : Int) < 0
  · rw [if_pos h0]; rfl
  rw [if_neg h0]
  obtain ⟨r, e⟩ := laws_szStringS_f l (by omega) (1048576 - (n.size : Int)) K (by omega)
  have hle := laws_szStringS_le l (by omega) hs K (1048576 - (n.size : Int)) r (by omega) (by omega) e
  rw [e, Option.bind_some]
  by_cases hr : r < 0
  · rw [if_pos hr]; rfl
  rw [if_neg hr, Option.bind_some, if_neg hr]
  have hl2 : l.length ≤ 1048576 := by omega
  unfold laws_toMod.f
  rw [laws_toStringS_f l (by omega) K (by omega)]
  simp only [Option.bind_some]
  rw [spec_ModRight_f a n l hl2 hs K (by omega), Option.bind_some, impl_ModRight_f a n l hl2 hs K (by omega), Option.bind_some]
  unfold laws_eqMod.f
  rw [laws_eqStringS_f l (by omega) K (by omega)]
  simp

end Go.Proofs.YtgkjlfimjnhbbaaDoor.Pure
