/- The law FnExactFilterAttrs answers true at every list of nodes: the program's FilterAttrs gives what the reference's gives, in memory of its own. No condition. -/
import Derived.Test.YtgkjlfimjnhbbaaDoorQFnExactFilterAttrsx10
import Derived.Laws.Bits64
import Derived.Lib.Strings
namespace Go.Proofs.YtgkjlfimjnhbbaaDoor.Pure
open Go.RowKit Go.Proofs.YtgkjlfimjnhbbaaDoor.PFnExactFilterAttrs Go.Proofs.YtgkjlfimjnhbbaaDoorW.PrintWords Go.Proofs.YtgkjlfimjnhbbaaDoorW.PrintLast
set_option linter.unusedVariables false
set_option linter.unusedSimpArgs false

/-! plain lemmas -/
theorem w64 {x : Int} (h0 : -9223372036854775808 ≤ x) (h1 : x ≤ 9223372036854775807) : wrap64 x = x := by unfold wrap64; omega
theorem ba_append_size (a b : ByteArray) : (a ++ b).size = a.size + b.size := by simp
theorem ba_ext {a b : ByteArray} (h : a.data.toList = b.data.toList) : a = b := ByteArray.ext (Array.toList_inj.1 h)
theorem ba_inj {a b : ByteArray} : a.toList = b.toList ↔ a = b :=
  ⟨fun h => ba_ext (by rwa [Go.Lib.toList_data, Go.Lib.toList_data] at h), fun h => by rw [h]⟩
theorem drop_bt (s : ByteArray) (i : Int) (h0 : 0 ≤ i) (h1 : i < s.size) : (bytesOf s).drop i.toNat = bt s i :: (bytesOf s).drop (i + 1).toNat := by
  have hl : i.toNat < (bytesOf s).length := by rw [bytesOf_length]; omega
  rw [List.drop_eq_getElem_cons hl, ← rd_bytesOf, show (i + 1).toNat = i.toNat + 1 by omega]
  congr 1
  unfold rd
  rw [List.getD_eq_getElem?_getD, List.getElem?_eq_getElem hl]; rfl

/-! loops that go over a row once -/
theorem some_loop {ρ : Type} (n : Nat) (hn : (n : Int) ≤ 4611686018427387904) (K : Nat) (g : Nat → Int → Int → Option ρ)
    (step : ∀ (k : Nat) (a i : Int), K ≤ k → 0 ≤ i → i < n → (∃ r, g (k + 1) a i = some r) ∨ ∃ a', g (k + 1) a i = g k a' (wrap64 (i + 1)))
    (fin : ∀ (k : Nat) (a i : Int), K ≤ k → 0 ≤ i → (n : Int) ≤ i → ∃ r, g (k + 1) a i = some r) :
    ∀ (d k : Nat) (a i : Int), 0 ≤ i → i + d = n → K + d < k → ∃ r, g k a i = some r
  | 0, k, a, i, h0, hi, hk => by
    obtain ⟨k, rfl⟩ : ∃ q, k = q + 1 := ⟨k - 1, by omega⟩
    exact fin k a i (by omega) h0 (by omega)
  | d + 1, k, a, i, h0, hi, hk => by
    obtain ⟨k, rfl⟩ : ∃ q, k = q + 1 := ⟨k - 1, by omega⟩
    rcases step k a i (by omega) h0 (by omega) with h | ⟨a', e⟩
    · exact h
    · rw [e, w64 (x := i + 1) (by omega) (by omega)]
      exact some_loop n hn K g step fin d k a' (i + 1) (by omega) (by omega) (by omega)
theorem skip_loop {ρ : Type} (r : ρ) (n : Nat) (hn : (n : Int) ≤ 4611686018427387904) (K : Nat) (g : Nat → Int → Option ρ)
    (step : ∀ (k : Nat) (i : Int), K ≤ k → 0 ≤ i → i < n → g (k + 1) i = g k (wrap64 (i + 1)))
    (fin : ∀ (k : Nat) (i : Int), K ≤ k → 0 ≤ i → (n : Int) ≤ i → g (k + 1) i = some r) :
    ∀ (d k : Nat) (i : Int), 0 ≤ i → i + d = n → K + d < k → g k i = some r
  | 0, k, i, h0, hi, hk => by
    obtain ⟨k, rfl⟩ : ∃ q, k = q + 1 := ⟨k - 1, by omega⟩
    exact fin k i (by omega) h0 (by omega)
  | d + 1, k, i, h0, hi, hk => by
    obtain ⟨k, rfl⟩ : ∃ q, k = q + 1 := ⟨k - 1, by omega⟩
    rw [step k i (by omega) h0 (by omega), w64 (x := i + 1) (by omega) (by omega)]
    exact skip_loop r n hn K g step fin d k (i + 1) (by omega) (by omega) (by omega)
theorem copy_loop {β : Type} (n : Nat) (hn : (n : Int) ≤ 4611686018427387904) (src : Nat → β) (K : Nat) (g : Nat → List β → Int → Option (List β))
    (step : ∀ (k : Nat) (x : List β) (i : Int), K ≤ k → 0 ≤ i → i < n → x.length = n → g (k + 1) x i = g k (x.set i.toNat (src i.toNat)) (wrap64 (i + 1)))
    (fin : ∀ (k : Nat) (x : List β) (i : Int), (n : Int) ≤ i → g (k + 1) x i = some x) :
    ∀ (d k : Nat) (x : List β) (i : Int), 0 ≤ i → i + d = n → K + d < k → x.length = n → g k x i = some (x.take i.toNat ++ (List.range' i.toNat d).map src)
  | 0, k, x, i, h0, hi, hk, hx => by
    obtain ⟨k, rfl⟩ : ∃ q, k = q + 1 := ⟨k - 1, by omega⟩
    rw [fin k x i (by omega), List.take_of_length_le (by omega)]
    simp
  | d + 1, k, x, i, h0, hi, hk, hx => by
    obtain ⟨k, rfl⟩ : ∃ q, k = q + 1 := ⟨k - 1, by omega⟩
    rw [step k x i (by omega) h0 (by omega) hx, w64 (x := i + 1) (by omega) (by omega),
      copy_loop n hn src K g step fin d k _ (i + 1) (by omega) (by omega) (by omega) (by rw [List.length_set]; exact hx)]
    congr 1
    rw [show (i + 1).toNat = i.toNat + 1 by omega, List.range'_succ, List.map_cons, List.take_succ_eq_append_getElem (by rw [List.length_set]; omega), List.getElem_set_self, List.take_set_of_le (by omega), List.append_assoc]
    rfl
theorem copy_all {β : Type} (n : Nat) (hn : (n : Int) ≤ 4611686018427387904) (src : Nat → β) (K : Nat) (g : Nat → List β → Int → Option (List β)) (z : β)
    (step : ∀ (k : Nat) (x : List β) (i : Int), K ≤ k → 0 ≤ i → i < n → x.length = n → g (k + 1) x i = g k (x.set i.toNat (src i.toNat)) (wrap64 (i + 1)))
    (fin : ∀ (k : Nat) (x : List β) (i : Int), (n : Int) ≤ i → g (k + 1) x i = some x) (k : Nat) (hk : K + n < k) :
    g k (List.replicate n z) 0 = some ((List.range n).map src) := by
  rw [copy_loop n hn src K g step fin n k _ 0 (by omega) (by omega) hk (by simp)]
  simp [List.range_eq_range']
theorem range_map_getD {α β : Type} (l : List α) (z : α) (f : α → β) : (List.range l.length).map (fun j => f (l.getD j z)) = l.map f := by
  apply List.ext_getElem
  · simp
  · intro i h1 h2
    simp only [List.getElem_map, List.getElem_range]
    rw [List.getD_eq_getElem?_getD, List.getElem?_eq_getElem (by simpa using h1)]
    rfl
def cvNode (x : S94) : S97 := ⟨x.f0, x.f1, x.f2, x.f3⟩
theorem laws_szNodeS_f (l : List S94) (hl : (l.length : Int) ≤ 4611686018427387904) (a : Int) (k : Nat) (hk : l.length < k) : ∃ r, laws_szNodeS.f k l a = some r := by
  unfold laws_szNodeS.f
  split
  · exact ⟨_, rfl⟩
  · refine some_loop l.length hl 0 (fun k a i => laws_szNodeS.l0 k l a i) (fun k a i _ h0 hi => ?_) (fun k a i _ h0 hi => ?_) l.length k _ 0 (by omega) (by omega) (by omega)
    · show (∃ r, laws_szNodeS.l0 (k + 1) l a i = some r) ∨ ∃ a', laws_szNodeS.l0 (k + 1) l a i = laws_szNodeS.l0 k l a' (wrap64 (i + 1))
      rw [laws_szNodeS.l0, if_pos hi, if_pos h0]
      unfold laws_szNode.f
      repeat' split
      all_goals simp only [Option.bind_some]
      all_goals (try split)
      all_goals first | exact .inl ⟨_, rfl⟩ | exact .inr ⟨_, rfl⟩
    · show ∃ r, laws_szNodeS.l0 (k + 1) l a i = some r
      rw [laws_szNodeS.l0, if_neg (by omega)]
      exact ⟨_, rfl⟩
theorem laws_toNodeS_f (l : List S94) (hl : l.length ≤ 5864062014805) (k : Nat) (hk : l.length < k) : laws_toNodeS.f k l = some (l.map cvNode) := by
  unfold laws_toNodeS.f
  rw [if_pos (by omega), if_pos (by omega), show ((l.length : Int)).toNat = l.length from rfl,
    copy_all l.length (by omega) (fun j => cvNode (l.getD j z94)) 0 (fun k x i => laws_toNodeS.l0 k l x i) z97 (fun k x i _ h0 hi hx => ?_) (fun k x i hi => ?_) k (by omega), range_map_getD]
  · show laws_toNodeS.l0 (k + 1) l x i = _
    rw [laws_toNodeS.l0, if_pos hi, if_pos h0]
    unfold laws_toNode.f
    simp only [Option.bind_some]
    rw [if_pos (by omega)]
    rfl
  · show laws_toNodeS.l0 (k + 1) l x i = _
    rw [laws_toNodeS.l0, if_neg (by omega)]
theorem laws_eqNodeS_f (l : List S97) (hl : (l.length : Int) ≤ 4611686018427387904) (k : Nat) (hk : l.length < k) : laws_eqNodeS.f k l l = some true := by
  unfold laws_eqNodeS.f
  rw [if_pos rfl]
  refine skip_loop true l.length hl 0 (fun k i => laws_eqNodeS.l0 k l l i) (fun k i _ h0 hi => ?_) (fun k i _ h0 hi => ?_) l.length k 0 (by omega) (by omega) (by omega)
  · show laws_eqNodeS.l0 (k + 1) l l i = laws_eqNodeS.l0 k l l (wrap64 (i + 1))
    rw [laws_eqNodeS.l0, if_pos hi, if_pos h0, if_pos hi]
    unfold laws_eqNode.f
    rw [if_pos rfl, if_pos rfl, if_pos rfl, if_pos rfl]
    simp
  · show laws_eqNodeS.l0 (k + 1) l l i = _
    rw [laws_eqNodeS.l0, if_neg (by omega)]

/-! Norm -/
/-- A capital as a small letter. -/
def up (c : Int) : Int := if 65 ≤ c ∧ c ≤ 90 then c + 32 else c
/-- A byte put behind what is there: no blank at the begin, none behind another. -/
def nput (l : List Int) (c : Int) : List Int := if c = 32 ∧ (l = [] ∨ rd l ((l.length : Int) - 1) = 32) then l else l ++ [c]
def nfold (l cs : List Int) : List Int := cs.foldl (fun l c => nput l (up c)) l
def ntrim (l : List Int) : List Int := if l ≠ [] ∧ rd l ((l.length : Int) - 1) = 32 then l.take (l.length - 1) else l
def prt (c : Int) : Bool := decide (32 ≤ c) && decide (c ≤ 126)
theorem prt_lo {c : Int} (h : c < 32) : prt c = false := by unfold prt; rw [decide_eq_false (by omega)]; rfl
theorem prt_hi {c : Int} (h : c > 126) : prt c = false := by unfold prt; rw [decide_eq_false (p := c ≤ 126) (by omega)]; simp
def plainP (s : ByteArray) : Bool := (bytesOf s).all prt
def NormL (s : ByteArray) : List Int := if s.size ≤ 100 ∧ plainP s = true then ntrim (nfold [] (bytesOf s)) else []
def NormP (s : ByteArray) : ByteArray := strOfNums (NormL s)
theorem spec_l02Plain_l0 (s : ByteArray) (hs : s.size ≤ 4611686018427387904) : ∀ (d k : Nat) (i : Int), 0 ≤ i → i + d = s.size → d < k →
    spec_l02Plain.l0 k s i = some (((bytesOf s).drop i.toNat).all prt)
  | 0, k, i, h0, hd, hk => by
    obtain ⟨k, rfl⟩ : ∃ m, k = m + 1 := ⟨k - 1, by omega⟩
    simp only [spec_l02Plain.l0]
    rw [if_neg (by omega), List.drop_of_length_le (by rw [bytesOf_length]; omega)]; rfl
  | d + 1, k, i, h0, hd, hk => by
    obtain ⟨k, rfl⟩ : ∃ m, k = m + 1 := ⟨k - 1, by omega⟩
    simp only [spec_l02Plain.l0]
    rw [if_pos (by omega), if_pos h0, drop_bt s i h0 (by omega), List.all_cons]
    by_cases h1 : bt s i < 32
    · rw [if_pos h1, show prt (bt s i) = false from prt_lo h1]; rfl
    · rw [if_neg h1]
      by_cases h2 : bt s i > 126
      · rw [if_pos h2, show prt (bt s i) = false from prt_hi h2]; rfl
      · rw [if_neg h2, w64 (by omega) (by omega), spec_l02Plain_l0 s hs d k (i + 1) (by omega) (by omega) (by omega)]
        simp [prt, show 32 ≤ bt s i by omega, show bt s i ≤ 126 by omega]
theorem spec_l02Plain_f (s : ByteArray) (hs : s.size ≤ 4611686018427387904) (k : Nat) (hk : s.size < k) : spec_l02Plain.f k s = some (plainP s) := by
  unfold spec_l02Plain.f
  rw [spec_l02Plain_l0 s hs s.size k 0 (by omega) (by omega) hk]; rfl
theorem impl_isPrintable_l0 (s : ByteArray) (hs : s.size ≤ 4611686018427387904) : ∀ (d k : Nat) (i : Int), 0 ≤ i → i + d = s.size → d < k →
    impl_isPrintable.l0 k s (s.size : Int) i = some (((bytesOf s).drop i.toNat).all prt)
  | 0, k, i, h0, hd, hk => by
    obtain ⟨k, rfl⟩ : ∃ m, k = m + 1 := ⟨k - 1, by omega⟩
    simp only [impl_isPrintable.l0]
    rw [if_neg (by omega), List.drop_of_length_le (by rw [bytesOf_length]; omega)]; rfl
  | d + 1, k, i, h0, hd, hk => by
    obtain ⟨k, rfl⟩ : ∃ m, k = m + 1 := ⟨k - 1, by omega⟩
    simp only [impl_isPrintable.l0]
    rw [if_pos (by omega), if_pos h0, if_pos (by omega), drop_bt s i h0 (by omega), List.all_cons]
    by_cases h1 : bt s i < 32
    · rw [if_pos h1, show prt (bt s i) = false from prt_lo h1]; rfl
    · rw [if_neg h1]
      by_cases h2 : bt s i > 126
      · rw [if_pos h2, show prt (bt s i) = false from prt_hi h2]; rfl
      · rw [if_neg h2, w64 (by omega) (by omega), impl_isPrintable_l0 s hs d k (i + 1) (by omega) (by omega) (by omega)]
        simp [prt, show 32 ≤ bt s i by omega, show bt s i ≤ 126 by omega]
theorem impl_isPrintable_f (s : ByteArray) (hs : s.size ≤ 4611686018427387904) (k : Nat) (hk : s.size < k) : impl_isPrintable.f k s = some (plainP s) := by
  unfold impl_isPrintable.f
  rw [impl_isPrintable_l0 s hs s.size k 0 (by omega) (by omega) hk]; rfl
theorem nput_length (l : List Int) (c : Int) : (nput l c).length ≤ l.length + 1 := by
  unfold nput; split <;> simp
theorem up_of {c : Int} (h0 : 0 ≤ c) (h1 : c ≤ 255) (b : Bool) (hb : b = (decide (c ≥ 65) && decide (c ≤ 90))) : (if b = true then (c + 32) % 256 else c) = up c := by
  unfold up
  subst hb
  by_cases h : 65 ≤ c ∧ c ≤ 90
  · rw [if_pos h, if_pos (by simp [h.1, h.2])]; omega
  · rw [if_neg h, if_neg (by simpa using h)]
theorem spec_Norm_j2 (k : Nat) (s : ByteArray) (l : List Int) (i c : Int) (b : Bool) (hl : l.length < 1000) (h0 : 0 ≤ i) (h1 : i < 1000) :
    spec_Norm.j2 (k + 1) s l i c b = spec_Norm.l0 k s (nput l (if b = true then (c + 32) % 256 else c)) (i + 1) := by
  simp only [spec_Norm.j2]
  rw [w64 (x := i + 1) (by omega) (by omega), w64 (x := (l.length : Int) - 1) (by omega) (by omega), if_pos (show l.length < 140737488355328 by omega), if_pos (show l.length < 140737488355328 by omega)]
  have key : ∀ c : Int, (if c = 32 then (if (l.length : Int) = 0 then spec_Norm.l0 k s l (i + 1) else (if 0 ≤ (l.length : Int) - 1 then (if (l.length : Int) - 1 < (l.length : Int) then (if rd l ((l.length : Int) - 1) = 32 then spec_Norm.l0 k s l (i + 1) else spec_Norm.l0 k s (l ++ [c]) (i + 1)) else none) else none)) else spec_Norm.l0 k s (l ++ [c]) (i + 1)) = spec_Norm.l0 k s (nput l c) (i + 1) := by
    intro c
    unfold nput
    by_cases hc : c = 32
    · rw [if_pos hc]
      by_cases hn : l = []
      · rw [if_pos (by simp [hn]), if_pos ⟨hc, .inl hn⟩]
      · have : 0 < l.length := List.length_pos_iff.2 hn
        rw [if_neg (by omega), if_pos (by omega), if_pos (by omega)]
        by_cases hr : rd l ((l.length : Int) - 1) = 32
        · rw [if_pos hr, if_pos ⟨hc, .inr hr⟩]
        · rw [if_neg hr, if_neg (fun x => x.2.elim hn hr)]
    · rw [if_neg hc, if_neg (fun x => hc x.1)]
  cases b
  · exact key c
  · exact key _
theorem impl_Norm_j2 (k : Nat) (s : ByteArray) (l : List Int) (n i c : Int) (b : Bool) (hl : l.length < 1000) (h0 : 0 ≤ i) (h1 : i < 1000) :
    impl_Norm.j2 (k + 1) s l c n i b = impl_Norm.l0 k s (nput l (if b = true then (c + 32) % 256 else c)) n (i + 1) := by
  simp only [impl_Norm.j2]
  rw [w64 (x := i + 1) (by omega) (by omega), w64 (x := (l.length : Int) - 1) (by omega) (by omega), if_pos (show l.length < 140737488355328 by omega), if_pos (show l.length < 140737488355328 by omega)]
  have key : ∀ c : Int, (if c = 32 then (if (l.length : Int) > 0 then (if 0 ≤ (l.length : Int) - 1 then (if (l.length : Int) - 1 < (l.length : Int) then (if rd l ((l.length : Int) - 1) = 32 then impl_Norm.l0 k s l n (i + 1) else impl_Norm.l0 k s (l ++ [c]) n (i + 1)) else none) else none) else impl_Norm.l0 k s l n (i + 1)) else impl_Norm.l0 k s (l ++ [c]) n (i + 1)) = impl_Norm.l0 k s (nput l c) n (i + 1) := by
    intro c
    unfold nput
    by_cases hc : c = 32
    · rw [if_pos hc]
      by_cases hn : l = []
      · rw [if_neg (by simp [hn]), if_pos ⟨hc, .inl hn⟩]
      · have : 0 < l.length := List.length_pos_iff.2 hn
        rw [if_pos (by omega), if_pos (by omega), if_pos (by omega)]
        by_cases hr : rd l ((l.length : Int) - 1) = 32
        · rw [if_pos hr, if_pos ⟨hc, .inr hr⟩]
        · rw [if_neg hr, if_neg (fun x => x.2.elim hn hr)]
    · rw [if_neg hc, if_neg (fun x => hc x.1)]
  cases b
  · exact key c
  · exact key _
theorem spec_Norm_l0 (s : ByteArray) (hs : s.size ≤ 100) : ∀ (d k : Nat) (i : Int) (l : List Int), 0 ≤ i → i + d = s.size → 2 * d < k → l.length ≤ i →
    spec_Norm.l0 k s l i = some (strOfNums (ntrim (nfold l ((bytesOf s).drop i.toNat))))
  | 0, k, i, l, h0, hd, hk, hl => by
    obtain ⟨k, rfl⟩ : ∃ m, k = m + 1 := ⟨k - 1, by omega⟩
    simp only [spec_Norm.l0]
    rw [if_neg (by omega), List.drop_of_length_le (by rw [bytesOf_length]; omega)]
    rw [show nfold l [] = l from rfl]
    unfold ntrim
    by_cases hn : l = []
    · subst hn; simp
    · have : 0 < l.length := List.length_pos_iff.2 hn
      rw [w64 (x := (l.length : Int) - 1) (by omega) (by omega), if_pos (by omega), if_pos (by omega), if_pos (by omega)]
      by_cases hr : rd l ((l.length : Int) - 1) = 32
      · rw [if_pos hr, if_pos (show (l.length : Int) - 1 ≤ (l.length : Int) by omega), if_pos ⟨hn, hr⟩, show ((l.length : Int) - 1).toNat = l.length - 1 by omega]
      · rw [if_neg hr, if_neg (fun x => hr x.2)]
  | d + 1, k, i, l, h0, hd, hk, hl => by
    obtain ⟨k, rfl⟩ : ∃ m, k = m + 2 := ⟨k - 2, by omega⟩
    have hb := bt_range s i
    have hj : ∀ b : Bool, b = (decide (bt s i ≥ 65) && decide (bt s i ≤ 90)) → spec_Norm.j2 (k + 1) s l i (bt s i) b = some (strOfNums (ntrim (nfold l ((bytesOf s).drop i.toNat)))) := by
      intro b hbb
      rw [spec_Norm_j2 k s l i _ b (by omega) h0 (by omega), up_of hb.1 hb.2 b hbb]
      have := nput_length l (up (bt s i))
      rw [spec_Norm_l0 s hs d k (i + 1) _ (by omega) (by omega) (by omega) (by omega), drop_bt s i h0 (by omega)]; rfl
    simp only [spec_Norm.l0]
    rw [if_pos (by omega), if_pos h0]
    by_cases h : bt s i ≥ 65
    · rw [if_pos h]; exact hj _ (by simp [h])
    · rw [if_neg h]; exact hj _ (by simp [h])
theorem son_take (l : List Int) (n : Nat) : (strOfNums l).extract 0 n = strOfNums (l.take n) := by
  apply ba_ext
  rw [ByteArray.data_extract, Array.toList_extract, strOfNums_data, strOfNums_data]
  simp [List.extract]
theorem son_drop (l : List Int) (n : Nat) : (strOfNums l).extract n (strOfNums l).size = strOfNums (l.drop n) := by
  apply ba_ext
  rw [ByteArray.data_extract, Array.toList_extract, strOfNums_data, strOfNums_data, strOfNums_size]
  simp only [List.extract, List.map_drop]
  exact List.take_of_length_le (by simp)
theorem drop_last (l : List Int) (h : 0 < l.length) : l.drop (l.length - 1) = [rd l ((l.length : Int) - 1)] := by
  rw [List.drop_eq_getElem_cons (by omega), List.drop_of_length_le (by omega)]
  congr 1
  unfold rd
  rw [show ((l.length : Int) - 1).toNat = l.length - 1 by omega, List.getD_eq_getElem?_getD, List.getElem?_eq_getElem (by omega)]; rfl
theorem trim_blank (l : List Int) (hl : l.length < 1000) (hr : ∀ x ∈ l, 0 ≤ x ∧ x ≤ 255) : strings_TrimSuffix.f (strOfNums l) (⟨#[32]⟩ : ByteArray) = some (strOfNums (ntrim l)) := by
  have hz : (⟨#[32]⟩ : ByteArray).size = 1 := rfl
  unfold strings_TrimSuffix.f stringslite_TrimSuffix.f stringslite_HasSuffix.f ntrim
  rw [hz]
  by_cases hn : l = []
  · subst hn
    rw [if_neg (show ¬ (((strOfNums []).size : Int) ≥ ((1 : Nat) : Int)) by decide)]; rfl
  · have hp : 0 < l.length := List.length_pos_iff.2 hn
    have hin : rd l ((l.length : Int) - 1) ∈ l := by have h := drop_last l hp; exact List.mem_of_mem_drop (i := l.length - 1) (by rw [h]; simp)
    have hb := hr _ hin
    simp only [strOfNums_size, Int.natCast_one]
    rw [w64 (x := (l.length : Int) - 1) (by omega) (by omega), if_pos (by omega), if_pos (by omega), if_pos (by omega)]
    simp only [Option.bind_some]
    have e1 : (strOfNums l).extract ((l.length : Int) - 1).toNat l.length = strOfNums [rd l ((l.length : Int) - 1)] := by
      rw [← drop_last l hp, ← son_drop, strOfNums_size, show ((l.length : Int) - 1).toNat = l.length - 1 by omega]
    rw [e1]
    have e2 : ((strOfNums [rd l ((l.length : Int) - 1)]).toList == (⟨#[32]⟩ : ByteArray).toList) = decide (rd l ((l.length : Int) - 1) = 32) := by
      rw [Go.Lib.toList_data, Go.Lib.toList_data, strOfNums_data]
      generalize rd l ((l.length : Int) - 1) = x at hb
      have key : ∀ z : Fin 256, (([(z.val : Int)].map fun n => UInt8.ofNat n.toNat) == (⟨#[32]⟩ : ByteArray).data.toList) = decide ((z.val : Int) = 32) := by decide +kernel
      have := key ⟨x.toNat, by omega⟩
      simpa [Int.toNat_of_nonneg hb.1] using this
    rw [e2]
    by_cases h : rd l ((l.length : Int) - 1) = 32
    · rw [decide_eq_true h]
      simp only [if_true, Option.bind_some]
      rw [if_pos (show l ≠ [] ∧ rd l ((l.length : Int) - 1) = 32 from ⟨hn, h⟩), son_take, show ((l.length : Int) - 1).toNat = l.length - 1 by omega, if_pos (show 0 ≤ (l.length : Int) - 1 by omega), if_pos (show (l.length : Int) - 1 ≤ (l.length : Int) by omega)]; rfl
    · rw [decide_eq_false h, if_neg (show ¬ (l ≠ [] ∧ rd l ((l.length : Int) - 1) = 32) from fun x => h x.2)]; rfl
theorem nput_range {l : List Int} {c : Int} (hl : ∀ x ∈ l, 0 ≤ x ∧ x ≤ 255) (hc : 0 ≤ c ∧ c ≤ 255) : ∀ x ∈ nput l c, 0 ≤ x ∧ x ≤ 255 := by
  intro x hx
  unfold nput at hx
  split at hx
  · exact hl x hx
  · rcases List.mem_append.1 hx with h | h
    · exact hl x h
    · rw [List.mem_singleton.1 h]; exact hc
theorem up_range {c : Int} (hc : 0 ≤ c ∧ c ≤ 255) : 0 ≤ up c ∧ up c ≤ 255 := by unfold up; split <;> omega
theorem impl_Norm_l0 (s : ByteArray) (hs : s.size ≤ 100) : ∀ (d k : Nat) (i : Int) (l : List Int), 0 ≤ i → i + d = s.size → 2 * d < k → l.length ≤ i → (∀ x ∈ l, 0 ≤ x ∧ x ≤ 255) →
    impl_Norm.l0 k s l (s.size : Int) i = some (strOfNums (ntrim (nfold l ((bytesOf s).drop i.toNat))))
  | 0, k, i, l, h0, hd, hk, hl, hr => by
    obtain ⟨k, rfl⟩ : ∃ m, k = m + 1 := ⟨k - 1, by omega⟩
    simp only [impl_Norm.l0]
    rw [if_neg (by omega), List.drop_of_length_le (by rw [bytesOf_length]; omega), trim_blank l (by omega) hr]
    rfl
  | d + 1, k, i, l, h0, hd, hk, hl, hr => by
    obtain ⟨k, rfl⟩ : ∃ m, k = m + 2 := ⟨k - 2, by omega⟩
    have hb := bt_range s i
    have hj : ∀ b : Bool, b = (decide (bt s i ≥ 65) && decide (bt s i ≤ 90)) → impl_Norm.j2 (k + 1) s l (bt s i) (s.size : Int) i b = some (strOfNums (ntrim (nfold l ((bytesOf s).drop i.toNat)))) := by
      intro b hbb
      rw [impl_Norm_j2 k s l _ i _ b (by omega) h0 (by omega), up_of hb.1 hb.2 b hbb]
      have := nput_length l (up (bt s i))
      rw [impl_Norm_l0 s hs d k (i + 1) _ (by omega) (by omega) (by omega) (by omega) (nput_range hr (up_range hb)), drop_bt s i h0 (by omega)]; rfl
    simp only [impl_Norm.l0]
    rw [if_pos (by omega), if_pos h0, if_pos (by omega)]
    by_cases h : bt s i ≥ 65
    · rw [if_pos h]; exact hj _ (by simp [h])
    · rw [if_neg h]; exact hj _ (by simp [h])
theorem spec_Norm_f (s : ByteArray) (k : Nat) (hk : 2 * s.size + 2 < k) : spec_Norm.f k s = some (NormP s) := by
  obtain ⟨k, rfl⟩ : ∃ m, k = m + 1 := ⟨k - 1, by omega⟩
  unfold spec_Norm.f NormP NormL
  by_cases h : s.size ≤ 100
  · rw [if_neg (by omega), spec_l02Plain_f s (by omega) _ (by omega)]
    simp only [Option.bind_some, spec_Norm.j0]
    by_cases hp : plainP s = true
    · rw [if_neg (by simp [hp]), if_pos ⟨h, hp⟩, spec_Norm_l0 s h s.size k 0 [] (by omega) (by omega) (by omega) (by simp)]; rfl
    · rw [if_pos (by simp [hp]), if_neg (fun x => hp x.2)]; rfl
  · rw [if_pos (by omega), if_neg (fun x => h x.1)]
    simp only [spec_Norm.j0, if_true]; rfl
theorem impl_Norm_f (s : ByteArray) (k : Nat) (hk : 2 * s.size + 2 < k) : impl_Norm.f k s = some (NormP s) := by
  obtain ⟨k, rfl⟩ : ∃ m, k = m + 1 := ⟨k - 1, by omega⟩
  unfold impl_Norm.f NormP NormL
  by_cases h : s.size ≤ 100
  · rw [if_neg (by omega), impl_isPrintable_f s (by omega) _ (by omega)]
    simp only [Option.bind_some, impl_Norm.j0]
    by_cases hp : plainP s = true
    · rw [if_neg (by simp [hp]), if_pos ⟨h, hp⟩, impl_Norm_l0 s h s.size k 0 [] (by omega) (by omega) (by omega) (by simp) (by simp)]; rfl
    · rw [if_pos (by simp [hp]), if_neg (fun x => hp x.2)]; rfl
  · rw [if_pos (by omega), if_neg (fun x => h x.1)]
    simp only [impl_Norm.j0, if_true]; rfl

/-! NameRight -/
def lowc (c : Int) : Bool := decide (97 ≤ c) && decide (c ≤ 122)
def nch (c : Int) : Bool := lowc c || (decide (48 ≤ c) && decide (c ≤ 57)) || decide (c = 95)
/-- What NameRight says. -/
def NameP (s : ByteArray) : Bool := decide (1 ≤ s.size) && decide (s.size ≤ 20) && lowc (bt s 0) && (bytesOf s).all nch
theorem spec_NameRight_l0 (s : ByteArray) (hs : s.size ≤ 20) : ∀ (d k : Nat) (i : Int), 0 ≤ i → i + d = s.size → d < k →
    spec_NameRight.l0 k s i = some ((decide (i ≠ 0) || decide (s.size = 0) || lowc (bt s 0)) && ((bytesOf s).drop i.toNat).all nch)
  | 0, k, i, h0, hi, hk => by
    obtain ⟨k, rfl⟩ : ∃ q, k = q + 1 := ⟨k - 1, by omega⟩
    rw [spec_NameRight.l0, if_neg (by omega), List.drop_of_length_le (by rw [bytesOf_length]; omega), List.all_nil, Bool.and_true]
    by_cases hz : i = 0
    · rw [decide_eq_true (p := s.size = 0) (by omega)]; simp
    · rw [decide_eq_true (p := i ≠ 0) hz]; rfl
  | d + 1, k, i, h0, hi, hk => by
    obtain ⟨k, rfl⟩ : ∃ q, k = q + 1 := ⟨k - 1, by omega⟩
    have ih := spec_NameRight_l0 s hs d k (i + 1) (by omega) (by omega) (by omega)
    rw [decide_eq_true (p := i + 1 ≠ 0) (by omega), Bool.true_or, Bool.true_or, Bool.true_and] at ih
    rw [spec_NameRight.l0, if_pos (by omega), if_pos h0, drop_bt s i h0 (by omega), List.all_cons, w64 (x := i + 1) (by omega) (by omega), ih, decide_eq_false (p := s.size = 0) (by omega), Bool.or_false]
    have hc := bt_range s i
    generalize hcg : bt s i = c at hc ⊢
    have h00 : i = 0 → lowc (bt s 0) = lowc c := fun e => by rw [← hcg, e]
    unfold nch lowc at *
    by_cases c1 : c ≥ 97
    · rw [if_pos c1, decide_eq_true (p := 97 ≤ c) c1]
      by_cases c2 : c ≤ 122
      · rw [if_pos c2, decide_eq_true c2]
        by_cases hz : i = 0
        · rw [h00 hz, decide_eq_true (p := 97 ≤ c) c1, decide_eq_true c2]; simp
        · rw [decide_eq_true (p := i ≠ 0) hz]; simp
      · rw [if_neg c2, decide_eq_false c2, decide_eq_false (p := c ≤ 57) (by omega), decide_eq_false (p := c = 95) (by omega)]
        by_cases hz : i = 0
        · rw [if_pos hz, h00 hz, decide_eq_false c2, decide_eq_false (p := i ≠ 0) (by omega)]; simp
        · rw [if_neg hz, if_pos (by omega), if_neg (by omega), if_neg (by omega)]; simp
    · rw [if_neg c1, decide_eq_false (p := 97 ≤ c) c1]
      by_cases hz : i = 0
      · rw [if_pos hz, h00 hz, decide_eq_false (p := 97 ≤ c) c1, decide_eq_false (p := i ≠ 0) (by omega)]; simp
      · rw [if_neg hz, decide_eq_true (p := i ≠ 0) hz]
        by_cases c3 : c ≥ 48
        · rw [if_pos c3, decide_eq_true (p := 48 ≤ c) c3]
          by_cases c4 : c ≤ 57
          · rw [if_pos c4, decide_eq_true c4]; simp
          · rw [if_neg c4, decide_eq_false c4]
            by_cases c5 : c = 95
            · rw [if_pos c5, decide_eq_true c5]; simp
            · rw [if_neg c5, decide_eq_false c5]; simp
        · rw [if_neg c3, decide_eq_false (p := 48 ≤ c) c3, if_neg (by omega), decide_eq_false (p := c = 95) (by omega)]; simp
theorem spec_NameRight_f (s : ByteArray) (k : Nat) (hk : 30 ≤ k) : spec_NameRight.f k s = some (NameP s) := by
  obtain ⟨k, rfl⟩ : ∃ q, k = q + 1 := ⟨k - 1, by omega⟩
  unfold spec_NameRight.f NameP
  by_cases h1 : (s.size : Int) < 1
  · rw [if_pos h1, spec_NameRight.j0, if_pos rfl, decide_eq_false (p := 1 ≤ s.size) (by omega)]; rfl
  · rw [if_neg h1, decide_eq_true (p := 1 ≤ s.size) (by omega)]
    by_cases h2 : (s.size : Int) > 20
    · rw [decide_eq_true h2, spec_NameRight.j0, if_pos rfl, decide_eq_false (p := s.size ≤ 20) (by omega)]; rfl
    · rw [decide_eq_false h2, spec_NameRight.j0, if_neg (by simp), decide_eq_true (p := s.size ≤ 20) (by omega), spec_NameRight_l0 s (by omega) s.size k 0 (by omega) (by omega) (by omega), decide_eq_false (p := s.size = 0) (by omega)]
      simp
theorem dw_nil {α : Type} (p : α → Bool) : ∀ l : List α, (∀ x ∈ l, p x = true) → l.dropWhile p = []
  | [], _ => rfl
  | a :: l, h => by
    rw [List.dropWhile_cons, if_pos (h a (by simp))]
    exact dw_nil p l (fun x hx => h x (List.mem_cons_of_mem _ hx))
theorem dw_all {α : Type} (p : α → Bool) : ∀ l : List α, (∀ x ∈ l.dropWhile p, p x = true) → ∀ x ∈ l, p x = true
  | [], _, x, hx => by cases hx
  | a :: l, h, x, hx => by
    rw [List.dropWhile_cons] at h
    by_cases ha : p a = true
    · rw [if_pos ha] at h
      rcases List.mem_cons.1 hx with e | e
      · rw [e]; exact ha
      · exact dw_all p l h x e
    · rw [if_neg ha] at h
      exact absurd (h a (by simp)) ha
theorem trim_nil (l cs : List UInt8) : (Lib.trimS l cs == ([] : List UInt8)) = l.all (cs.contains ·) := by
  have key : Lib.trimS l cs = [] ↔ ∀ x ∈ l, cs.contains x = true := by
    unfold Lib.trimS Lib.trimLeftS Lib.trimRightS
    constructor
    · intro h x hx
      refine dw_all (cs.contains ·) l.reverse (fun y hy => ?_) x (List.mem_reverse.2 hx)
      refine dw_all (cs.contains ·) (l.reverse.dropWhile (cs.contains ·)).reverse (fun z hz => ?_) y (List.mem_reverse.2 hy)
      rw [h] at hz; cases hz
    · intro h
      rw [dw_nil (cs.contains ·) l.reverse (fun x hx => h x (List.mem_reverse.1 hx))]; rfl
  by_cases h : Lib.trimS l cs = []
  · rw [h, List.all_eq_true.2 (key.1 h)]; rfl
  · rw [beq_eq_false_iff_ne.2 h]
    symm
    rw [Bool.eq_false_iff]
    exact fun h2 => h (key.2 (List.all_eq_true.1 h2))
theorem nch_contains (b : UInt8) : ([97, 98, 99, 100, 101, 102, 103, 104, 105, 106, 107, 108, 109, 110, 111, 112, 113, 114, 115, 116, 117, 118, 119, 120, 121, 122, 48, 49, 50, 51, 52, 53, 54, 55, 56, 57, 95] : List UInt8).contains b = nch b.toNat := by
  have key : ∀ z : Fin 256, ([97, 98, 99, 100, 101, 102, 103, 104, 105, 106, 107, 108, 109, 110, 111, 112, 113, 114, 115, 116, 117, 118, 119, 120, 121, 122, 48, 49, 50, 51, 52, 53, 54, 55, 56, 57, 95] : List UInt8).contains (UInt8.ofNat z.val) = nch (z.val : Nat) := by decide +kernel
  have := key ⟨b.toNat, b.toNat_lt⟩
  simpa using this
theorem impl_NameRight_f (s : ByteArray) : impl_NameRight.f s = some (NameP s) := by
  unfold impl_NameRight.f NameP
  by_cases h1 : (s.size : Int) ≥ 1
  · rw [if_pos h1, decide_eq_true (p := 1 ≤ s.size) (by omega)]
    by_cases h2 : (s.size : Int) ≤ 20
    · rw [if_pos h2, decide_eq_true (p := s.size ≤ 20) (by omega), if_pos (by omega)]
      unfold lowc
      by_cases h3 : bt s 0 ≥ 97
      · rw [if_pos h3, decide_eq_true (p := 97 ≤ bt s 0) h3]
        by_cases h4 : bt s 0 ≤ 122
        · rw [if_pos h4, decide_eq_true h4]
          unfold strings_Trim.f
          rw [if_pos ⟨by omega, by decide, by decide⟩]
          simp only [Option.bind_some, Bool.true_and]
          congr 1
          rw [Go.Lib.toList_data]
          show (Lib.trimS s.data.toList _ == []) = _
          rw [trim_nil]
          unfold bytesOf
          rw [List.all_map]
          congr 1
          funext b
          exact nch_contains b
        · rw [if_neg h4, decide_eq_false h4]; rfl
      · rw [if_neg h3, decide_eq_false (p := 97 ≤ bt s 0) h3]; rfl
    · rw [if_neg h2, decide_eq_false (p := s.size ≤ 20) (by omega)]; rfl
  · rw [if_neg h1, decide_eq_false (p := 1 ≤ s.size) (by omega)]; rfl

/-! values -/
/-- Is a text a value. -/
def ValueP (s : ByteArray) : Bool := decide (1 ≤ s.size) && decide (s.size ≤ 40) && ((NormP s).toList != ([] : List UInt8))
theorem spec_l02Value_f (s : ByteArray) (k : Nat) (hk : 100 ≤ k) : spec_l02Value.f k s = some (ValueP s) := by
  unfold spec_l02Value.f ValueP
  by_cases h1 : (s.size : Int) ≥ 1
  · by_cases h2 : (s.size : Int) ≤ 40
    · rw [if_pos h1, if_pos h2, spec_Norm_f s k (by omega), decide_eq_true (p := 1 ≤ s.size) (by omega), decide_eq_true (p := s.size ≤ 40) (by omega)]
      simp
    · rw [if_pos h1, if_neg h2, decide_eq_false (p := s.size ≤ 40) (by omega)]; simp
  · rw [if_neg h1, decide_eq_false (p := 1 ≤ s.size) (by omega)]; simp
theorem impl_isProper_f (s : ByteArray) (k : Nat) (hk : 100 ≤ k) : impl_isProper.f k s = some (ValueP s) := by
  unfold impl_isProper.f ValueP
  by_cases h1 : (s.size : Int) ≥ 1
  · by_cases h2 : (s.size : Int) ≤ 40
    · rw [if_pos h1, if_pos h2, impl_Norm_f s k (by omega), decide_eq_true (p := 1 ≤ s.size) (by omega), decide_eq_true (p := s.size ≤ 40) (by omega)]
      simp
    · rw [if_pos h1, if_neg h2, decide_eq_false (p := s.size ≤ 40) (by omega)]; simp
  · rw [if_neg h1, decide_eq_false (p := 1 ≤ s.size) (by omega)]; simp

/-! lists of strings -/
theorem laws_eqStringS_f (l : List ByteArray) (hl : (l.length : Int) ≤ 4611686018427387904) (k : Nat) (hk : l.length < k) : laws_eqStringS.f k l l = some true := by
  unfold laws_eqStringS.f
  rw [if_pos rfl]
  refine skip_loop true l.length hl 0 (fun k i => laws_eqStringS.l0 k l l i) (fun k i _ h0 hi => ?_) (fun k i _ h0 hi => ?_) l.length k 0 (by omega) (by omega) (by omega)
  · show laws_eqStringS.l0 (k + 1) l l i = laws_eqStringS.l0 k l l (wrap64 (i + 1))
    rw [laws_eqStringS.l0, if_pos hi, if_pos h0, if_pos hi]
    simp
  · show laws_eqStringS.l0 (k + 1) l l i = _
    rw [laws_eqStringS.l0, if_neg (by omega)]

/-! FilterRight -/
abbrev Nd := S97
/-- A node that has others in it, is right. -/
def innerP (n : Nd) : Bool := (n.f1.toList == ([] : List UInt8)) && (n.f2.toList == ([] : List UInt8)) && decide (1 ≤ n.f3) && decide (n.f3 ≤ 20) && (decide (n.f0 = 1) || decide (n.f0 = 2) || (decide (n.f0 = 3) && decide (n.f3 = 1)))
/-- A node without others in it, is right. -/
def leafP (n : Nd) : Bool := NameP n.f1 && decide (n.f3 = 0) && ((decide (n.f0 = 5) && (n.f2.toList == ([] : List UInt8))) || ((decide (n.f0 = 4) || decide (n.f0 = 6) || decide (n.f0 = 7) || decide (n.f0 = 8)) && ValueP n.f2))
/-- Many filters, one behind the other: how many nodes, how deep. -/
def pmany (p : List Nd → Option (Nat × Nat)) : Nat → List Nd → Option (Nat × Nat)
  | 0, _ => some (0, 0)
  | m + 1, l => (p l).bind fun x => (pmany p m (l.drop x.1)).bind fun y => some (x.1 + y.1, max x.2 y.2)
/-- The filter at the beginning of a list: how many nodes, how deep. -/
def pnode : Nat → List Nd → Option (Nat × Nat)
  | 0, _ => none
  | _ + 1, [] => none
  | f + 1, n :: rest => if innerP n = true then (pmany (pnode f) n.f3.toNat rest).bind fun x => some (x.1 + 1, x.2 + 1) else if leafP n = true then some (1, 1) else none
theorem pmany_le (p : List Nd → Option (Nat × Nat)) (hp : ∀ l x, p l = some x → 1 ≤ x.1 ∧ x.1 ≤ l.length ∧ 1 ≤ x.2 ∧ x.2 ≤ x.1) : ∀ (m : Nat) (l : List Nd) (x : Nat × Nat), pmany p m l = some x → m ≤ x.1 ∧ x.1 ≤ l.length ∧ x.2 ≤ x.1
  | 0, l, x, h => by
    simp only [pmany, Option.some.injEq] at h
    rw [← h]; simp
  | m + 1, l, x, h => by
    simp only [pmany] at h
    obtain ⟨a, ha, h⟩ := Option.bind_eq_some_iff.1 h
    obtain ⟨b, hb, h⟩ := Option.bind_eq_some_iff.1 h
    have h1 := hp l a ha
    have h2 := pmany_le p hp m _ b hb
    rw [List.length_drop] at h2
    simp only [Option.some.injEq] at h
    rw [← h]
    show m + 1 ≤ a.1 + b.1 ∧ a.1 + b.1 ≤ l.length ∧ max a.2 b.2 ≤ a.1 + b.1
    omega
theorem pnode_le : ∀ (f : Nat) (l : List Nd) (x : Nat × Nat), pnode f l = some x → 1 ≤ x.1 ∧ x.1 ≤ l.length ∧ 1 ≤ x.2 ∧ x.2 ≤ x.1
  | 0, l, x, h => by simp [pnode] at h
  | f + 1, [], x, h => by simp [pnode] at h
  | f + 1, n :: rest, x, h => by
    simp only [pnode] at h
    split at h
    · obtain ⟨a, ha, h⟩ := Option.bind_eq_some_iff.1 h
      have h2 := pmany_le (pnode f) (pnode_le f) _ _ a ha
      simp only [Option.some.injEq] at h
      rw [← h, List.length_cons]
      show 1 ≤ a.1 + 1 ∧ a.1 + 1 ≤ rest.length + 1 ∧ 1 ≤ a.2 + 1 ∧ a.2 + 1 ≤ a.1 + 1
      omega
    · split at h
      · simp only [Option.some.injEq] at h
        rw [← h, List.length_cons]
        show 1 ≤ 1 ∧ 1 ≤ rest.length + 1 ∧ 1 ≤ 1 ∧ 1 ≤ 1
        omega
      · cases h
theorem beqd (x y : Int) : (x == y) = decide (x = y) := by by_cases h : x = y <;> simp [h]
theorem op_cases (op : Int) : op = 1 ∨ op = 2 ∨ op = 3 ∨ op = 4 ∨ op = 5 ∨ op = 6 ∨ op = 7 ∨ op = 8 ∨ (op ≠ 1 ∧ op ≠ 2 ∧ op ≠ 3 ∧ op ≠ 4 ∧ op ≠ 5 ∧ op ≠ 6 ∧ op ≠ 7 ∧ op ≠ 8) := by omega
theorem spec_l04Node_f (op : Int) (a v : ByteArray) (m : Int) (k : Nat) (hk : 102 ≤ k) : spec_l04Node.f k op a v m = some (innerP ⟨op, a, v, m⟩ || leafP ⟨op, a, v, m⟩) := by
  obtain ⟨k, rfl⟩ : ∃ q, k = q + 2 := ⟨k - 2, by omega⟩
  have hl : spec_l02Is.f m 1 20 = some (decide (1 ≤ m) && decide (m ≤ 20)) := by
    unfold spec_l02Is.f
    by_cases h : m ≥ 1
    · rw [if_pos h, decide_eq_true (p := 1 ≤ m) h]; rfl
    · rw [if_neg h, decide_eq_false (p := 1 ≤ m) h]; rfl
  have hj1 : ∀ b : Bool, spec_l04Node.j1 (k + 1) b op a v m = some (b && NameP a && ValueP v && decide (m = 0)) := by
    intro b
    rw [spec_l04Node.j1, spec_NameRight_f _ k (by omega), spec_l02Value_f _ k (by omega)]
    cases b <;> cases NameP a <;> cases ValueP v <;> simp [beqd]
  unfold spec_l04Node.f innerP leafP
  simp only [spec_l04Node.j0, hl, spec_NameRight_f a (k + 1) (by omega), hj1, beqd]
  by_cases ha : a.toList = [] <;> by_cases hv : v.toList = [] <;> (rcases op_cases op with rfl | rfl | rfl | rfl | rfl | rfl | rfl | rfl | h) <;> cases NameP a <;> cases ValueP v <;> simp [ha, hv] <;> simp_all <;> (by_cases hm : m = 1 <;> simp [hm])
theorem inner_many (n : Nd) (h : innerP n = true) : 1 ≤ n.f3 ∧ n.f3 ≤ 20 := by
  unfold innerP at h
  simp only [Bool.and_eq_true, decide_eq_true_eq] at h
  exact ⟨h.1.1.2, h.1.2⟩
theorem leaf_many (n : Nd) (h : leafP n = true) : n.f3 = 0 := by
  unfold leafP at h
  simp only [Bool.and_eq_true, decide_eq_true_eq] at h
  exact h.1.2
theorem nd_drop (l : List Nd) (i : Int) (h0 : 0 ≤ i) (h1 : i < l.length) : l.drop i.toNat = rd_T97 l i :: l.drop (i.toNat + 1) := by
  have hi : i.toNat < l.length := by omega
  rw [List.drop_eq_getElem_cons hi]
  congr 1
  unfold rd_T97
  rw [List.getD_eq_getElem?_getD, List.getElem?_eq_getElem hi]; rfl
/-- What the reference tells of a filter that begins at a place, at a depth. -/
def encE (at_ : Nat) (deep : Nat) : Option (Nat × Nat) → Int
  | none => -1
  | some x => if deep + x.2 ≤ 6 then ((at_ + x.1 : Nat) : Int) else -1
theorem spec_End_l0 (L : List Nd) (hL : L.length ≤ 20) (fl deep : Nat) (hd : deep ≤ 5)
    (ih : ∀ (k p : Nat), 110 + 30 * fl ≤ k → (L.drop p).length ≤ fl → p ≤ 20 → spec_l04End.f k L (p : Int) ((deep + 1 : Nat) : Int) = some (encE p (deep + 1) (pnode fl (L.drop p)))) :
    ∀ (m k p : Nat), 111 + 30 * fl + m ≤ k → (L.drop p).length ≤ fl → p ≤ 20 → m ≤ 20 →
      spec_l04End.l0 k L (p : Int) (deep : Int) (m : Int) = some (encE p (deep + 1) (pmany (pnode fl) m (L.drop p)))
  | 0, k, p, hk, hl, hp, hm => by
    obtain ⟨k, rfl⟩ : ∃ q, k = q + 1 := ⟨k - 1, by omega⟩
    rw [spec_l04End.l0, if_neg (by omega)]
    simp only [pmany, encE]
    rw [if_pos (by omega)]; rfl
  | m + 1, k, p, hk, hl, hp, hm => by
    obtain ⟨k, rfl⟩ : ∃ q, k = q + 1 := ⟨k - 1, by omega⟩
    rw [spec_l04End.l0, if_pos (by omega), if_pos (by omega), w64 (x := (deep : Int) + 1) (by omega) (by omega), w64 (x := ((m + 1 : Nat) : Int) - 1) (by omega) (by omega),
      show ((m + 1 : Nat) : Int) - 1 = (m : Int) by omega, show (deep : Int) + 1 = ((deep + 1 : Nat) : Int) by omega, ih k p (by omega) hl hp]
    simp only [Option.bind_some]
    have neg : spec_l04End.l0 k L (-1) (deep : Int) (m : Int) = some (-1) := by
      obtain ⟨k, rfl⟩ : ∃ q, k = q + 1 := ⟨k - 1, by omega⟩
      rw [spec_l04End.l0, if_neg (show ¬ ((-1 : Int) ≥ 0) by omega)]
      split <;> rfl
    simp only [pmany]
    cases hn : pnode fl (L.drop p) with
    | none => simp only [encE, Option.bind_none]; exact neg
    | some x =>
      have hx := pnode_le _ _ _ hn
      rw [List.length_drop] at hx hl
      simp only [Option.bind_some]
      by_cases h6 : deep + 1 + x.2 ≤ 6
      · rw [show encE p (deep + 1) (some x) = ((p + x.1 : Nat) : Int) by simp only [encE]; rw [if_pos h6],
          spec_End_l0 L hL fl deep hd ih m k (p + x.1) (by omega) (by rw [List.length_drop]; omega) (by omega) (by omega), ← List.drop_drop]
        cases hm2 : pmany (pnode fl) m ((L.drop p).drop x.1) with
        | none => simp [encE]
        | some y =>
          simp only [Option.bind_some, encE]
          congr 1
          by_cases h7 : deep + 1 + y.2 ≤ 6
          · rw [if_pos h7, if_pos (by omega), Nat.add_assoc]
          · rw [if_neg h7, if_neg (by omega)]
      · rw [show encE p (deep + 1) (some x) = -1 by simp only [encE]; rw [if_neg h6], neg]
        cases hm2 : pmany (pnode fl) m ((L.drop p).drop x.1) with
        | none => simp [encE]
        | some y =>
          simp only [Option.bind_some, encE]
          rw [if_neg (by omega)]
theorem spec_End_f (L : List Nd) (hL : L.length ≤ 20) : ∀ (fl k p deep : Nat), 110 + 30 * fl ≤ k → (L.drop p).length ≤ fl → p ≤ 20 → 1 ≤ deep → deep ≤ 6 →
    spec_l04End.f k L (p : Int) (deep : Int) = some (encE p deep (pnode fl (L.drop p)))
  | fl, k, p, deep, hk, hl, hp, h1, hd => by
    obtain ⟨k, rfl⟩ : ∃ q, k = q + 2 := ⟨k - 2, by omega⟩
    rw [spec_l04End.f]
    have neg : ∀ k, spec_l04End.j0 (k + 1) L (p : Int) (deep : Int) true = some (-1) := fun k => by rw [spec_l04End.j0, if_pos rfl]
    by_cases hp2 : (p : Int) ≥ (L.length : Int)
    · rw [if_pos hp2, neg, List.drop_of_length_le (by omega)]
      cases fl <;> rfl
    · rw [if_neg hp2]
      by_cases h5 : (deep : Int) > 5
      · rw [if_pos h5, neg]
        cases hn : pnode fl (L.drop p) with
        | none => rfl
        | some x =>
          have hx := pnode_le _ _ _ hn
          simp only [encE]
          rw [if_neg (by omega)]
      · rw [if_neg h5, if_pos (by omega), if_pos (by omega), spec_l04Node_f _ _ _ _ (k + 1) (by omega)]
        simp only [Option.bind_some]
        have hdr := nd_drop L p (by omega) (by omega)
        rw [show (p : Int).toNat = p from rfl] at hdr
        rw [List.length_drop] at hl
        match fl, hl, hk with
        | 0, hl, hk => omega
        | fl + 1, hl, hk =>
          rw [hdr]
          simp only [pnode]
          show spec_l04End.j0 (k + 1) L (p : Int) (deep : Int) (!(innerP (rd_T97 L p) || leafP (rd_T97 L p))) = _
          have loop := fun m hm => spec_End_l0 L hL fl deep (by omega) (fun k p hk hl hp => spec_End_f L hL fl k p (deep + 1) hk hl hp (by omega) (by omega)) m k (p + 1) (by omega) (by rw [List.length_drop]; omega) (by omega) hm
          by_cases hin : innerP (rd_T97 L p) = true
          · have hm := inner_many _ hin
            rw [hin, if_pos rfl, Bool.true_or, spec_l04End.j0, if_neg (by simp), if_pos (by omega), if_pos (by omega), w64 (x := (p : Int) + 1) (by omega) (by omega),
              show (rd_T97 L p).f3 = (((rd_T97 L p).f3.toNat : Nat) : Int) by omega, show (p : Int) + 1 = ((p + 1 : Nat) : Int) by omega, loop _ (by omega)]
            simp only [Int.toNat_natCast]
            cases hm2 : pmany (pnode fl) (rd_T97 L p).f3.toNat (L.drop (p + 1)) with
            | none => rfl
            | some y =>
              simp only [Option.bind_some, encE]
              congr 1
              by_cases h7 : deep + 1 + y.2 ≤ 6
              · rw [if_pos h7, if_pos (by omega)]; omega
              · rw [if_neg h7, if_neg (by omega)]
          · rw [Bool.eq_false_iff.2 hin, Bool.false_or, if_neg (by simp)]
            by_cases hle : leafP (rd_T97 L p) = true
            · have hm := leaf_many _ hle
              rw [hle, if_pos rfl, spec_l04End.j0, if_neg (by simp), if_pos (by omega), if_pos (by omega), w64 (x := (p : Int) + 1) (by omega) (by omega), hm, show (p : Int) + 1 = ((p + 1 : Nat) : Int) by omega]
              have := loop 0 (by omega)
              rw [show ((0 : Nat) : Int) = 0 from rfl] at this
              rw [this]
              simp only [pmany, encE]
            · rw [Bool.eq_false_iff.2 hle, if_neg (by simp), Bool.not_false, neg]
              rfl
/-- What the program tells of a filter at the beginning of a list. -/
def encD : Option (Nat × Nat) → Int × Int
  | none => (0, 0)
  | some x => ((x.1 : Int), (x.2 : Int))
theorem impl_depth_l0 (L : List Nd) (hL : L.length ≤ 20) (fl : Nat) (m : Nat) (hm : m ≤ 20)
    (ih : ∀ (k p : Nat), 110 + 30 * fl ≤ k → (L.drop p).length ≤ fl → impl_depthOf.f k (L.drop p) = some (encD (pnode fl (L.drop p)))) :
    ∀ (d k p D : Nat), 111 + 30 * fl + d ≤ k → (L.drop p).length ≤ fl → 1 ≤ p → p ≤ L.length → D ≤ p → d ≤ m →
      impl_depthOf.l0 k L (p : Int) (D : Int) (m : Int) ((m - d : Nat) : Int) = some (match pmany (pnode fl) d (L.drop p) with | none => (0, 0) | some x => (((p + x.1 : Nat) : Int), ((max D x.2 + 1 : Nat) : Int)))
  | 0, k, p, D, hk, hl, h1, hp, hD, hd => by
    obtain ⟨k, rfl⟩ : ∃ q, k = q + 1 := ⟨k - 1, by omega⟩
    rw [impl_depthOf.l0, if_neg (by omega), w64 (x := (D : Int) + 1) (by omega) (by omega)]
    simp only [pmany]
    rw [show max D 0 = D by omega]; rfl
  | d + 1, k, p, D, hk, hl, h1, hp, hD, hd => by
    obtain ⟨k, rfl⟩ : ∃ q, k = q + 1 := ⟨k - 1, by omega⟩
    rw [impl_depthOf.l0, if_pos (by omega), if_pos (by omega), if_pos (by omega), show (p : Int).toNat = p from rfl, ih k p (by omega) hl]
    simp only [Option.bind_some, pmany]
    cases hn : pnode fl (L.drop p) with
    | none => simp [encD]
    | some x =>
      have hx := pnode_le _ _ _ hn
      rw [List.length_drop] at hx hl
      simp only [Option.bind_some]
      rw [show encD (some x) = ((x.1 : Int), (x.2 : Int)) from rfl]
      dsimp only
      rw [if_neg (by omega), w64 (x := (p : Int) + (x.1 : Int)) (by omega) (by omega), w64 (x := ((m - (d + 1) : Nat) : Int) + 1) (by omega) (by omega),
        show (p : Int) + (x.1 : Int) = ((p + x.1 : Nat) : Int) by omega, show ((m - (d + 1) : Nat) : Int) + 1 = ((m - d : Nat) : Int) by omega,
        show mx (D : Int) (x.2 : Int) = ((max D x.2 : Nat) : Int) by unfold mx; split <;> omega,
        impl_depth_l0 L hL fl m hm ih d k (p + x.1) (max D x.2) (by omega) (by rw [List.length_drop]; omega) (by omega) (by omega) (by omega) (by omega), ← List.drop_drop]
      cases hm2 : pmany (pnode fl) d ((L.drop p).drop x.1) with
      | none => simp
      | some y =>
        simp only [Option.bind_some]
        rw [Nat.add_assoc, show max (max D x.2) y.2 = max D (max x.2 y.2) by omega]
theorem impl_depth_f : ∀ (fl k : Nat) (L : List Nd), L.length ≤ 20 → 110 + 30 * fl ≤ k → L.length ≤ fl → impl_depthOf.f k L = some (encD (pnode fl L))
  | fl, k, [], hL, hk, hl => by
    obtain ⟨k, rfl⟩ : ∃ q, k = q + 1 := ⟨k - 1, by omega⟩
    rw [impl_depthOf.f, if_pos (show ((([] : List Nd).length : Nat) : Int) = 0 from rfl)]
    cases fl <;> rfl
  | 0, k, n :: rest, hL, hk, hl => by simp at hl
  | fl + 1, k, ⟨op, a, v, m⟩ :: rest, hL, hk, hl => by
    obtain ⟨k, rfl⟩ : ∃ q, k = q + 3 := ⟨k - 3, by omega⟩
    rw [List.length_cons] at hl hL
    have loop : ∀ h : 0 ≤ m ∧ m ≤ 20, impl_depthOf.l0 k (⟨op, a, v, m⟩ :: rest) 1 0 m 0 = some (match pmany (pnode fl) m.toNat rest with | none => (0, 0) | some x => (((1 + x.1 : Nat) : Int), ((max 0 x.2 + 1 : Nat) : Int))) := by
      intro h
      have := impl_depth_l0 (⟨op, a, v, m⟩ :: rest) (by rw [List.length_cons]; omega) fl m.toNat (by omega) (fun k p hk hl => impl_depth_f fl k _ (by rw [List.length_drop, List.length_cons]; omega) hk hl) m.toNat k 1 0 (by omega) (by simp; omega) (by omega) (by simp) (by omega) (by omega)
      rw [Nat.sub_self, Int.toNat_of_nonneg h.1] at this
      exact this
    have hj3 : ∀ b : Bool, impl_depthOf.j3 (k + 1) b op a v m = some (if (b && NameP a && ValueP v && decide (m = 0)) = true then (1, 1) else (0, 0)) := by
      intro b
      rw [impl_depthOf.j3, impl_NameRight_f, impl_isProper_f _ k (by omega)]
      cases b <;> cases NameP a <;> cases ValueP v <;> by_cases hm : m = 0 <;> simp [hm]
    have hj1 : ∀ b : Bool, impl_depthOf.j1 (k + 1) (⟨op, a, v, m⟩ :: rest) b op a v m = if b = true then some (0, 0) else impl_depthOf.l0 k (⟨op, a, v, m⟩ :: rest) 1 0 m 0 := fun b => by rw [impl_depthOf.j1]
    have hz : rd_T97 (⟨op, a, v, m⟩ :: rest) 0 = ⟨op, a, v, m⟩ := rfl
    rw [impl_depthOf.f, if_neg (by rw [List.length_cons]; omega), if_pos (by rw [List.length_cons]; omega), hz]
    simp only [impl_depthOf.j0, impl_NameRight_f, hj1, hj3, pnode, beqd]
    by_cases hin : innerP ⟨op, a, v, m⟩ = true
    · have hmm := inner_many _ hin
      have hmm : 1 ≤ m ∧ m ≤ 20 := hmm
      rw [if_pos hin, loop ⟨by omega, by omega⟩]
      have e : (match pmany (pnode fl) m.toNat rest with | none => ((0, 0) : Int × Int) | some x => (((1 + x.1 : Nat) : Int), ((max 0 x.2 + 1 : Nat) : Int))) = encD ((pmany (pnode fl) m.toNat rest).bind fun x => some (x.1 + 1, x.2 + 1)) := by
        cases pmany (pnode fl) m.toNat rest with
        | none => rfl
        | some x => simp only [Option.bind_some, encD]; congr 1 <;> omega
      rw [e]
      unfold innerP at hin
      simp only [Bool.and_eq_true, Bool.or_eq_true, decide_eq_true_eq, beq_iff_eq] at hin
      obtain ⟨⟨⟨⟨ha, hv⟩, hm1⟩, hm2⟩, hop⟩ := hin
      rcases hop with (rfl | rfl) | ⟨rfl, rfl⟩
      · simp [ha, hv, show ¬ m < 1 by omega, show ¬ 20 < m by omega]
      · simp [ha, hv, show ¬ m < 1 by omega, show ¬ 20 < m by omega]
      · simp [ha, hv]
    · rw [if_neg hin]
      have key : (if leafP ⟨op, a, v, m⟩ = true then some (1, 1) else none : Option (Nat × Nat)) = if leafP ⟨op, a, v, m⟩ = true then some (1, 1) else none := rfl
      have e2 : encD (if leafP ⟨op, a, v, m⟩ = true then some (1, 1) else none) = if leafP ⟨op, a, v, m⟩ = true then (1, 1) else (0, 0) := by split <;> rfl
      rw [e2]
      unfold innerP at hin
      unfold leafP
      by_cases ha : a.toList = [] <;> by_cases hv : v.toList = [] <;> (rcases op_cases op with rfl | rfl | rfl | rfl | rfl | rfl | rfl | rfl | h) <;> cases NameP a <;> cases ValueP v <;> simp [ha, hv] at hin ⊢ <;> first | (intros; exfalso; omega) | (simp_all; done) | (split <;> rfl)
/-- What FilterRight says. -/
def FilterP (l : List Nd) : Bool := decide (l.length ≤ 20) && (match pnode 20 l with | none => false | some x => decide (x.1 = l.length) && decide (x.2 ≤ 5))
theorem spec_FilterRight_f (l : List Nd) (k : Nat) (hk : 710 ≤ k) : spec_FilterRight.f k l = some (FilterP l) := by
  unfold spec_FilterRight.f FilterP
  by_cases h : (l.length : Int) ≤ 20
  · have := spec_End_f l (by omega) 20 k 0 1 (by omega) (by rw [List.drop_zero]; omega) (by omega) (by omega) (by omega)
    rw [if_pos h, show (0 : Int) = ((0 : Nat) : Int) from rfl, show (1 : Int) = ((1 : Nat) : Int) from rfl, this, List.drop_zero, decide_eq_true (p := l.length ≤ 20) (by omega)]
    simp only [Option.bind_some, Bool.true_and]
    congr 1
    cases hn : pnode 20 l with
    | none => rw [show encE 0 1 none = -1 from rfl, beq_eq_false_iff_ne.2 (by omega)]
    | some x =>
      rw [show encE 0 1 (some x) = if 1 + x.2 ≤ 6 then ((0 + x.1 : Nat) : Int) else -1 from rfl]
      dsimp only
      by_cases h2 : 1 + x.2 ≤ 6
      · rw [if_pos h2, decide_eq_true (p := x.2 ≤ 5) (by omega), Bool.and_true, Nat.zero_add]
        by_cases h3 : x.1 = l.length
        · rw [decide_eq_true h3, beq_iff_eq.2 (by omega)]
        · rw [decide_eq_false h3, beq_eq_false_iff_ne.2 (by omega)]
      · rw [if_neg h2, decide_eq_false (p := x.2 ≤ 5) (by omega), Bool.and_false, beq_eq_false_iff_ne.2 (by omega)]
  · rw [if_neg h, decide_eq_false (p := l.length ≤ 20) (by omega)]; rfl
theorem impl_FilterRight_f (l : List Nd) (k : Nat) (hk : 710 ≤ k) : impl_FilterRight.f k l = some (FilterP l) := by
  unfold impl_FilterRight.f FilterP
  by_cases h : (l.length : Int) > 20
  · rw [if_pos h, decide_eq_false (p := l.length ≤ 20) (by omega)]; rfl
  · rw [if_neg h, impl_depth_f 20 k l (by omega) (by omega) (by omega), decide_eq_true (p := l.length ≤ 20) (by omega)]
    simp only [Option.bind_some, Bool.true_and]
    cases hn : pnode 20 l with
    | none => rfl
    | some x =>
      have hx := pnode_le _ _ _ hn
      rw [show encD (some x) = ((x.1 : Int), (x.2 : Int)) from rfl]
      dsimp only
      rw [if_pos (by omega)]
      by_cases h3 : x.1 = l.length
      · rw [if_pos (by omega), decide_eq_true h3, Bool.true_and]
        by_cases h2 : x.2 ≤ 5
        · rw [decide_eq_true h2, decide_eq_true (by omega)]
        · rw [decide_eq_false h2, decide_eq_false (by omega)]
      · rw [if_neg (by omega), decide_eq_false h3]; rfl

/-! marks -/
theorem markText_l0 : ∀ (d k : Nat) (n : Int) (a : ByteArray), n < 10 ^ d → d < k → a.size + d ≤ 100000 → ∃ t, laws_markText.l0 k n a = some t
  | 0, k, n, a, hn, hk, ha => by
    obtain ⟨k, rfl⟩ : ∃ q, k = q + 1 := ⟨k - 1, by omega⟩
    have hn : n < 1 := hn
    rw [laws_markText.l0, if_neg (by omega), if_pos (by omega)]
    exact ⟨_, rfl⟩
  | d + 1, k, n, a, hn, hk, ha => by
    obtain ⟨k, rfl⟩ : ∃ q, k = q + 1 := ⟨k - 1, by omega⟩
    rw [laws_markText.l0]
    by_cases h : n > 0
    · rw [if_pos h]
      simp only [Option.bind_some]
      rw [if_pos (by rw [strOfNums_size]; simp; omega)]
      have hp : (0 : Int) < 10 ^ d := Int.pow_pos (by decide)
      have hpow : (10 : Int) ^ (d + 1) = 10 ^ d * 10 := Int.pow_succ 10 d
      have ht : Int.tdiv n 10 = n / 10 := Int.tdiv_eq_ediv_of_nonneg (by omega)
      rw [ht]
      have hw : wrap64 (n / 10) < 10 ^ d := by
        have h1 : n / 10 < 10 ^ d := by omega
        have h2 : 0 ≤ n / 10 := by omega
        unfold wrap64
        omega
      exact markText_l0 d k _ _ hw (by omega) (by rw [ba_append_size, strOfNums_size]; simp; omega)
    · rw [if_neg h, if_pos (by omega)]
      exact ⟨_, rfl⟩
/-- A mark. -/
def MT (n : Int) : ByteArray := (laws_markText.f 30 n).getD ⟨#[]⟩
theorem markText_30 (n : Int) (h : n < 10000000000000000000) : laws_markText.f 30 n = some (MT n) := by
  unfold MT
  have : ∃ t, laws_markText.f 30 n = some t := by
    unfold laws_markText.f
    split
    · exact ⟨_, rfl⟩
    · exact markText_l0 19 30 n _ (by rw [show (10 : Int) ^ 19 = 10000000000000000000 by decide]; exact h) (by omega) (by decide)
  obtain ⟨t, e⟩ := this
  rw [e]; rfl
theorem markText_f (n : Int) (h : n < 10000000000000000000) : ∀ (k : Nat), 30 ≤ k → laws_markText.f k n = some (MT n) := by
  intro k hk
  obtain ⟨d, rfl⟩ : ∃ d, k = 30 + d := ⟨k - 30, by omega⟩
  induction d with
  | zero => exact markText_30 n h
  | succ d ih => exact laws_markText.mono n (30 + d) _ (ih (by omega))

/-! marks of texts -/
theorem markStringS_l0 (n : Nat) (hn : (n : Int) ≤ 46116860184273) (b : Int) (hb : 0 ≤ b) (hb2 : b ≤ 461168601842738) : ∀ (d k : Nat) (x : List ByteArray) (i : Nat), i + d = n → 31 + d < k → x.length = n →
    laws_markStringS.l0 k x (b + (i : Int)) (i : Int) = some (b + (n : Int), x.take i ++ (List.range' i d).map fun j : Nat => MT (b + (j : Int)))
  | 0, k, x, i, hi, hk, hx => by
    obtain ⟨k, rfl⟩ : ∃ q, k = q + 1 := ⟨k - 1, by omega⟩
    rw [laws_markStringS.l0, if_neg (by omega), List.take_of_length_le (by omega)]
    simp
    omega
  | d + 1, k, x, i, hi, hk, hx => by
    obtain ⟨k, rfl⟩ : ∃ q, k = q + 1 := ⟨k - 1, by omega⟩
    rw [laws_markStringS.l0, if_pos (by omega), markText_f _ (by omega) k (by omega), Option.bind_some, if_pos (by omega), w64 (x := b + (i : Int) + 1) (by omega) (by omega), w64 (x := (i : Int) + 1) (by omega) (by omega),
      show b + (i : Int) + 1 = b + ((i + 1 : Nat) : Int) by omega, show (i : Int) + 1 = ((i + 1 : Nat) : Int) by omega, markStringS_l0 n hn b hb hb2 d k _ (i + 1) (by omega) (by omega) (by rw [List.length_set]; exact hx), Int.toNat_natCast]
    congr 2
    rw [List.range'_succ, List.map_cons, List.take_succ_eq_append_getElem (by rw [List.length_set]; omega), List.getElem_set_self, List.take_set_of_le (by omega), List.append_assoc]
    rfl
def mkS (b : Int) (n : Nat) : List ByteArray := (List.range n).map fun j : Nat => MT (b + (j : Int))
theorem laws_markStringS_f (x : List ByteArray) (b : Int) (hb : 0 ≤ b) (hb2 : b ≤ 461168601842738) (hn : (x.length : Int) ≤ 46116860184273) (k : Nat) (hk : 32 + x.length ≤ k) : laws_markStringS.f k x b = some (b + (x.length : Int), mkS b x.length) := by
  unfold laws_markStringS.f mkS
  have := markStringS_l0 x.length hn b hb hb2 x.length k x 0 (by omega) (by omega) rfl
  rw [show b + ((0 : Nat) : Int) = b by omega] at this
  rw [show (0 : Int) = ((0 : Nat) : Int) from rfl, this]
  simp [List.range_eq_range']
theorem laws_heldStringS_f (n : Nat) (b : Int) (hb : 0 ≤ b) (hb2 : b ≤ 461168601842738) (hn : (n : Int) ≤ 46116860184273) (k : Nat) (hk : 32 + n ≤ k) : laws_heldStringS.f k (mkS b n) b = some (b + (n : Int)) := by
  have key : ∀ (d k : Nat) (i : Nat), i + d = n → 31 + d < k → laws_heldStringS.l0 k (mkS b n) (b + (i : Int)) (i : Int) = some (b + (n : Int)) := by
    intro d
    induction d with
    | zero =>
      intro k i hi hk
      obtain ⟨k, rfl⟩ : ∃ q, k = q + 1 := ⟨k - 1, by omega⟩
      rw [laws_heldStringS.l0, if_neg (by unfold mkS; simp; omega)]
      congr 1; omega
    | succ d ih =>
      intro k i hi hk
      obtain ⟨k, rfl⟩ : ∃ q, k = q + 1 := ⟨k - 1, by omega⟩
      have hr : rdOf ByteArray.empty (mkS b n) (i : Int) = MT (b + (i : Int)) := by
        unfold mkS
        rw [rdOf, Int.toNat_natCast, List.getD_eq_getElem?_getD, List.getElem?_map, List.getElem?_range (by omega)]; rfl
      rw [laws_heldStringS.l0, if_pos (by unfold mkS; simp; omega), if_pos (by omega), markText_f _ (by omega) k (by omega), hr]
      simp only [Option.bind_some]
      rw [if_pos trivial, w64 (x := b + (i : Int) + 1) (by omega) (by omega), w64 (x := (i : Int) + 1) (by omega) (by omega), show b + (i : Int) + 1 = b + ((i + 1 : Nat) : Int) by omega, show (i : Int) + 1 = ((i + 1 : Nat) : Int) by omega]
      exact ih k (i + 1) (by omega) (by omega)
  unfold laws_heldStringS.f
  have := key n k 0 (by omega) (by omega)
  rw [show b + ((0 : Nat) : Int) = b by omega] at this
  exact this

/-! marks of nodes: there are some, and the number is not below nought -/
theorem bind_set {α β : Type} (x : List α) (n : Nat) (a : α) (f : List α → Option β) (P : Option β → Prop) (h : ∀ y : List α, y.length = x.length → P (f y)) : P ((some (x.set n a)).bind f) := h _ List.length_set
theorem laws_markNodeS_some (n : Nat) (hn : (n : Int) ≤ 46116860184273) : ∀ (d k : Nat) (x : List S97) (i : Nat), i + d = n → 31 + d < k → x.length = n →
    ∃ y, laws_markNodeS.l0 k x (1 + 4 * (i : Int)) (i : Int) = some (1 + 4 * (n : Int), y)
  | 0, k, x, i, hi, hk, hx => by
    obtain ⟨k, rfl⟩ : ∃ q, k = q + 1 := ⟨k - 1, by omega⟩
    rw [laws_markNodeS.l0, if_neg (by omega)]
    exact ⟨x, by congr 2; omega⟩
  | d + 1, k, x, i, hi, hk, hx => by
    obtain ⟨k, rfl⟩ : ∃ q, k = q + 1 := ⟨k - 1, by omega⟩
    rw [laws_markNodeS.l0, if_pos (by omega), if_pos (by omega)]
    refine bind_set x _ _ _ (fun o => ∃ y, o = some (1 + 4 * (n : Int), y)) (fun y1 h1 => ?_)
    rw [w64 (x := 1 + 4 * (i : Int) + 1) (by omega) (by omega), markText_f _ (by omega) k (by omega), Option.bind_some]
    refine bind_set y1 _ _ _ (fun o => ∃ y, o = some (1 + 4 * (n : Int), y)) (fun y2 h2 => ?_)
    rw [w64 (x := 1 + 4 * (i : Int) + 1 + 1) (by omega) (by omega), markText_f _ (by omega) k (by omega), Option.bind_some]
    refine bind_set y2 _ _ _ (fun o => ∃ y, o = some (1 + 4 * (n : Int), y)) (fun y3 h3 => ?_)
    rw [w64 (x := 1 + 4 * (i : Int) + 1 + 1 + 1) (by omega) (by omega), w64 (x := 1 + 4 * (i : Int) + 1 + 1 + 1 + 1) (by omega) (by omega), w64 (x := (i : Int) + 1) (by omega) (by omega), show 1 + 4 * (i : Int) + 1 + 1 + 1 + 1 = 1 + 4 * ((i + 1 : Nat) : Int) by omega, show (i : Int) + 1 = ((i + 1 : Nat) : Int) by omega]
    exact laws_markNodeS_some n hn d k _ (i + 1) (by omega) (by omega) (by rw [List.length_set]; omega)
theorem laws_markNodeS_f (x : List S97) (hn : (x.length : Int) ≤ 46116860184273) (k : Nat) (hk : 32 + x.length ≤ k) : ∃ y, laws_markNodeS.f k x 1 = some (1 + 4 * (x.length : Int), y) := by
  unfold laws_markNodeS.f
  obtain ⟨y, e⟩ := laws_markNodeS_some x.length hn x.length k x 0 (by omega) (by omega) rfl
  rw [show 1 + 4 * ((0 : Nat) : Int) = 1 by omega] at e
  exact ⟨y, by rw [← e]; rfl⟩

/-! texts in order, each once -/
theorem bl_lt : ∀ (x y : List UInt8), Op.bytesLess x y = decide (x < y)
  | [], [] => by simp [Op.bytesLess]
  | _ :: _, [] => by simp [Op.bytesLess]
  | [], _ :: _ => by simp [Op.bytesLess]
  | a :: x, b :: y => by
    rw [Op.bytesLess, bl_lt x y]
    simp only [List.cons_lt_cons_iff]
    by_cases h1 : a < b <;> by_cases h2 : a = b <;> by_cases h3 : x < y <;> simp [h1, h2, h3]
theorem lt_tri (a b : List UInt8) : a < b ∨ a = b ∨ b < a := by
  rcases Decidable.em (a < b) with h | h
  · exact .inl h
  · rcases Decidable.em (b < a) with h2 | h2
    · exact .inr (.inr h2)
    · exact .inr (.inl (List.le_antisymm (List.not_lt.1 h2) (List.not_lt.1 h)))
/-- One text before another. -/
def Lt (a b : ByteArray) : Prop := a.toList < b.toList
theorem Lt_iff {a b : ByteArray} : Op.bytesLess a.toList b.toList = true ↔ Lt a b := by rw [bl_lt]; exact decide_eq_true_iff
theorem Lt_irr (a : ByteArray) : ¬ Lt a a := List.lt_irrefl _
theorem Lt_trans {a b c : ByteArray} (h : Lt a b) (h2 : Lt b c) : Lt a c := List.lt_trans h h2
theorem Lt_tri (a b : ByteArray) : Lt a b ∨ a = b ∨ Lt b a := by
  rcases lt_tri a.toList b.toList with h | h | h
  · exact .inl h
  · exact .inr (.inl (ba_inj.1 h))
  · exact .inr (.inr h)
def SS (l : List ByteArray) : Prop := l.Pairwise Lt
theorem SS_eq : ∀ (l m : List ByteArray), SS l → SS m → (∀ x, x ∈ l ↔ x ∈ m) → l = m
  | [], [], _, _, _ => rfl
  | [], y :: m, _, _, h => absurd ((h y).2 (by simp)) (by simp)
  | x :: l, [], _, _, h => absurd ((h x).1 (by simp)) (by simp)
  | x :: l, y :: m, hl, hm, h => by
    obtain ⟨h1, h2⟩ := List.pairwise_cons.1 hl
    obtain ⟨h3, h4⟩ := List.pairwise_cons.1 hm
    have e : x = y := by
      rcases List.mem_cons.1 ((h x).1 (by simp)) with e | e
      · exact e
      · rcases List.mem_cons.1 ((h y).2 (by simp)) with e2 | e2
        · exact e2.symm
        · exact absurd (Lt_trans (h1 y e2) (h3 x e)) (Lt_irr x)
    subst e
    congr 1
    refine SS_eq l m h2 h4 fun z => ⟨fun hz => ?_, fun hz => ?_⟩
    · rcases List.mem_cons.1 ((h z).1 (List.mem_cons_of_mem _ hz)) with e | e
      · subst e; exact absurd (h1 z hz) (Lt_irr z)
      · exact e
    · rcases List.mem_cons.1 ((h z).2 (List.mem_cons_of_mem _ hz)) with e | e
      · subst e; exact absurd (h3 z hz) (Lt_irr z)
      · exact e
/-- A text put among others in order, if it is not there. -/
def putS : List ByteArray → ByteArray → List ByteArray
  | [], t => [t]
  | y :: ys, t => if Op.bytesLess y.toList t.toList = true then y :: putS ys t else if y.toList = t.toList then y :: ys else t :: y :: ys
theorem putS_mem : ∀ (l : List ByteArray) (t x : ByteArray), x ∈ putS l t ↔ x = t ∨ x ∈ l
  | [], t, x => by simp [putS]
  | y :: ys, t, x => by
    rw [putS]
    split
    · simp only [List.mem_cons, putS_mem ys t x]
      constructor
      · rintro (h | h | h)
        · exact .inr (.inl h)
        · exact .inl h
        · exact .inr (.inr h)
      · rintro (h | h | h)
        · exact .inr (.inl h)
        · exact .inl h
        · exact .inr (.inr h)
    · split
      · rename_i h
        have := ba_inj.1 h
        subst this
        simp
      · simp
theorem putS_SS : ∀ (l : List ByteArray) (t : ByteArray), SS l → SS (putS l t)
  | [], t, h => by simp [putS, SS]
  | y :: ys, t, h => by
    obtain ⟨h1, h2⟩ := List.pairwise_cons.1 h
    rw [putS]
    split
    · rename_i hlt
      refine List.pairwise_cons.2 ⟨fun x hx => ?_, putS_SS ys t h2⟩
      rcases (putS_mem ys t x).1 hx with e | e
      · subst e; exact Lt_iff.1 hlt
      · exact h1 x e
    · split
      · exact h
      · rename_i hn hne
        have hty : Lt t y := by
          rcases Lt_tri t y with e | e | e
          · exact e
          · exact absurd (by rw [e]) hne
          · exact absurd (Lt_iff.2 e) hn
        refine List.pairwise_cons.2 ⟨fun x hx => ?_, h⟩
        rcases List.mem_cons.1 hx with e | e
        · subst e; exact hty
        · exact Lt_trans hty (h1 x e)
theorem putS_length : ∀ (l : List ByteArray) (t : ByteArray), (putS l t).length ≤ l.length + 1
  | [], t => by simp [putS]
  | y :: ys, t => by
    have := putS_length ys t
    rw [putS]
    split
    · simp only [List.length_cons]; omega
    · split <;> simp
def putAll (l : List ByteArray) (ts : List ByteArray) : List ByteArray := ts.foldl putS l
theorem putAll_mem : ∀ (ts l : List ByteArray) (x : ByteArray), x ∈ putAll l ts ↔ x ∈ ts ∨ x ∈ l
  | [], l, x => by simp [putAll]
  | t :: ts, l, x => by
    show x ∈ putAll (putS l t) ts ↔ _
    rw [putAll_mem ts (putS l t) x, putS_mem, List.mem_cons]
    constructor
    · rintro (h | h | h)
      · exact .inl (.inr h)
      · exact .inl (.inl h)
      · exact .inr h
    · rintro ((h | h) | h)
      · exact .inr (.inl h)
      · exact .inl h
      · exact .inr (.inr h)
theorem putAll_SS : ∀ (ts l : List ByteArray), SS l → SS (putAll l ts)
  | [], l, h => h
  | t :: ts, l, h => putAll_SS ts (putS l t) (putS_SS l t h)
theorem putAll_length : ∀ (ts l : List ByteArray), (putAll l ts).length ≤ l.length + ts.length
  | [], l => by simp [putAll]
  | t :: ts, l => by
    have h1 := putAll_length ts (putS l t)
    have h2 := putS_length l t
    show (putAll (putS l t) ts).length ≤ _
    simp only [List.length_cons]; omega
/-! what sorting and compaction give -/
theorem compact_mem (zs : List (List UInt8)) (x : List UInt8) : x ∈ Lib.compact zs ↔ x ∈ zs := by
  unfold Lib.compact Lib.compactUpTo
  constructor
  · intro h
    obtain ⟨i, hi, rfl⟩ := List.mem_map.1 h
    have hi' : i < zs.length := List.mem_range.1 (List.mem_filter.1 hi).1
    simp [getElem!_pos, hi']
  · intro h
    obtain ⟨i, hi, rfl⟩ := List.getElem_of_mem h
    have key : ∀ (n i : Nat) (hi : i < zs.length), i ≤ n → zs[i] ∈ (((List.range zs.length).filter (Lib.keeps zs.toArray)).map (zs.toArray[·]!)) := by
      intro n
      induction n with
      | zero =>
        intro i hi hn
        obtain rfl : i = 0 := by omega
        refine List.mem_map.2 ⟨0, List.mem_filter.2 ⟨List.mem_range.2 hi, by simp [Lib.keeps]⟩, by simp [getElem!_pos, hi]⟩
      | succ n ih =>
        intro i hi hn
        by_cases hk : Lib.keeps zs.toArray i = true
        · exact List.mem_map.2 ⟨i, List.mem_filter.2 ⟨List.mem_range.2 hi, hk⟩, by simp [getElem!_pos, hi]⟩
        · have h0 : ¬ (i = 0) ∧ zs.toArray[i]! = zs.toArray[i - 1]! := by
            unfold Lib.keeps at hk
            simp only [decide_eq_true_eq, not_or, Decidable.not_not] at hk
            exact hk
          have hi1 : i - 1 < zs.length := by omega
          have e : zs[i] = zs[i - 1] := by
            have := h0.2
            simpa [getElem!_pos, hi, hi1] using this
          rw [e]
          exact ih (i - 1) hi1 (by omega)
    exact key i i hi (Nat.le_refl _)
theorem compact_lt (zs : List (List UInt8)) (h : zs.Pairwise fun a b => a ≤ b) : (Lib.compact zs).Pairwise fun a b => a < b := by
  unfold Lib.compact Lib.compactUpTo
  rw [List.pairwise_map]
  have hr : ((List.range zs.length).filter (Lib.keeps zs.toArray)).Pairwise (· < ·) := List.Pairwise.filter _ List.pairwise_lt_range
  refine hr.imp_of_mem fun {i j} hi hj hij => ?_
  obtain ⟨h1, h2⟩ := List.mem_filter.1 hj
  have hjl := List.mem_range.1 h1
  have hne : zs.toArray[j]! ≠ zs.toArray[j - 1]! := by
    unfold Lib.keeps at h2
    simp only [decide_eq_true_eq] at h2
    rcases h2 with h2 | h2
    · omega
    · exact h2
  have hil : i < zs.length := by omega
  have hj1 : j - 1 < zs.length := by omega
  have e0 : zs.toArray[i]! = zs[i] := by simp [getElem!_pos, hil]
  have e1 : zs.toArray[j]! = zs[j] := by simp [getElem!_pos, hjl]
  have e2 : zs.toArray[j - 1]! = zs[j - 1] := by simp [getElem!_pos, hj1]
  show zs.toArray[i]! < zs.toArray[j]!
  rw [e0, e1]
  rw [e1, e2] at hne
  have hlt : zs[j - 1] < zs[j] := by
    have hle := List.pairwise_iff_getElem.1 h (j - 1) j hj1 hjl (by omega)
    rcases lt_tri zs[j - 1] zs[j] with e | e | e
    · exact e
    · exact absurd e.symm hne
    · exact absurd e (List.not_lt.2 hle)
  by_cases hij1 : i = j - 1
  · subst hij1; exact hlt
  · have hle := List.pairwise_iff_getElem.1 h i (j - 1) hil hj1 (by omega)
    rcases lt_tri zs[i] zs[j - 1] with e | e | e
    · exact List.lt_trans e hlt
    · rw [e]; exact hlt
    · exact absurd e (List.not_lt.2 hle)
theorem sorted_le (l : List (List UInt8)) : (l.mergeSort fun x y => decide (x ≤ y)).Pairwise fun a b => a ≤ b := by
  have := List.pairwise_mergeSort (le := fun x y : List UInt8 => decide (x ≤ y)) (fun a b c h1 h2 => by
    simp only [decide_eq_true_eq] at h1 h2 ⊢
    exact List.le_trans h1 h2) (fun a b => by
    simp only [Bool.or_eq_true, decide_eq_true_eq]
    exact List.le_total a b) l
  exact this.imp fun h => by simpa using h
theorem back_list (b : List UInt8) : (⟨b.toArray⟩ : ByteArray).toList = b := by rw [Go.Lib.toList_data]
theorem u_mem (l : List ByteArray) (x : ByteArray) : x ∈ impl_union.u l ↔ x ∈ l := by
  unfold impl_union.u
  rw [List.mem_map]
  constructor
  · rintro ⟨b, hb, rfl⟩
    have := (List.mergeSort_perm _ _).mem_iff.1 ((compact_mem _ _).1 hb)
    obtain ⟨y, hy, rfl⟩ := List.mem_map.1 this
    exact hy
  · intro h
    exact ⟨x.data.toList, (compact_mem _ _).2 ((List.mergeSort_perm _ _).mem_iff.2 (List.mem_map.2 ⟨x, h, rfl⟩)), rfl⟩
theorem u_SS (l : List ByteArray) : SS (impl_union.u l) := by
  unfold impl_union.u SS
  rw [List.pairwise_map]
  exact (compact_lt _ (sorted_le _)).imp fun h => by unfold Lt; rwa [back_list, back_list]
theorem u_putAll (l : List ByteArray) : impl_union.u l = putAll [] l :=
  SS_eq _ _ (u_SS l) (putAll_SS l [] (by simp [SS])) fun x => by rw [u_mem, putAll_mem]; simp

/-! FilterAttrs -/
theorem pmany_all (p : List Nd → Option (Nat × Nat)) (hp : ∀ l x, p l = some x → ∀ n ∈ l.take x.1, innerP n = true ∨ leafP n = true) : ∀ (m : Nat) (l : List Nd) (x : Nat × Nat), pmany p m l = some x → ∀ n ∈ l.take x.1, innerP n = true ∨ leafP n = true
  | 0, l, x, h, n, hn => by
    simp only [pmany, Option.some.injEq] at h
    rw [← h] at hn
    simp at hn
  | m + 1, l, x, h, n, hn => by
    simp only [pmany] at h
    obtain ⟨a, ha, h⟩ := Option.bind_eq_some_iff.1 h
    obtain ⟨b, hb, h⟩ := Option.bind_eq_some_iff.1 h
    simp only [Option.some.injEq] at h
    rw [← h] at hn
    have hn : n ∈ l.take (a.1 + b.1) := hn
    rw [List.take_add] at hn
    rcases List.mem_append.1 hn with e | e
    · exact hp l a ha n e
    · exact pmany_all p hp m _ b hb n e
theorem pnode_all : ∀ (f : Nat) (l : List Nd) (x : Nat × Nat), pnode f l = some x → ∀ n ∈ l.take x.1, innerP n = true ∨ leafP n = true
  | 0, l, x, h => by simp [pnode] at h
  | f + 1, [], x, h => by simp [pnode] at h
  | f + 1, n :: rest, x, h => by
    simp only [pnode] at h
    intro m hm
    split at h
    · rename_i hin
      obtain ⟨a, ha, h⟩ := Option.bind_eq_some_iff.1 h
      simp only [Option.some.injEq] at h
      rw [← h, List.take_succ_cons] at hm
      rcases List.mem_cons.1 hm with e | e
      · rw [e]; exact .inl hin
      · exact pmany_all (pnode f) (pnode_all f) _ _ a ha m e
    · split at h
      · rename_i hl
        simp only [Option.some.injEq] at h
        rw [← h] at hm
        simp at hm
        rw [hm]; exact .inr hl
      · cases h
theorem FilterP_mem {l : List Nd} (h : FilterP l = true) : l.length ≤ 20 ∧ ∀ n ∈ l, innerP n = true ∨ leafP n = true := by
  unfold FilterP at h
  simp only [Bool.and_eq_true, decide_eq_true_eq] at h
  refine ⟨h.1, ?_⟩
  have h2 := h.2
  cases hn : pnode 20 l with
  | none => rw [hn] at h2; cases h2
  | some x =>
    rw [hn] at h2
    simp only [Bool.and_eq_true, decide_eq_true_eq] at h2
    have := pnode_all 20 l x hn
    rwa [List.take_of_length_le (by omega)] at this
theorem inner_op {n : Nd} (h : innerP n = true) : n.f0 = 1 ∨ n.f0 = 2 ∨ n.f0 = 3 := by
  unfold innerP at h
  simp only [Bool.and_eq_true, Bool.or_eq_true, decide_eq_true_eq] at h
  omega
theorem leaf_op {n : Nd} (h : leafP n = true) : 4 ≤ n.f0 ∧ n.f0 ≤ 8 := by
  unfold leafP at h
  simp only [Bool.and_eq_true, Bool.or_eq_true, decide_eq_true_eq] at h
  omega
def isLeaf (n : Nd) : Bool := decide (n.f0 > 3)
def attrsOf (l : List Nd) : List ByteArray := (l.filter isLeaf).map (·.f1)
theorem attrsOf_cons (n : Nd) (l : List Nd) : attrsOf (n :: l) = if isLeaf n = true then n.f1 :: attrsOf l else attrsOf l := by
  unfold attrsOf
  rw [List.filter_cons]
  split <;> rfl
theorem attrsOf_length (l : List Nd) : (attrsOf l).length ≤ l.length := by
  unfold attrsOf
  rw [List.length_map]
  exact List.length_filter_le _ _
theorem impl_filterAttrs_l0 (l : List Nd) (hl : l.length ≤ 20) : ∀ (d k : Nat) (x : List ByteArray) (i : Int), 0 ≤ i → i + d = l.length → d < k → x.length ≤ i →
    impl_filterAttrs.l0 k x l (l.length : Int) i = some (impl_union.u (x ++ attrsOf (l.drop i.toNat)))
  | 0, k, x, i, h0, hi, hk, hx => by
    obtain ⟨k, rfl⟩ : ∃ q, k = q + 1 := ⟨k - 1, by omega⟩
    rw [impl_filterAttrs.l0, if_neg (by omega), List.drop_of_length_le (by omega)]
    unfold impl_union.f
    rw [if_pos (by simp; omega)]
    simp [attrsOf]
  | d + 1, k, x, i, h0, hi, hk, hx => by
    obtain ⟨k, rfl⟩ : ∃ q, k = q + 1 := ⟨k - 1, by omega⟩
    have hw : wrap64 (i + 1) = i + 1 := w64 (by omega) (by omega)
    rw [impl_filterAttrs.l0, if_pos (by omega), if_pos h0, if_pos (by omega), hw, nd_drop l i h0 (by omega), attrsOf_cons, show i.toNat + 1 = (i + 1).toNat by omega]
    by_cases h3 : (rd_T97 l i).f0 > 3
    · have e : isLeaf (rd_T97 l i) = true := decide_eq_true h3
      rw [if_pos h3, if_pos (by omega), if_pos e, impl_filterAttrs_l0 l hl d k _ (i + 1) (by omega) (by omega) (by omega) (by simp; omega)]
      simp
    · have e : isLeaf (rd_T97 l i) = false := decide_eq_false h3
      rw [if_neg h3, if_neg (by rw [e]; simp), impl_filterAttrs_l0 l hl d k _ (i + 1) (by omega) (by omega) (by omega) (by omega)]
def AttrsF (l : List Nd) : List ByteArray := if FilterP l = true then impl_union.u (attrsOf l) else []
theorem impl_FilterAttrs_f (l : List Nd) (k : Nat) (hk : 710 ≤ k) : impl_FilterAttrs.f k l = some (AttrsF l) := by
  unfold impl_FilterAttrs.f AttrsF impl_filterAttrs.f
  rw [impl_FilterRight_f l k hk, Option.bind_some]
  by_cases h : FilterP l = true
  · have hl := (FilterP_mem h).1
    rw [if_pos h, if_pos h, impl_filterAttrs_l0 l hl l.length k [] 0 (by omega) (by omega) (by omega) (by simp)]
    rfl
  · rw [if_neg h, if_neg h]
theorem spec_FilterAttrs_l1 (l : List Nd) (i : Int) (h0 : 0 ≤ i) (h1 : i < l.length) (out : List ByteArray) (ho : out.length ≤ 100) : ∀ (d k : Nat) (j : Int), 0 ≤ j → j + d = out.length →
    spec_FilterAttrs.l1 (k + 1 + d) l out i j = spec_FilterAttrs.l0 k l (out.take j.toNat ++ putS (out.drop j.toNat) (rd_T97 l i).f1) (wrap64 (i + 1)) ∨
    ∃ q, q ≤ d ∧ spec_FilterAttrs.l1 (k + 1 + d) l out i j = spec_FilterAttrs.l0 (k + q) l (out.take j.toNat ++ putS (out.drop j.toNat) (rd_T97 l i).f1) (wrap64 (i + 1))
  | 0, k, j, hj, hd => by
    left
    rw [spec_FilterAttrs.l1, if_neg (by omega), List.drop_of_length_le (by omega), List.take_of_length_le (by omega)]
    simp only [Option.bind_some]
    rw [if_pos hj, if_pos (by omega), if_pos (by simp; omega), if_pos h0, if_pos h1, if_pos (by simp; omega), if_pos (by simp; omega)]
    simp [putS]
  | d + 1, k, j, hj, hd => by
    have hlt : j.toNat < out.length := by omega
    have hr : rdOf ByteArray.empty out j = out[j.toNat] := by
      unfold rdOf
      rw [List.getD_eq_getElem?_getD, List.getElem?_eq_getElem hlt]; rfl
    rw [show k + 1 + (d + 1) = (k + 1 + d) + 1 by omega, spec_FilterAttrs.l1, if_pos (by omega), if_pos hj, if_pos h0, if_pos h1, hr, List.drop_eq_getElem_cons hlt, putS]
    by_cases hb : Op.bytesLess out[j.toNat].toList (rd_T97 l i).f1.toList = true
    · rw [if_pos hb, if_pos hb, w64 (x := j + 1) (by omega) (by omega)]
      have e : out.take (j + 1).toNat ++ putS (out.drop (j + 1).toNat) (rd_T97 l i).f1 = out.take j.toNat ++ out[j.toNat] :: putS (out.drop (j.toNat + 1)) (rd_T97 l i).f1 := by
        rw [show (j + 1).toNat = j.toNat + 1 by omega, List.take_succ_eq_append_getElem hlt, List.append_assoc]
        rfl
      rcases spec_FilterAttrs_l1 l i h0 h1 out ho d k (j + 1) (by omega) (by omega) with h | ⟨q, hq, h⟩
      · exact .inl (by rw [h, e])
      · exact .inr ⟨q, by omega, by rw [h, e]⟩
    · rw [if_neg hb, if_neg hb]
      by_cases he : out[j.toNat].toList = (rd_T97 l i).f1.toList
      · right
        refine ⟨d + 1, Nat.le_refl _, ?_⟩
        rw [if_pos he, if_pos he, show k + (d + 1) = k + 1 + d by omega]
        congr 1
        rw [← List.drop_eq_getElem_cons hlt, List.take_append_drop]
      · right
        refine ⟨d + 1, Nat.le_refl _, ?_⟩
        rw [if_neg he, if_neg he]
        simp only [Option.bind_some]
        rw [if_pos (by omega), if_pos (by simp; omega), if_pos (by simp; omega), if_pos (by simp; omega), show k + (d + 1) = k + 1 + d by omega]
        congr 1
        rw [← List.drop_eq_getElem_cons hlt]
        simp
theorem spec_FilterAttrs_l0 (l : List Nd) (hl : l.length ≤ 20) (hn : ∀ n ∈ l, innerP n = true ∨ leafP n = true) : ∀ (d k : Nat) (x : List ByteArray) (i : Int), 0 ≤ i → i + d = l.length → 200 * d < k → x.length ≤ i →
    spec_FilterAttrs.l0 k l x i = some (putAll x (attrsOf (l.drop i.toNat)))
  | 0, k, x, i, h0, hi, hk, hx => by
    obtain ⟨k, rfl⟩ : ∃ q, k = q + 1 := ⟨k - 1, by omega⟩
    rw [spec_FilterAttrs.l0, if_neg (by omega), List.drop_of_length_le (by omega)]
    rfl
  | d + 1, k, x, i, h0, hi, hk, hx => by
    obtain ⟨k, rfl⟩ : ∃ q, k = q + 1 := ⟨k - 1, by omega⟩
    have hw : wrap64 (i + 1) = i + 1 := w64 (by omega) (by omega)
    have hm : rd_T97 l i ∈ l := by
      unfold rd_T97
      rw [List.getD_eq_getElem?_getD, List.getElem?_eq_getElem (by omega : i.toNat < l.length)]
      exact List.getElem_mem _
    have hin : spec_l04Inner.f (rd_T97 l i).f0 (rd_T97 l i).f1 (rd_T97 l i).f2 (rd_T97 l i).f3 = some (!(isLeaf (rd_T97 l i))) := by
      unfold spec_l04Inner.f isLeaf
      rcases hn _ hm with h | h
      · have := inner_op h
        rw [decide_eq_false (by omega)]
        rcases this with e | e | e
        · rw [if_pos e]; rfl
        · rw [if_neg (by omega), if_pos e]; rfl
        · rw [if_neg (by omega), if_neg (by omega), beq_iff_eq.2 e]; rfl
      · have := leaf_op h
        rw [decide_eq_true (by omega), if_neg (by omega), if_neg (by omega), beq_eq_false_iff_ne.2 (by omega)]; rfl
    rw [spec_FilterAttrs.l0, if_pos (by omega), if_pos h0, hin, Option.bind_some, nd_drop l i h0 (by omega), attrsOf_cons, show i.toNat + 1 = (i + 1).toNat by omega, hw]
    cases hlf : isLeaf (rd_T97 l i) with
    | false =>
      rw [Bool.not_false, if_pos rfl, if_neg (by simp), spec_FilterAttrs_l0 l hl hn d k x (i + 1) (by omega) (by omega) (by omega) (by omega)]
    | true =>
      rw [Bool.not_true, if_neg (by simp), if_pos rfl]
      have hx20 : x.length ≤ 20 := by omega
      obtain ⟨k', rfl⟩ : ∃ q, k = q + 1 + x.length := ⟨k - 1 - x.length, by omega⟩
      have ih := fun q => spec_FilterAttrs_l0 l hl hn d (k' + q) (putS x (rd_T97 l i).f1) (i + 1) (by omega) (by omega) (by omega) (by have := putS_length x (rd_T97 l i).f1; omega)
      rcases spec_FilterAttrs_l1 l i h0 (by omega) x (by omega) x.length k' 0 (by omega) (by omega) with h | ⟨q, _, h⟩
      · rw [h, hw, show (0 : Int).toNat = 0 from rfl, List.take_zero, List.nil_append, List.drop_zero]
        exact ih 0
      · rw [h, hw, show (0 : Int).toNat = 0 from rfl, List.take_zero, List.nil_append, List.drop_zero]
        exact ih q
theorem spec_FilterAttrs_f (l : List Nd) (hl : l.length ≤ 4611686018427387904) (k : Nat) (hk : 5000 ≤ k) : spec_FilterAttrs.f k l = some (AttrsF l) := by
  obtain ⟨k, rfl⟩ : ∃ q, k = q + 1 := ⟨k - 1, by omega⟩
  unfold spec_FilterAttrs.f AttrsF
  rw [Option.bind_some]
  by_cases h4 : (l.length : Int) > 400
  · have : ¬ (FilterP l = true) := fun h => by have := (FilterP_mem h).1; omega
    rw [if_pos h4, spec_FilterAttrs.j0, if_pos rfl, if_neg this]
  · rw [if_neg h4, spec_FilterRight_f l _ (by omega), Option.bind_some, spec_FilterAttrs.j0]
    by_cases h : FilterP l = true
    · obtain ⟨hl2, hn⟩ := FilterP_mem h
      rw [h, if_neg (by simp), if_pos rfl, spec_FilterAttrs_l0 l hl2 hn l.length k [] 0 (by omega) (by omega) (by omega) (by simp), u_putAll]
      rfl
    · rw [Bool.eq_false_iff.2 h, Bool.not_false, if_pos rfl, if_neg (by simp)]
theorem AttrsF_length (l : List Nd) : (AttrsF l).length ≤ 20 := by
  unfold AttrsF
  split
  · rename_i h
    have h1 := (FilterP_mem h).1
    have h2 := attrsOf_length l
    have h3 := putAll_length (attrsOf l) []
    rw [u_putAll]
    simp at h3
    omega
  · simp

theorem FnExactFilterAttrs : laws_FnExactFilterAttrs.Pure := by
  intro l ⟨hl, _⟩
  obtain ⟨K, hK⟩ : ∃ K : Nat, K = 1152921504606846976 := ⟨_, rfl⟩
  refine ⟨K + 1, ?_⟩
  unfold laws_FnExactFilterAttrs.f
  obtain ⟨r, e⟩ := laws_szNodeS_f l (by omega) 1048576 (K + 1) (by omega)
  have hto : ∀ k, l.length < k → laws_toNodeS.f k l = some (l.map cvNode) := laws_toNodeS_f l (by omega)
  rw [e, hto _ (by omega), Option.bind_some]
  split
  · rfl
  · simp only [Option.bind_some]
    generalize hm : l.map cvNode = m at hto ⊢
    have hml : m.length = l.length := by rw [← hm, List.length_map]
    have hal := AttrsF_length m
    have heq : ∀ k, 20 < k → laws_eqStringS.f k (AttrsF m) (AttrsF m) = some true := fun k hk => laws_eqStringS_f _ (by omega) k (by omega)
    obtain ⟨y, ey⟩ := laws_markNodeS_f m (by omega) (K + 1) (by omega)
    rw [spec_FilterAttrs_f m (by omega) _ (by omega), impl_FilterAttrs_f m _ (by omega)]
    simp only [Option.bind_some]
    rw [heq _ (by omega), laws_eqNodeS_f m (by omega) _ (by omega), ey]
    simp only [Option.bind_some, if_true, Bool.not_true]
    rw [if_neg (by omega), laws_FnExactFilterAttrs.j0, if_neg (by simp), laws_markStringS_f (AttrsF m) 1 (by omega) (by omega) (by omega) K (by omega)]
    simp only [Option.bind_some]
    rw [laws_heldStringS_f _ 1 (by omega) (by omega) (by omega) K (by omega), hto _ (by omega)]
    simp only [Option.bind_some]
    rw [if_neg (by omega), if_pos trivial, impl_FilterAttrs_f m _ (by omega)]
    simp only [Option.bind_some]
    rw [heq _ (by omega)]
    simp only [Option.bind_some, if_true]
    rw [if_neg (by omega)]

end Go.Proofs.YtgkjlfimjnhbbaaDoor.Pure
