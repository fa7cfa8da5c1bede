/- The law FnExactFilterText answers true at every list of nodes: the program's FilterText gives what the reference's gives. No condition. -/
import Derived.Test.YtmkeigielncpjaaGreatDoorQFnExactFilterTextx11
import Derived.Laws.Bits64
import Derived.Lib.Strings
namespace Go.Proofs.YtmkeigielncpjaaGreatDoor.Pure
open Go.RowKit Go.Proofs.YtmkeigielncpjaaGreatDoor.PFnExactFilterText Go.Proofs.YtmkeigielncpjaaGreatDoorW.PrintWords Go.Proofs.YtmkeigielncpjaaGreatDoorW.PrintLast
set_option linter.unusedVariables false
set_option linter.unusedSimpArgs false

/-! plain lemmas -/
theorem w64 {x : Int} (h0 : -9223372036854775808 ≤ x) (h1 : x ≤ 9223372036854775807) : wrap64 x = x := by unfold wrap64; omega
theorem ba_ext {a b : ByteArray} (h : a.data.toList = b.data.toList) : a = b := ByteArray.ext (Array.toList_inj.1 h)
theorem ba_data_append (a b : ByteArray) : (a ++ b).data.toList = a.data.toList ++ b.data.toList := by simp
theorem drop_bt (s : ByteArray) (i : Int) (h0 : 0 ≤ i) (h1 : i < s.size) : (bytesOf s).drop i.toNat = bt s i :: (bytesOf s).drop (i + 1).toNat := by
  have hl : i.toNat < (bytesOf s).length := by rw [bytesOf_length]; omega
  rw [List.drop_eq_getElem_cons hl, ← rd_bytesOf, show (i + 1).toNat = i.toNat + 1 by omega]
  congr 1
  unfold rd
  rw [List.getD_eq_getElem?_getD, List.getElem?_eq_getElem hl]; rfl

/-! loops that go over a row once -/
theorem some_loop {ρ : Type} (n : Nat) (hn : (n : Int) ≤ 4611686018427387904) (K : Nat) (g : Nat → Int → Int → Option ρ)
    (step : ∀ (k : Nat) (a i : Int), K ≤ k → 0 ≤ i → i < n → (∃ r, g (k + 1) a i = some r) ∨ ∃ a', g (k + 1) a i = g k a' (wrap64 (i + 1)))
    (fin : ∀ (k : Nat) (a i : Int), K ≤ k → 0 ≤ i → (n : Int) ≤ i → ∃ r, g (k + 1) a i = some r) :
    ∀ (d k : Nat) (a i : Int), 0 ≤ i → i + d = n → K + d < k → ∃ r, g k a i = some r
  | 0, k, a, i, h0, hi, hk => by
    obtain ⟨k, rfl⟩ : ∃ q, k = q + 1 := ⟨k - 1, by omega⟩
    exact fin k a i (by omega) h0 (by omega)
  | d + 1, k, a, i, h0, hi, hk => by
    obtain ⟨k, rfl⟩ : ∃ q, k = q + 1 := ⟨k - 1, by omega⟩
    rcases step k a i (by omega) h0 (by omega) with h | ⟨a', e⟩
    · exact h
    · rw [e, w64 (x := i + 1) (by omega) (by omega)]
      exact some_loop n hn K g step fin d k a' (i + 1) (by omega) (by omega) (by omega)
theorem skip_loop {ρ : Type} (r : ρ) (n : Nat) (hn : (n : Int) ≤ 4611686018427387904) (K : Nat) (g : Nat → Int → Option ρ)
    (step : ∀ (k : Nat) (i : Int), K ≤ k → 0 ≤ i → i < n → g (k + 1) i = g k (wrap64 (i + 1)))
    (fin : ∀ (k : Nat) (i : Int), K ≤ k → 0 ≤ i → (n : Int) ≤ i → g (k + 1) i = some r) :
    ∀ (d k : Nat) (i : Int), 0 ≤ i → i + d = n → K + d < k → g k i = some r
  | 0, k, i, h0, hi, hk => by
    obtain ⟨k, rfl⟩ : ∃ q, k = q + 1 := ⟨k - 1, by omega⟩
    exact fin k i (by omega) h0 (by omega)
  | d + 1, k, i, h0, hi, hk => by
    obtain ⟨k, rfl⟩ : ∃ q, k = q + 1 := ⟨k - 1, by omega⟩
    rw [step k i (by omega) h0 (by omega), w64 (x := i + 1) (by omega) (by omega)]
    exact skip_loop r n hn K g step fin d k (i + 1) (by omega) (by omega) (by omega)
theorem copy_loop {β : Type} (n : Nat) (hn : (n : Int) ≤ 4611686018427387904) (src : Nat → β) (K : Nat) (g : Nat → List β → Int → Option (List β))
    (step : ∀ (k : Nat) (x : List β) (i : Int), K ≤ k → 0 ≤ i → i < n → x.length = n → g (k + 1) x i = g k (x.set i.toNat (src i.toNat)) (wrap64 (i + 1)))
    (fin : ∀ (k : Nat) (x : List β) (i : Int), (n : Int) ≤ i → g (k + 1) x i = some x) :
    ∀ (d k : Nat) (x : List β) (i : Int), 0 ≤ i → i + d = n → K + d < k → x.length = n → g k x i = some (x.take i.toNat ++ (List.range' i.toNat d).map src)
  | 0, k, x, i, h0, hi, hk, hx => by
    obtain ⟨k, rfl⟩ : ∃ q, k = q + 1 := ⟨k - 1, by omega⟩
    rw [fin k x i (by omega), List.take_of_length_le (by omega)]
    simp
  | d + 1, k, x, i, h0, hi, hk, hx => by
    obtain ⟨k, rfl⟩ : ∃ q, k = q + 1 := ⟨k - 1, by omega⟩
    rw [step k x i (by omega) h0 (by omega) hx, w64 (x := i + 1) (by omega) (by omega),
      copy_loop n hn src K g step fin d k _ (i + 1) (by omega) (by omega) (by omega) (by rw [List.length_set]; exact hx)]
    congr 1
    rw [show (i + 1).toNat = i.toNat + 1 by omega, List.range'_succ, List.map_cons, List.take_succ_eq_append_getElem (by rw [List.length_set]; omega), List.getElem_set_self, List.take_set_of_le (by omega), List.append_assoc]
    rfl
theorem copy_all {β : Type} (n : Nat) (hn : (n : Int) ≤ 4611686018427387904) (src : Nat → β) (K : Nat) (g : Nat → List β → Int → Option (List β)) (z : β)
    (step : ∀ (k : Nat) (x : List β) (i : Int), K ≤ k → 0 ≤ i → i < n → x.length = n → g (k + 1) x i = g k (x.set i.toNat (src i.toNat)) (wrap64 (i + 1)))
    (fin : ∀ (k : Nat) (x : List β) (i : Int), (n : Int) ≤ i → g (k + 1) x i = some x) (k : Nat) (hk : K + n < k) :
    g k (List.replicate n z) 0 = some ((List.range n).map src) := by
  rw [copy_loop n hn src K g step fin n k _ 0 (by omega) (by omega) hk (by simp)]
  simp [List.range_eq_range']
theorem range_map_getD {α β : Type} (l : List α) (z : α) (f : α → β) : (List.range l.length).map (fun j => f (l.getD j z)) = l.map f := by
  apply List.ext_getElem
  · simp
  · intro i h1 h2
    simp only [List.getElem_map, List.getElem_range]
    rw [List.getD_eq_getElem?_getD, List.getElem?_eq_getElem (by simpa using h1)]
    rfl
def cvNode (x : S61) : S64 := ⟨x.f0, x.f1, x.f2, x.f3⟩
theorem laws_szNodeS_f (l : List S61) (hl : (l.length : Int) ≤ 4611686018427387904) (a : Int) (k : Nat) (hk : l.length < k) : ∃ r, laws_szNodeS.f k l a = some r := by
  unfold laws_szNodeS.f
  split
  · exact ⟨_, rfl⟩
  · refine some_loop l.length hl 0 (fun k a i => laws_szNodeS.l0 k l a i) (fun k a i _ h0 hi => ?_) (fun k a i _ h0 hi => ?_) l.length k _ 0 (by omega) (by omega) (by omega)
    · show (∃ r, laws_szNodeS.l0 (k + 1) l a i = some r) ∨ ∃ a', laws_szNodeS.l0 (k + 1) l a i = laws_szNodeS.l0 k l a' (wrap64 (i + 1))
      rw [laws_szNodeS.l0, if_pos hi, if_pos h0]
      unfold laws_szNode.f
      repeat' split
      all_goals simp only [Option.bind_some]
      all_goals (try split)
      all_goals first | exact .inl ⟨_, rfl⟩ | exact .inr ⟨_, rfl⟩
    · show ∃ r, laws_szNodeS.l0 (k + 1) l a i = some r
      rw [laws_szNodeS.l0, if_neg (by omega)]
      exact ⟨_, rfl⟩
theorem laws_toNodeS_f (l : List S61) (hl : l.length ≤ 5864062014805) (k : Nat) (hk : l.length < k) : laws_toNodeS.f k l = some (l.map cvNode) := by
  unfold laws_toNodeS.f
  rw [if_pos (by omega), if_pos (by omega), show ((l.length : Int)).toNat = l.length from rfl,
    copy_all l.length (by omega) (fun j => cvNode (l.getD j z61)) 0 (fun k x i => laws_toNodeS.l0 k l x i) z64 (fun k x i _ h0 hi hx => ?_) (fun k x i hi => ?_) k (by omega), range_map_getD]
  · show laws_toNodeS.l0 (k + 1) l x i = _
    rw [laws_toNodeS.l0, if_pos hi, if_pos h0]
    unfold laws_toNode.f
    simp only [Option.bind_some]
    rw [if_pos (by omega)]
    rfl
  · show laws_toNodeS.l0 (k + 1) l x i = _
    rw [laws_toNodeS.l0, if_neg (by omega)]
theorem laws_eqNodeS_f (l : List S64) (hl : (l.length : Int) ≤ 4611686018427387904) (k : Nat) (hk : l.length < k) : laws_eqNodeS.f k l l = some true := by
  unfold laws_eqNodeS.f
  rw [if_pos rfl]
  refine skip_loop true l.length hl 0 (fun k i => laws_eqNodeS.l0 k l l i) (fun k i _ h0 hi => ?_) (fun k i _ h0 hi => ?_) l.length k 0 (by omega) (by omega) (by omega)
  · show laws_eqNodeS.l0 (k + 1) l l i = laws_eqNodeS.l0 k l l (wrap64 (i + 1))
    rw [laws_eqNodeS.l0, if_pos hi, if_pos h0, if_pos hi]
    unfold laws_eqNode.f
    rw [if_pos rfl, if_pos rfl, if_pos rfl, if_pos rfl]
    simp
  · show laws_eqNodeS.l0 (k + 1) l l i = _
    rw [laws_eqNodeS.l0, if_neg (by omega)]

/-! Norm -/
/-- A capital as a small letter. -/
def up (c : Int) : Int := if 65 ≤ c ∧ c ≤ 90 then c + 32 else c
/-- A byte put behind what is there: no blank at the begin, none behind another. -/
def nput (l : List Int) (c : Int) : List Int := if c = 32 ∧ (l = [] ∨ rd l ((l.length : Int) - 1) = 32) then l else l ++ [c]
def nfold (l cs : List Int) : List Int := cs.foldl (fun l c => nput l (up c)) l
def ntrim (l : List Int) : List Int := if l ≠ [] ∧ rd l ((l.length : Int) - 1) = 32 then l.take (l.length - 1) else l
def prt (c : Int) : Bool := decide (32 ≤ c) && decide (c ≤ 126)
theorem prt_lo {c : Int} (h : c < 32) : prt c = false := by unfold prt; rw [decide_eq_false (by omega)]; rfl
theorem prt_hi {c : Int} (h : c > 126) : prt c = false := by unfold prt; rw [decide_eq_false (p := c ≤ 126) (by omega)]; simp
def plainP (s : ByteArray) : Bool := (bytesOf s).all prt
def NormL (s : ByteArray) : List Int := if s.size ≤ 100 ∧ plainP s = true then ntrim (nfold [] (bytesOf s)) else []
def NormP (s : ByteArray) : ByteArray := strOfNums (NormL s)
theorem spec_l02Plain_l0 (s : ByteArray) (hs : s.size ≤ 4611686018427387904) : ∀ (d k : Nat) (i : Int), 0 ≤ i → i + d = s.size → d < k →
    spec_l02Plain.l0 k s i = some (((bytesOf s).drop i.toNat).all prt)
  | 0, k, i, h0, hd, hk => by
    obtain ⟨k, rfl⟩ : ∃ m, k = m + 1 := ⟨k - 1, by omega⟩
    simp only [spec_l02Plain.l0]
    rw [if_neg (by omega), List.drop_of_length_le (by rw [bytesOf_length]; omega)]; rfl
  | d + 1, k, i, h0, hd, hk => by
    obtain ⟨k, rfl⟩ : ∃ m, k = m + 1 := ⟨k - 1, by omega⟩
    simp only [spec_l02Plain.l0]
    rw [if_pos (by omega), if_pos h0, drop_bt s i h0 (by omega), List.all_cons]
    by_cases h1 : bt s i < 32
    · rw [if_pos h1, show prt (bt s i) = false from prt_lo h1]; rfl
    · rw [if_neg h1]
      by_cases h2 : bt s i > 126
      · rw [if_pos h2, show prt (bt s i) = false from prt_hi h2]; rfl
      · rw [if_neg h2, w64 (by omega) (by omega), spec_l02Plain_l0 s hs d k (i + 1) (by omega) (by omega) (by omega)]
        simp [prt, show 32 ≤ bt s i by omega, show bt s i ≤ 126 by omega]
theorem spec_l02Plain_f (s : ByteArray) (hs : s.size ≤ 4611686018427387904) (k : Nat) (hk : s.size < k) : spec_l02Plain.f k s = some (plainP s) := by
  unfold spec_l02Plain.f
  rw [spec_l02Plain_l0 s hs s.size k 0 (by omega) (by omega) hk]; rfl
theorem impl_isPrintable_l0 (s : ByteArray) (hs : s.size ≤ 4611686018427387904) : ∀ (d k : Nat) (i : Int), 0 ≤ i → i + d = s.size → d < k →
    impl_isPrintable.l0 k s (s.size : Int) i = some (((bytesOf s).drop i.toNat).all prt)
  | 0, k, i, h0, hd, hk => by
    obtain ⟨k, rfl⟩ : ∃ m, k = m + 1 := ⟨k - 1, by omega⟩
    simp only [impl_isPrintable.l0]
    rw [if_neg (by omega), List.drop_of_length_le (by rw [bytesOf_length]; omega)]; rfl
  | d + 1, k, i, h0, hd, hk => by
    obtain ⟨k, rfl⟩ : ∃ m, k = m + 1 := ⟨k - 1, by omega⟩
    simp only [impl_isPrintable.l0]
    rw [if_pos (by omega), if_pos h0, if_pos (by omega), drop_bt s i h0 (by omega), List.all_cons]
    by_cases h1 : bt s i < 32
    · rw [if_pos h1, show prt (bt s i) = false from prt_lo h1]; rfl
    · rw [if_neg h1]
      by_cases h2 : bt s i > 126
      · rw [if_pos h2, show prt (bt s i) = false from prt_hi h2]; rfl
      · rw [if_neg h2, w64 (by omega) (by omega), impl_isPrintable_l0 s hs d k (i + 1) (by omega) (by omega) (by omega)]
        simp [prt, show 32 ≤ bt s i by omega, show bt s i ≤ 126 by omega]
theorem impl_isPrintable_f (s : ByteArray) (hs : s.size ≤ 4611686018427387904) (k : Nat) (hk : s.size < k) : impl_isPrintable.f k s = some (plainP s) := by
  unfold impl_isPrintable.f
  rw [impl_isPrintable_l0 s hs s.size k 0 (by omega) (by omega) hk]; rfl
theorem nput_length (l : List Int) (c : Int) : (nput l c).length ≤ l.length + 1 := by
  unfold nput; split <;> simp
theorem up_of {c : Int} (h0 : 0 ≤ c) (h1 : c ≤ 255) (b : Bool) (hb : b = (decide (c ≥ 65) && decide (c ≤ 90))) : (if b = true then (c + 32) % 256 else c) = up c := by
  unfold up
  subst hb
  by_cases h : 65 ≤ c ∧ c ≤ 90
  · rw [if_pos h, if_pos (by simp [h.1, h.2])]; omega
  · rw [if_neg h, if_neg (by simpa using h)]
theorem spec_Norm_j2 (k : Nat) (s : ByteArray) (l : List Int) (i c : Int) (b : Bool) (hl : l.length < 1000) (h0 : 0 ≤ i) (h1 : i < 1000) :
    spec_Norm.j2 (k + 1) s l i c b = spec_Norm.l0 k s (nput l (if b = true then (c + 32) % 256 else c)) (i + 1) := by
  simp only [spec_Norm.j2]
  rw [w64 (x := i + 1) (by omega) (by omega), w64 (x := (l.length : Int) - 1) (by omega) (by omega), if_pos (show l.length < 140737488355328 by omega), if_pos (show l.length < 140737488355328 by omega)]
  have key : ∀ c : Int, (if c = 32 then (if (l.length : Int) = 0 then spec_Norm.l0 k s l (i + 1) else (if 0 ≤ (l.length : Int) - 1 then (if (l.length : Int) - 1 < (l.length : Int) then (if rd l ((l.length : Int) - 1) = 32 then spec_Norm.l0 k s l (i + 1) else spec_Norm.l0 k s (l ++ [c]) (i + 1)) else none) else none)) else spec_Norm.l0 k s (l ++ [c]) (i + 1)) = spec_Norm.l0 k s (nput l c) (i + 1) := by
    intro c
    unfold nput
    by_cases hc : c = 32
    · rw [if_pos hc]
      by_cases hn : l = []
      · rw [if_pos (by simp [hn]), if_pos ⟨hc, .inl hn⟩]
      · have : 0 < l.length := List.length_pos_iff.2 hn
        rw [if_neg (by omega), if_pos (by omega), if_pos (by omega)]
        by_cases hr : rd l ((l.length : Int) - 1) = 32
        · rw [if_pos hr, if_pos ⟨hc, .inr hr⟩]
        · rw [if_neg hr, if_neg (fun x => x.2.elim hn hr)]
    · rw [if_neg hc, if_neg (fun x => hc x.1)]
  cases b
  · exact key c
  · exact key _
theorem impl_Norm_j2 (k : Nat) (s : ByteArray) (l : List Int) (n i c : Int) (b : Bool) (hl : l.length < 1000) (h0 : 0 ≤ i) (h1 : i < 1000) :
    impl_Norm.j2 (k + 1) s l c n i b = impl_Norm.l0 k s (nput l (if b = true then (c + 32) % 256 else c)) n (i + 1) := by
  simp only [impl_Norm.j2]
  rw [w64 (x := i + 1) (by omega) (by omega), w64 (x := (l.length : Int) - 1) (by omega) (by omega), if_pos (show l.length < 140737488355328 by omega), if_pos (show l.length < 140737488355328 by omega)]
  have key : ∀ c : Int, (if c = 32 then (if (l.length : Int) > 0 then (if 0 ≤ (l.length : Int) - 1 then (if (l.length : Int) - 1 < (l.length : Int) then (if rd l ((l.length : Int) - 1) = 32 then impl_Norm.l0 k s l n (i + 1) else impl_Norm.l0 k s (l ++ [c]) n (i + 1)) else none) else none) else impl_Norm.l0 k s l n (i + 1)) else impl_Norm.l0 k s (l ++ [c]) n (i + 1)) = impl_Norm.l0 k s (nput l c) n (i + 1) := by
    intro c
    unfold nput
    by_cases hc : c = 32
    · rw [if_pos hc]
      by_cases hn : l = []
      · rw [if_neg (by simp [hn]), if_pos ⟨hc, .inl hn⟩]
      · have : 0 < l.length := List.length_pos_iff.2 hn
        rw [if_pos (by omega), if_pos (by omega), if_pos (by omega)]
        by_cases hr : rd l ((l.length : Int) - 1) = 32
        · rw [if_pos hr, if_pos ⟨hc, .inr hr⟩]
        · rw [if_neg hr, if_neg (fun x => x.2.elim hn hr)]
    · rw [if_neg hc, if_neg (fun x => hc x.1)]
  cases b
  · exact key c
  · exact key _
theorem spec_Norm_l0 (s : ByteArray) (hs : s.size ≤ 100) : ∀ (d k : Nat) (i : Int) (l : List Int), 0 ≤ i → i + d = s.size → 2 * d < k → l.length ≤ i →
    spec_Norm.l0 k s l i = some (strOfNums (ntrim (nfold l ((bytesOf s).drop i.toNat))))
  | 0, k, i, l, h0, hd, hk, hl => by
    obtain ⟨k, rfl⟩ : ∃ m, k = m + 1 := ⟨k - 1, by omega⟩
    simp only [spec_Norm.l0]
    rw [if_neg (by omega), List.drop_of_length_le (by rw [bytesOf_length]; omega)]
    rw [show nfold l [] = l from rfl]
    unfold ntrim
    by_cases hn : l = []
    · subst hn; simp
    · have : 0 < l.length := List.length_pos_iff.2 hn
      rw [w64 (x := (l.length : Int) - 1) (by omega) (by omega), if_pos (by omega), if_pos (by omega), if_pos (by omega)]
      by_cases hr : rd l ((l.length : Int) - 1) = 32
      · rw [if_pos hr, if_pos (show (l.length : Int) - 1 ≤ (l.length : Int) by omega), if_pos ⟨hn, hr⟩, show ((l.length : Int) - 1).toNat = l.length - 1 by omega]
      · rw [if_neg hr, if_neg (fun x => hr x.2)]
  | d + 1, k, i, l, h0, hd, hk, hl => by
    obtain ⟨k, rfl⟩ : ∃ m, k = m + 2 := ⟨k - 2, by omega⟩
    have hb := bt_range s i
    have hj : ∀ b : Bool, b = (decide (bt s i ≥ 65) && decide (bt s i ≤ 90)) → spec_Norm.j2 (k + 1) s l i (bt s i) b = some (strOfNums (ntrim (nfold l ((bytesOf s).drop i.toNat)))) := by
      intro b hbb
      rw [spec_Norm_j2 k s l i _ b (by omega) h0 (by omega), up_of hb.1 hb.2 b hbb]
      have := nput_length l (up (bt s i))
      rw [spec_Norm_l0 s hs d k (i + 1) _ (by omega) (by omega) (by omega) (by omega), drop_bt s i h0 (by omega)]; rfl
    simp only [spec_Norm.l0]
    rw [if_pos (by omega), if_pos h0]
    by_cases h : bt s i ≥ 65
    · rw [if_pos h]; exact hj _ (by simp [h])
    · rw [if_neg h]; exact hj _ (by simp [h])
theorem son_take (l : List Int) (n : Nat) : (strOfNums l).extract 0 n = strOfNums (l.take n) := by
  apply ba_ext
  rw [ByteArray.data_extract, Array.toList_extract, strOfNums_data, strOfNums_data]
  simp [List.extract]
theorem son_drop (l : List Int) (n : Nat) : (strOfNums l).extract n (strOfNums l).size = strOfNums (l.drop n) := by
  apply ba_ext
  rw [ByteArray.data_extract, Array.toList_extract, strOfNums_data, strOfNums_data, strOfNums_size]
  simp only [List.extract, List.map_drop]
  exact List.take_of_length_le (by simp)
theorem drop_last (l : List Int) (h : 0 < l.length) : l.drop (l.length - 1) = [rd l ((l.length : Int) - 1)] := by
  rw [List.drop_eq_getElem_cons (by omega), List.drop_of_length_le (by omega)]
  congr 1
  unfold rd
  rw [show ((l.length : Int) - 1).toNat = l.length - 1 by omega, List.getD_eq_getElem?_getD, List.getElem?_eq_getElem (by omega)]; rfl
theorem trim_blank (l : List Int) (hl : l.length < 1000) (hr : ∀ x ∈ l, 0 ≤ x ∧ x ≤ 255) : strings_TrimSuffix.f (strOfNums l) (⟨#[32]⟩ : ByteArray) = some (strOfNums (ntrim l)) := by
  have hz : (⟨#[32]⟩ : ByteArray).size = 1 := rfl
  unfold strings_TrimSuffix.f stringslite_TrimSuffix.f stringslite_HasSuffix.f ntrim
  rw [hz]
  by_cases hn : l = []
  · subst hn
    rw [if_neg (show ¬ (((strOfNums []).size : Int) ≥ ((1 : Nat) : Int)) by decide)]; rfl
  · have hp : 0 < l.length := List.length_pos_iff.2 hn
    have hin : rd l ((l.length : Int) - 1) ∈ l := by have h := drop_last l hp; exact List.mem_of_mem_drop (i := l.length - 1) (by rw [h]; simp)
    have hb := hr _ hin
    simp only [strOfNums_size, Int.natCast_one]
    rw [w64 (x := (l.length : Int) - 1) (by omega) (by omega), if_pos (by omega), if_pos (by omega), if_pos (by omega)]
    simp only [Option.bind_some]
    have e1 : (strOfNums l).extract ((l.length : Int) - 1).toNat l.length = strOfNums [rd l ((l.length : Int) - 1)] := by
      rw [← drop_last l hp, ← son_drop, strOfNums_size, show ((l.length : Int) - 1).toNat = l.length - 1 by omega]
    rw [e1]
    have e2 : ((strOfNums [rd l ((l.length : Int) - 1)]).toList == (⟨#[32]⟩ : ByteArray).toList) = decide (rd l ((l.length : Int) - 1) = 32) := by
      rw [Go.Lib.toList_data, Go.Lib.toList_data, strOfNums_data]
      generalize rd l ((l.length : Int) - 1) = x at hb
      have key : ∀ z : Fin 256, (([(z.val : Int)].map fun n => UInt8.ofNat n.toNat) == (⟨#[32]⟩ : ByteArray).data.toList) = decide ((z.val : Int) = 32) := by decide +kernel
      have := key ⟨x.toNat, by omega⟩
      simpa [Int.toNat_of_nonneg hb.1] using this
    rw [e2]
    by_cases h : rd l ((l.length : Int) - 1) = 32
    · rw [decide_eq_true h]
      simp only [if_true, Option.bind_some]
      rw [if_pos (show l ≠ [] ∧ rd l ((l.length : Int) - 1) = 32 from ⟨hn, h⟩), son_take, show ((l.length : Int) - 1).toNat = l.length - 1 by omega, if_pos (show 0 ≤ (l.length : Int) - 1 by omega), if_pos (show (l.length : Int) - 1 ≤ (l.length : Int) by omega)]; rfl
    · rw [decide_eq_false h, if_neg (show ¬ (l ≠ [] ∧ rd l ((l.length : Int) - 1) = 32) from fun x => h x.2)]; rfl
theorem nput_range {l : List Int} {c : Int} (hl : ∀ x ∈ l, 0 ≤ x ∧ x ≤ 255) (hc : 0 ≤ c ∧ c ≤ 255) : ∀ x ∈ nput l c, 0 ≤ x ∧ x ≤ 255 := by
  intro x hx
  unfold nput at hx
  split at hx
  · exact hl x hx
  · rcases List.mem_append.1 hx with h | h
    · exact hl x h
    · rw [List.mem_singleton.1 h]; exact hc
theorem up_range {c : Int} (hc : 0 ≤ c ∧ c ≤ 255) : 0 ≤ up c ∧ up c ≤ 255 := by unfold up; split <;> omega
theorem impl_Norm_l0 (s : ByteArray) (hs : s.size ≤ 100) : ∀ (d k : Nat) (i : Int) (l : List Int), 0 ≤ i → i + d = s.size → 2 * d < k → l.length ≤ i → (∀ x ∈ l, 0 ≤ x ∧ x ≤ 255) →
    impl_Norm.l0 k s l (s.size : Int) i = some (strOfNums (ntrim (nfold l ((bytesOf s).drop i.toNat))))
  | 0, k, i, l, h0, hd, hk, hl, hr => by
    obtain ⟨k, rfl⟩ : ∃ m, k = m + 1 := ⟨k - 1, by omega⟩
    simp only [impl_Norm.l0]
    rw [if_neg (by omega), List.drop_of_length_le (by rw [bytesOf_length]; omega), trim_blank l (by omega) hr]
    rfl
  | d + 1, k, i, l, h0, hd, hk, hl, hr => by
    obtain ⟨k, rfl⟩ : ∃ m, k = m + 2 := ⟨k - 2, by omega⟩
    have hb := bt_range s i
    have hj : ∀ b : Bool, b = (decide (bt s i ≥ 65) && decide (bt s i ≤ 90)) → impl_Norm.j2 (k + 1) s l (bt s i) (s.size : Int) i b = some (strOfNums (ntrim (nfold l ((bytesOf s).drop i.toNat)))) := by
      intro b hbb
      rw [impl_Norm_j2 k s l _ i _ b (by omega) h0 (by omega), up_of hb.1 hb.2 b hbb]
      have := nput_length l (up (bt s i))
      rw [impl_Norm_l0 s hs d k (i + 1) _ (by omega) (by omega) (by omega) (by omega) (nput_range hr (up_range hb)), drop_bt s i h0 (by omega)]; rfl
    simp only [impl_Norm.l0]
    rw [if_pos (by omega), if_pos h0, if_pos (by omega)]
    by_cases h : bt s i ≥ 65
    · rw [if_pos h]; exact hj _ (by simp [h])
    · rw [if_neg h]; exact hj _ (by simp [h])
theorem spec_Norm_f (s : ByteArray) (k : Nat) (hk : 2 * s.size + 2 < k) : spec_Norm.f k s = some (NormP s) := by
  obtain ⟨k, rfl⟩ : ∃ m, k = m + 1 := ⟨k - 1, by omega⟩
  unfold spec_Norm.f NormP NormL
  by_cases h : s.size ≤ 100
  · rw [if_neg (by omega), spec_l02Plain_f s (by omega) _ (by omega)]
    simp only [Option.bind_some, spec_Norm.j0]
    by_cases hp : plainP s = true
    · rw [if_neg (by simp [hp]), if_pos ⟨h, hp⟩, spec_Norm_l0 s h s.size k 0 [] (by omega) (by omega) (by omega) (by simp)]; rfl
    · rw [if_pos (by simp [hp]), if_neg (fun x => hp x.2)]; rfl
  · rw [if_pos (by omega), if_neg (fun x => h x.1)]
    simp only [spec_Norm.j0, if_true]; rfl
theorem impl_Norm_f (s : ByteArray) (k : Nat) (hk : 2 * s.size + 2 < k) : impl_Norm.f k s = some (NormP s) := by
  obtain ⟨k, rfl⟩ : ∃ m, k = m + 1 := ⟨k - 1, by omega⟩
  unfold impl_Norm.f NormP NormL
  by_cases h : s.size ≤ 100
  · rw [if_neg (by omega), impl_isPrintable_f s (by omega) _ (by omega)]
    simp only [Option.bind_some, impl_Norm.j0]
    by_cases hp : plainP s = true
    · rw [if_neg (by simp [hp]), if_pos ⟨h, hp⟩, impl_Norm_l0 s h s.size k 0 [] (by omega) (by omega) (by omega) (by simp) (by simp)]; rfl
    · rw [if_pos (by simp [hp]), if_neg (fun x => hp x.2)]; rfl
  · rw [if_pos (by omega), if_neg (fun x => h x.1)]
    simp only [impl_Norm.j0, if_true]; rfl

/-! NameRight -/
def lowc (c : Int) : Bool := decide (97 ≤ c) && decide (c ≤ 122)
def nch (c : Int) : Bool := lowc c || (decide (48 ≤ c) && decide (c ≤ 57)) || decide (c = 95)
/-- What NameRight says. -/
def NameP (s : ByteArray) : Bool := decide (1 ≤ s.size) && decide (s.size ≤ 20) && lowc (bt s 0) && (bytesOf s).all nch
theorem spec_NameRight_l0 (s : ByteArray) (hs : s.size ≤ 20) : ∀ (d k : Nat) (i : Int), 0 ≤ i → i + d = s.size → d < k →
    spec_NameRight.l0 k s i = some ((decide (i ≠ 0) || decide (s.size = 0) || lowc (bt s 0)) && ((bytesOf s).drop i.toNat).all nch)
  | 0, k, i, h0, hi, hk => by
    obtain ⟨k, rfl⟩ : ∃ q, k = q + 1 := ⟨k - 1, by omega⟩
    rw [spec_NameRight.l0, if_neg (by omega), List.drop_of_length_le (by rw [bytesOf_length]; omega), List.all_nil, Bool.and_true]
    by_cases hz : i = 0
    · rw [decide_eq_true (p := s.size = 0) (by omega)]; simp
    · rw [decide_eq_true (p := i ≠ 0) hz]; rfl
  | d + 1, k, i, h0, hi, hk => by
    obtain ⟨k, rfl⟩ : ∃ q, k = q + 1 := ⟨k - 1, by omega⟩
    have ih := spec_NameRight_l0 s hs d k (i + 1) (by omega) (by omega) (by omega)
    rw [decide_eq_true (p := i + 1 ≠ 0) (by omega), Bool.true_or, Bool.true_or, Bool.true_and] at ih
    rw [spec_NameRight.l0, if_pos (by omega), if_pos h0, drop_bt s i h0 (by omega), List.all_cons, w64 (x := i + 1) (by omega) (by omega), ih, decide_eq_false (p := s.size = 0) (by omega), Bool.or_false]
    have hc := bt_range s i
    generalize hcg : bt s i = c at hc ⊢
    have h00 : i = 0 → lowc (bt s 0) = lowc c := fun e => by rw [← hcg, e]
    unfold nch lowc at *
    by_cases c1 : c ≥ 97
    · rw [if_pos c1, decide_eq_true (p := 97 ≤ c) c1]
      by_cases c2 : c ≤ 122
      · rw [if_pos c2, decide_eq_true c2]
        by_cases hz : i = 0
        · rw [h00 hz, decide_eq_true (p := 97 ≤ c) c1, decide_eq_true c2]; simp
        · rw [decide_eq_true (p := i ≠ 0) hz]; simp
      · rw [if_neg c2, decide_eq_false c2, decide_eq_false (p := c ≤ 57) (by omega), decide_eq_false (p := c = 95) (by omega)]
        by_cases hz : i = 0
        · rw [if_pos hz, h00 hz, decide_eq_false c2, decide_eq_false (p := i ≠ 0) (by omega)]; simp
        · rw [if_neg hz, if_pos (by omega), if_neg (by omega), if_neg (by omega)]; simp
    · rw [if_neg c1, decide_eq_false (p := 97 ≤ c) c1]
      by_cases hz : i = 0
      · rw [if_pos hz, h00 hz, decide_eq_false (p := 97 ≤ c) c1, decide_eq_false (p := i ≠ 0) (by omega)]; simp
      · rw [if_neg hz, decide_eq_true (p := i ≠ 0) hz]
        by_cases c3 : c ≥ 48
        · rw [if_pos c3, decide_eq_true (p := 48 ≤ c) c3]
          by_cases c4 : c ≤ 57
          · rw [if_pos c4, decide_eq_true c4]; simp
          · rw [if_neg c4, decide_eq_false c4]
            by_cases c5 : c = 95
            · rw [if_pos c5, decide_eq_true c5]; simp
            · rw [if_neg c5, decide_eq_false c5]; simp
        · rw [if_neg c3, decide_eq_false (p := 48 ≤ c) c3, if_neg (by omega), decide_eq_false (p := c = 95) (by omega)]; simp
theorem spec_NameRight_f (s : ByteArray) (k : Nat) (hk : 30 ≤ k) : spec_NameRight.f k s = some (NameP s) := by
  obtain ⟨k, rfl⟩ : ∃ q, k = q + 1 := ⟨k - 1, by omega⟩
  unfold spec_NameRight.f NameP
  by_cases h1 : (s.size : Int) < 1
  · rw [if_pos h1, spec_NameRight.j0, if_pos rfl, decide_eq_false (p := 1 ≤ s.size) (by omega)]; rfl
  · rw [if_neg h1, decide_eq_true (p := 1 ≤ s.size) (by omega)]
    by_cases h2 : (s.size : Int) > 20
    · rw [decide_eq_true h2, spec_NameRight.j0, if_pos rfl, decide_eq_false (p := s.size ≤ 20) (by omega)]; rfl
    · rw [decide_eq_false h2, spec_NameRight.j0, if_neg (by simp), decide_eq_true (p := s.size ≤ 20) (by omega), spec_NameRight_l0 s (by omega) s.size k 0 (by omega) (by omega) (by omega), decide_eq_false (p := s.size = 0) (by omega)]
      simp
theorem dw_nil {α : Type} (p : α → Bool) : ∀ l : List α, (∀ x ∈ l, p x = true) → l.dropWhile p = []
  | [], _ => rfl
  | a :: l, h => by
    rw [List.dropWhile_cons, if_pos (h a (by simp))]
    exact dw_nil p l (fun x hx => h x (List.mem_cons_of_mem _ hx))
theorem dw_all {α : Type} (p : α → Bool) : ∀ l : List α, (∀ x ∈ l.dropWhile p, p x = true) → ∀ x ∈ l, p x = true
  | [], _, x, hx => by cases hx
  | a :: l, h, x, hx => by
    rw [List.dropWhile_cons] at h
    by_cases ha : p a = true
    · rw [if_pos ha] at h
      rcases List.mem_cons.1 hx with e | e
      · rw [e]; exact ha
      · exact dw_all p l h x e
    · rw [if_neg ha] at h
      exact absurd (h a (by simp)) ha
theorem trim_nil (l cs : List UInt8) : (Lib.trimS l cs == ([] : List UInt8)) = l.all (cs.contains ·) := by
  have key : Lib.trimS l cs = [] ↔ ∀ x ∈ l, cs.contains x = true := by
    unfold Lib.trimS Lib.trimLeftS Lib.trimRightS
    constructor
    · intro h x hx
      refine dw_all (cs.contains ·) l.reverse (fun y hy => ?_) x (List.mem_reverse.2 hx)
      refine dw_all (cs.contains ·) (l.reverse.dropWhile (cs.contains ·)).reverse (fun z hz => ?_) y (List.mem_reverse.2 hy)
      rw [h] at hz; cases hz
    · intro h
      rw [dw_nil (cs.contains ·) l.reverse (fun x hx => h x (List.mem_reverse.1 hx))]; rfl
  by_cases h : Lib.trimS l cs = []
  · rw [h, List.all_eq_true.2 (key.1 h)]; rfl
  · rw [beq_eq_false_iff_ne.2 h]
    symm
    rw [Bool.eq_false_iff]
    exact fun h2 => h (key.2 (List.all_eq_true.1 h2))
theorem nch_contains (b : UInt8) : ([97, 98, 99, 100, 101, 102, 103, 104, 105, 106, 107, 108, 109, 110, 111, 112, 113, 114, 115, 116, 117, 118, 119, 120, 121, 122, 48, 49, 50, 51, 52, 53, 54, 55, 56, 57, 95] : List UInt8).contains b = nch b.toNat := by
  have key : ∀ z : Fin 256, ([97, 98, 99, 100, 101, 102, 103, 104, 105, 106, 107, 108, 109, 110, 111, 112, 113, 114, 115, 116, 117, 118, 119, 120, 121, 122, 48, 49, 50, 51, 52, 53, 54, 55, 56, 57, 95] : List UInt8).contains (UInt8.ofNat z.val) = nch (z.val : Nat) := by decide +kernel
  have := key ⟨b.toNat, b.toNat_lt⟩
  simpa using this
theorem impl_NameRight_f (s : ByteArray) : impl_NameRight.f s = some (NameP s) := by
  unfold impl_NameRight.f NameP
  by_cases h1 : (s.size : Int) ≥ 1
  · rw [if_pos h1, decide_eq_true (p := 1 ≤ s.size) (by omega)]
    by_cases h2 : (s.size : Int) ≤ 20
    · rw [if_pos h2, decide_eq_true (p := s.size ≤ 20) (by omega), if_pos (by omega)]
      unfold lowc
      by_cases h3 : bt s 0 ≥ 97
      · rw [if_pos h3, decide_eq_true (p := 97 ≤ bt s 0) h3]
        by_cases h4 : bt s 0 ≤ 122
        · rw [if_pos h4, decide_eq_true h4]
          unfold strings_Trim.f
          rw [if_pos ⟨by omega, by decide, by decide⟩]
          simp only [Option.bind_some, Bool.true_and]
          congr 1
          rw [Go.Lib.toList_data]
          show (Lib.trimS s.data.toList _ == []) = _
          rw [trim_nil]
          unfold bytesOf
          rw [List.all_map]
          congr 1
          funext b
          exact nch_contains b
        · rw [if_neg h4, decide_eq_false h4]; rfl
      · rw [if_neg h3, decide_eq_false (p := 97 ≤ bt s 0) h3]; rfl
    · rw [if_neg h2, decide_eq_false (p := s.size ≤ 20) (by omega)]; rfl
  · rw [if_neg h1, decide_eq_false (p := 1 ≤ s.size) (by omega)]; rfl

/-! values -/
/-- Is a text a value. -/
def ValueP (s : ByteArray) : Bool := decide (1 ≤ s.size) && decide (s.size ≤ 40) && ((NormP s).toList != ([] : List UInt8))
theorem spec_l02Value_f (s : ByteArray) (k : Nat) (hk : 100 ≤ k) : spec_l02Value.f k s = some (ValueP s) := by
  unfold spec_l02Value.f ValueP
  by_cases h1 : (s.size : Int) ≥ 1
  · by_cases h2 : (s.size : Int) ≤ 40
    · rw [if_pos h1, if_pos h2, spec_Norm_f s k (by omega), decide_eq_true (p := 1 ≤ s.size) (by omega), decide_eq_true (p := s.size ≤ 40) (by omega)]
      simp
    · rw [if_pos h1, if_neg h2, decide_eq_false (p := s.size ≤ 40) (by omega)]; simp
  · rw [if_neg h1, decide_eq_false (p := 1 ≤ s.size) (by omega)]; simp
theorem impl_isProper_f (s : ByteArray) (k : Nat) (hk : 100 ≤ k) : impl_isProper.f k s = some (ValueP s) := by
  unfold impl_isProper.f ValueP
  by_cases h1 : (s.size : Int) ≥ 1
  · by_cases h2 : (s.size : Int) ≤ 40
    · rw [if_pos h1, if_pos h2, impl_Norm_f s k (by omega), decide_eq_true (p := 1 ≤ s.size) (by omega), decide_eq_true (p := s.size ≤ 40) (by omega)]
      simp
    · rw [if_pos h1, if_neg h2, decide_eq_false (p := s.size ≤ 40) (by omega)]; simp
  · rw [if_neg h1, decide_eq_false (p := 1 ≤ s.size) (by omega)]; simp

/-! FilterRight -/
abbrev Nd := S64
/-- A node that has others in it, is right. -/
def innerP (n : Nd) : Bool := (n.f1.toList == ([] : List UInt8)) && (n.f2.toList == ([] : List UInt8)) && decide (1 ≤ n.f3) && decide (n.f3 ≤ 20) && (decide (n.f0 = 1) || decide (n.f0 = 2) || (decide (n.f0 = 3) && decide (n.f3 = 1)))
/-- A node without others in it, is right. -/
def leafP (n : Nd) : Bool := NameP n.f1 && decide (n.f3 = 0) && ((decide (n.f0 = 5) && (n.f2.toList == ([] : List UInt8))) || ((decide (n.f0 = 4) || decide (n.f0 = 6) || decide (n.f0 = 7) || decide (n.f0 = 8)) && ValueP n.f2))
/-- Many filters, one behind the other: how many nodes, how deep. -/
def pmany (p : List Nd → Option (Nat × Nat)) : Nat → List Nd → Option (Nat × Nat)
  | 0, _ => some (0, 0)
  | m + 1, l => (p l).bind fun x => (pmany p m (l.drop x.1)).bind fun y => some (x.1 + y.1, max x.2 y.2)
/-- The filter at the beginning of a list: how many nodes, how deep. -/
def pnode : Nat → List Nd → Option (Nat × Nat)
  | 0, _ => none
  | _ + 1, [] => none
  | f + 1, n :: rest => if innerP n = true then (pmany (pnode f) n.f3.toNat rest).bind fun x => some (x.1 + 1, x.2 + 1) else if leafP n = true then some (1, 1) else none
theorem pmany_le (p : List Nd → Option (Nat × Nat)) (hp : ∀ l x, p l = some x → 1 ≤ x.1 ∧ x.1 ≤ l.length ∧ 1 ≤ x.2 ∧ x.2 ≤ x.1) : ∀ (m : Nat) (l : List Nd) (x : Nat × Nat), pmany p m l = some x → m ≤ x.1 ∧ x.1 ≤ l.length ∧ x.2 ≤ x.1
  | 0, l, x, h => by
    simp only [pmany, Option.some.injEq] at h
    rw [← h]; simp
  | m + 1, l, x, h => by
    simp only [pmany] at h
    obtain ⟨a, ha, h⟩ := Option.bind_eq_some_iff.1 h
    obtain ⟨b, hb, h⟩ := Option.bind_eq_some_iff.1 h
    have h1 := hp l a ha
    have h2 := pmany_le p hp m _ b hb
    rw [List.length_drop] at h2
    simp only [Option.some.injEq] at h
    rw [← h]
    show m + 1 ≤ a.1 + b.1 ∧ a.1 + b.1 ≤ l.length ∧ max a.2 b.2 ≤ a.1 + b.1
    omega
theorem pnode_le : ∀ (f : Nat) (l : List Nd) (x : Nat × Nat), pnode f l = some x → 1 ≤ x.1 ∧ x.1 ≤ l.length ∧ 1 ≤ x.2 ∧ x.2 ≤ x.1
  | 0, l, x, h => by simp [pnode] at h
  | f + 1, [], x, h => by simp [pnode] at h
  | f + 1, n :: rest, x, h => by
    simp only [pnode] at h
    split at h
    · obtain ⟨a, ha, h⟩ := Option.bind_eq_some_iff.1 h
      have h2 := pmany_le (pnode f) (pnode_le f) _ _ a ha
      simp only [Option.some.injEq] at h
      rw [← h, List.length_cons]
      show 1 ≤ a.1 + 1 ∧ a.1 + 1 ≤ rest.length + 1 ∧ 1 ≤ a.2 + 1 ∧ a.2 + 1 ≤ a.1 + 1
      omega
    · split at h
      · simp only [Option.some.injEq] at h
        rw [← h, List.length_cons]
        show 1 ≤ 1 ∧ 1 ≤ rest.length + 1 ∧ 1 ≤ 1 ∧ 1 ≤ 1
        omega
      · cases h
theorem beqd (x y : Int) : (x == y) = decide (x = y) := by by_cases h : x = y <;> simp [h]
theorem op_cases (op : Int) : op = 1 ∨ op = 2 ∨ op = 3 ∨ op = 4 ∨ op = 5 ∨ op = 6 ∨ op = 7 ∨ op = 8 ∨ (op ≠ 1 ∧ op ≠ 2 ∧ op ≠ 3 ∧ op ≠ 4 ∧ op ≠ 5 ∧ op ≠ 6 ∧ op ≠ 7 ∧ op ≠ 8) := by omega
theorem spec_l04Node_f (op : Int) (a v : ByteArray) (m : Int) (k : Nat) (hk : 102 ≤ k) : spec_l04Node.f k op a v m = some (innerP ⟨op, a, v, m⟩ || leafP ⟨op, a, v, m⟩) := by
  obtain ⟨k, rfl⟩ : ∃ q, k = q + 2 := ⟨k - 2, by omega⟩
  have hl : spec_l02Is.f m 1 20 = some (decide (1 ≤ m) && decide (m ≤ 20)) := by
    unfold spec_l02Is.f
    by_cases h : m ≥ 1
    · rw [if_pos h, decide_eq_true (p := 1 ≤ m) h]; rfl
    · rw [if_neg h, decide_eq_false (p := 1 ≤ m) h]; rfl
  have hj1 : ∀ b : Bool, spec_l04Node.j1 (k + 1) b op a v m = some (b && NameP a && ValueP v && decide (m = 0)) := by
    intro b
    rw [spec_l04Node.j1, spec_NameRight_f _ k (by omega), spec_l02Value_f _ k (by omega)]
    cases b <;> cases NameP a <;> cases ValueP v <;> simp [beqd]
  unfold spec_l04Node.f innerP leafP
  simp only [spec_l04Node.j0, hl, spec_NameRight_f a (k + 1) (by omega), hj1, beqd]
  by_cases ha : a.toList = [] <;> by_cases hv : v.toList = [] <;> (rcases op_cases op with rfl | rfl | rfl | rfl | rfl | rfl | rfl | rfl | h) <;> cases NameP a <;> cases ValueP v <;> simp [ha, hv] <;> simp_all <;> (by_cases hm : m = 1 <;> simp [hm])
theorem inner_many (n : Nd) (h : innerP n = true) : 1 ≤ n.f3 ∧ n.f3 ≤ 20 := by
  unfold innerP at h
  simp only [Bool.and_eq_true, decide_eq_true_eq] at h
  exact ⟨h.1.1.2, h.1.2⟩
theorem leaf_many (n : Nd) (h : leafP n = true) : n.f3 = 0 := by
  unfold leafP at h
  simp only [Bool.and_eq_true, decide_eq_true_eq] at h
  exact h.1.2
theorem nd_drop (l : List Nd) (i : Int) (h0 : 0 ≤ i) (h1 : i < l.length) : l.drop i.toNat = rd_T64 l i :: l.drop (i.toNat + 1) := by
  have hi : i.toNat < l.length := by omega
  rw [List.drop_eq_getElem_cons hi]
  congr 1
  unfold rd_T64
  rw [List.getD_eq_getElem?_getD, List.getElem?_eq_getElem hi]; rfl
/-- What the reference tells of a filter that begins at a place, at a depth. -/
def encE (at_ : Nat) (deep : Nat) : Option (Nat × Nat) → Int
  | none => -1
  | some x => if deep + x.2 ≤ 6 then ((at_ + x.1 : Nat) : Int) else -1
theorem spec_End_l0 (L : List Nd) (hL : L.length ≤ 20) (fl deep : Nat) (hd : deep ≤ 5)
    (ih : ∀ (k p : Nat), 110 + 30 * fl ≤ k → (L.drop p).length ≤ fl → p ≤ 20 → spec_l04End.f k L (p : Int) ((deep + 1 : Nat) : Int) = some (encE p (deep + 1) (pnode fl (L.drop p)))) :
    ∀ (m k p : Nat), 111 + 30 * fl + m ≤ k → (L.drop p).length ≤ fl → p ≤ 20 → m ≤ 20 →
      spec_l04End.l0 k L (p : Int) (deep : Int) (m : Int) = some (encE p (deep + 1) (pmany (pnode fl) m (L.drop p)))
  | 0, k, p, hk, hl, hp, hm => by
    obtain ⟨k, rfl⟩ : ∃ q, k = q + 1 := ⟨k - 1, by omega⟩
    rw [spec_l04End.l0, if_neg (by omega)]
    simp only [pmany, encE]
    rw [if_pos (by omega)]; rfl
  | m + 1, k, p, hk, hl, hp, hm => by
    obtain ⟨k, rfl⟩ : ∃ q, k = q + 1 := ⟨k - 1, by omega⟩
    rw [spec_l04End.l0, if_pos (by omega), if_pos (by omega), w64 (x := (deep : Int) + 1) (by omega) (by omega), w64 (x := ((m + 1 : Nat) : Int) - 1) (by omega) (by omega),
      show ((m + 1 : Nat) : Int) - 1 = (m : Int) by omega, show (deep : Int) + 1 = ((deep + 1 : Nat) : Int) by omega, ih k p (by omega) hl hp]
    simp only [Option.bind_some]
    have neg : spec_l04End.l0 k L (-1) (deep : Int) (m : Int) = some (-1) := by
      obtain ⟨k, rfl⟩ : ∃ q, k = q + 1 := ⟨k - 1, by omega⟩
      rw [spec_l04End.l0, if_neg (show ¬ ((-1 : Int) ≥ 0) by omega)]
      split <;> rfl
    simp only [pmany]
    cases hn : pnode fl (L.drop p) with
    | none => simp only [encE, Option.bind_none]; exact neg
    | some x =>
      have hx := pnode_le _ _ _ hn
      rw [List.length_drop] at hx hl
      simp only [Option.bind_some]
      by_cases h6 : deep + 1 + x.2 ≤ 6
      · rw [show encE p (deep + 1) (some x) = ((p + x.1 : Nat) : Int) by simp only [encE]; rw [if_pos h6],
          spec_End_l0 L hL fl deep hd ih m k (p + x.1) (by omega) (by rw [List.length_drop]; omega) (by omega) (by omega), ← List.drop_drop]
        cases hm2 : pmany (pnode fl) m ((L.drop p).drop x.1) with
        | none => simp [encE]
        | some y =>
          simp only [Option.bind_some, encE]
          congr 1
          by_cases h7 : deep + 1 + y.2 ≤ 6
          · rw [if_pos h7, if_pos (by omega), Nat.add_assoc]
          · rw [if_neg h7, if_neg (by omega)]
      · rw [show encE p (deep + 1) (some x) = -1 by simp only [encE]; rw [if_neg h6], neg]
        cases hm2 : pmany (pnode fl) m ((L.drop p).drop x.1) with
        | none => simp [encE]
        | some y =>
          simp only [Option.bind_some, encE]
          rw [if_neg (by omega)]
theorem spec_End_f (L : List Nd) (hL : L.length ≤ 20) : ∀ (fl k p deep : Nat), 110 + 30 * fl ≤ k → (L.drop p).length ≤ fl → p ≤ 20 → 1 ≤ deep → deep ≤ 6 →
    spec_l04End.f k L (p : Int) (deep : Int) = some (encE p deep (pnode fl (L.drop p)))
  | fl, k, p, deep, hk, hl, hp, h1, hd => by
    obtain ⟨k, rfl⟩ : ∃ q, k = q + 2 := ⟨k - 2, by omega⟩
    rw [spec_l04End.f]
    have neg : ∀ k, spec_l04End.j0 (k + 1) L (p : Int) (deep : Int) true = some (-1) := fun k => by rw [spec_l04End.j0, if_pos rfl]
    by_cases hp2 : (p : Int) ≥ (L.length : Int)
    · rw [if_pos hp2, neg, List.drop_of_length_le (by omega)]
      cases fl <;> rfl
    · rw [if_neg hp2]
      by_cases h5 : (deep : Int) > 5
      · rw [if_pos h5, neg]
        cases hn : pnode fl (L.drop p) with
        | none => rfl
        | some x =>
          have hx := pnode_le _ _ _ hn
          simp only [encE]
          rw [if_neg (by omega)]
      · rw [if_neg h5, if_pos (by omega), if_pos (by omega), spec_l04Node_f _ _ _ _ (k + 1) (by omega)]
        simp only [Option.bind_some]
        have hdr := nd_drop L p (by omega) (by omega)
        rw [show (p : Int).toNat = p from rfl] at hdr
        rw [List.length_drop] at hl
        match fl, hl, hk with
        | 0, hl, hk => omega
        | fl + 1, hl, hk =>
          rw [hdr]
          simp only [pnode]
          show spec_l04End.j0 (k + 1) L (p : Int) (deep : Int) (!(innerP (rd_T64 L p) || leafP (rd_T64 L p))) = _
          have loop := fun m hm => spec_End_l0 L hL fl deep (by omega) (fun k p hk hl hp => spec_End_f L hL fl k p (deep + 1) hk hl hp (by omega) (by omega)) m k (p + 1) (by omega) (by rw [List.length_drop]; omega) (by omega) hm
          by_cases hin : innerP (rd_T64 L p) = true
          · have hm := inner_many _ hin
            rw [hin, if_pos rfl, Bool.true_or, spec_l04End.j0, if_neg (by simp), if_pos (by omega), if_pos (by omega), w64 (x := (p : Int) + 1) (by omega) (by omega),
              show (rd_T64 L p).f3 = (((rd_T64 L p).f3.toNat : Nat) : Int) by omega, show (p : Int) + 1 = ((p + 1 : Nat) : Int) by omega, loop _ (by omega)]
            simp only [Int.toNat_natCast]
            cases hm2 : pmany (pnode fl) (rd_T64 L p).f3.toNat (L.drop (p + 1)) with
            | none => rfl
            | some y =>
              simp only [Option.bind_some, encE]
              congr 1
              by_cases h7 : deep + 1 + y.2 ≤ 6
              · rw [if_pos h7, if_pos (by omega)]; omega
              · rw [if_neg h7, if_neg (by omega)]
          · rw [Bool.eq_false_iff.2 hin, Bool.false_or, if_neg (by simp)]
            by_cases hle : leafP (rd_T64 L p) = true
            · have hm := leaf_many _ hle
              rw [hle, if_pos rfl, spec_l04End.j0, if_neg (by simp), if_pos (by omega), if_pos (by omega), w64 (x := (p : Int) + 1) (by omega) (by omega), hm, show (p : Int) + 1 = ((p + 1 : Nat) : Int) by omega]
              have := loop 0 (by omega)
              rw [show ((0 : Nat) : Int) = 0 from rfl] at this
              rw [this]
              simp only [pmany, encE]
            · rw [Bool.eq_false_iff.2 hle, if_neg (by simp), Bool.not_false, neg]
              rfl
/-- What the program tells of a filter at the beginning of a list. -/
def encD : Option (Nat × Nat) → Int × Int
  | none => (0, 0)
  | some x => ((x.1 : Int), (x.2 : Int))
theorem impl_depth_l0 (L : List Nd) (hL : L.length ≤ 20) (fl : Nat) (m : Nat) (hm : m ≤ 20)
    (ih : ∀ (k p : Nat), 110 + 30 * fl ≤ k → (L.drop p).length ≤ fl → impl_depthOf.f k (L.drop p) = some (encD (pnode fl (L.drop p)))) :
    ∀ (d k p D : Nat), 111 + 30 * fl + d ≤ k → (L.drop p).length ≤ fl → 1 ≤ p → p ≤ L.length → D ≤ p → d ≤ m →
      impl_depthOf.l0 k L (p : Int) (D : Int) (m : Int) ((m - d : Nat) : Int) = some (match pmany (pnode fl) d (L.drop p) with | none => (0, 0) | some x => (((p + x.1 : Nat) : Int), ((max D x.2 + 1 : Nat) : Int)))
  | 0, k, p, D, hk, hl, h1, hp, hD, hd => by
    obtain ⟨k, rfl⟩ : ∃ q, k = q + 1 := ⟨k - 1, by omega⟩
    rw [impl_depthOf.l0, if_neg (by omega), w64 (x := (D : Int) + 1) (by omega) (by omega)]
    simp only [pmany]
    rw [show max D 0 = D by omega]; rfl
  | d + 1, k, p, D, hk, hl, h1, hp, hD, hd => by
    obtain ⟨k, rfl⟩ : ∃ q, k = q + 1 := ⟨k - 1, by omega⟩
    rw [impl_depthOf.l0, if_pos (by omega), if_pos (by omega), if_pos (by omega), show (p : Int).toNat = p from rfl, ih k p (by omega) hl]
    simp only [Option.bind_some, pmany]
    cases hn : pnode fl (L.drop p) with
    | none => simp [encD]
    | some x =>
      have hx := pnode_le _ _ _ hn
      rw [List.length_drop] at hx hl
      simp only [Option.bind_some]
      rw [show encD (some x) = ((x.1 : Int), (x.2 : Int)) from rfl]
      dsimp only
      rw [if_neg (by omega), w64 (x := (p : Int) + (x.1 : Int)) (by omega) (by omega), w64 (x := ((m - (d + 1) : Nat) : Int) + 1) (by omega) (by omega),
        show (p : Int) + (x.1 : Int) = ((p + x.1 : Nat) : Int) by omega, show ((m - (d + 1) : Nat) : Int) + 1 = ((m - d : Nat) : Int) by omega,
        show mx (D : Int) (x.2 : Int) = ((max D x.2 : Nat) : Int) by unfold mx; split <;> omega,
        impl_depth_l0 L hL fl m hm ih d k (p + x.1) (max D x.2) (by omega) (by rw [List.length_drop]; omega) (by omega) (by omega) (by omega) (by omega), ← List.drop_drop]
      cases hm2 : pmany (pnode fl) d ((L.drop p).drop x.1) with
      | none => simp
      | some y =>
        simp only [Option.bind_some]
        rw [Nat.add_assoc, show max (max D x.2) y.2 = max D (max x.2 y.2) by omega]
theorem impl_depth_f : ∀ (fl k : Nat) (L : List Nd), L.length ≤ 20 → 110 + 30 * fl ≤ k → L.length ≤ fl → impl_depthOf.f k L = some (encD (pnode fl L))
  | fl, k, [], hL, hk, hl => by
    obtain ⟨k, rfl⟩ : ∃ q, k = q + 1 := ⟨k - 1, by omega⟩
    rw [impl_depthOf.f, if_pos (show ((([] : List Nd).length : Nat) : Int) = 0 from rfl)]
    cases fl <;> rfl
  | 0, k, n :: rest, hL, hk, hl => by simp at hl
  | fl + 1, k, ⟨op, a, v, m⟩ :: rest, hL, hk, hl => by
    obtain ⟨k, rfl⟩ : ∃ q, k = q + 3 := ⟨k - 3, by omega⟩
    rw [List.length_cons] at hl hL
    have loop : ∀ h : 0 ≤ m ∧ m ≤ 20, impl_depthOf.l0 k (⟨op, a, v, m⟩ :: rest) 1 0 m 0 = some (match pmany (pnode fl) m.toNat rest with | none => (0, 0) | some x => (((1 + x.1 : Nat) : Int), ((max 0 x.2 + 1 : Nat) : Int))) := by
      intro h
      have := impl_depth_l0 (⟨op, a, v, m⟩ :: rest) (by rw [List.length_cons]; omega) fl m.toNat (by omega) (fun k p hk hl => impl_depth_f fl k _ (by rw [List.length_drop, List.length_cons]; omega) hk hl) m.toNat k 1 0 (by omega) (by simp; omega) (by omega) (by simp) (by omega) (by omega)
      rw [Nat.sub_self, Int.toNat_of_nonneg h.1] at this
      exact this
    have hj3 : ∀ b : Bool, impl_depthOf.j3 (k + 1) b op a v m = some (if (b && NameP a && ValueP v && decide (m = 0)) = true then (1, 1) else (0, 0)) := by
      intro b
      rw [impl_depthOf.j3, impl_NameRight_f, impl_isProper_f _ k (by omega)]
      cases b <;> cases NameP a <;> cases ValueP v <;> by_cases hm : m = 0 <;> simp [hm]
    have hj1 : ∀ b : Bool, impl_depthOf.j1 (k + 1) (⟨op, a, v, m⟩ :: rest) b op a v m = if b = true then some (0, 0) else impl_depthOf.l0 k (⟨op, a, v, m⟩ :: rest) 1 0 m 0 := fun b => by rw [impl_depthOf.j1]
    have hz : rd_T64 (⟨op, a, v, m⟩ :: rest) 0 = ⟨op, a, v, m⟩ := rfl
    rw [impl_depthOf.f, if_neg (by rw [List.length_cons]; omega), if_pos (by rw [List.length_cons]; omega), hz]
    simp only [impl_depthOf.j0, impl_NameRight_f, hj1, hj3, pnode, beqd]
    by_cases hin : innerP ⟨op, a, v, m⟩ = true
    · have hmm := inner_many _ hin
      have hmm : 1 ≤ m ∧ m ≤ 20 := hmm
      rw [if_pos hin, loop ⟨by omega, by omega⟩]
      have e : (match pmany (pnode fl) m.toNat rest with | none => ((0, 0) : Int × Int) | some x => (((1 + x.1 : Nat) : Int), ((max 0 x.2 + 1 : Nat) : Int))) = encD ((pmany (pnode fl) m.toNat rest).bind fun x => some (x.1 + 1, x.2 + 1)) := by
        cases pmany (pnode fl) m.toNat rest with
        | none => rfl
        | some x => simp only [Option.bind_some, encD]; congr 1 <;> omega
      rw [e]
      unfold innerP at hin
      simp only [Bool.and_eq_true, Bool.or_eq_true, decide_eq_true_eq, beq_iff_eq] at hin
      obtain ⟨⟨⟨⟨ha, hv⟩, hm1⟩, hm2⟩, hop⟩ := hin
      rcases hop with (rfl | rfl) | ⟨rfl, rfl⟩
      · simp [ha, hv, show ¬ m < 1 by omega, show ¬ 20 < m by omega]
      · simp [ha, hv, show ¬ m < 1 by omega, show ¬ 20 < m by omega]
      · simp [ha, hv]
    · rw [if_neg hin]
      have key : (if leafP ⟨op, a, v, m⟩ = true then some (1, 1) else none : Option (Nat × Nat)) = if leafP ⟨op, a, v, m⟩ = true then some (1, 1) else none := rfl
      have e2 : encD (if leafP ⟨op, a, v, m⟩ = true then some (1, 1) else none) = if leafP ⟨op, a, v, m⟩ = true then (1, 1) else (0, 0) := by split <;> rfl
      rw [e2]
      unfold innerP at hin
      unfold leafP
      by_cases ha : a.toList = [] <;> by_cases hv : v.toList = [] <;> (rcases op_cases op with rfl | rfl | rfl | rfl | rfl | rfl | rfl | rfl | h) <;> cases NameP a <;> cases ValueP v <;> simp [ha, hv] at hin ⊢ <;> first | (intros; exfalso; omega) | (simp_all; done) | (split <;> rfl)
/-- What FilterRight says. -/
def FilterP (l : List Nd) : Bool := decide (l.length ≤ 20) && (match pnode 20 l with | none => false | some x => decide (x.1 = l.length) && decide (x.2 ≤ 5))
theorem spec_FilterRight_f (l : List Nd) (k : Nat) (hk : 710 ≤ k) : spec_FilterRight.f k l = some (FilterP l) := by
  unfold spec_FilterRight.f FilterP
  by_cases h : (l.length : Int) ≤ 20
  · have := spec_End_f l (by omega) 20 k 0 1 (by omega) (by rw [List.drop_zero]; omega) (by omega) (by omega) (by omega)
    rw [if_pos h, show (0 : Int) = ((0 : Nat) : Int) from rfl, show (1 : Int) = ((1 : Nat) : Int) from rfl, this, List.drop_zero, decide_eq_true (p := l.length ≤ 20) (by omega)]
    simp only [Option.bind_some, Bool.true_and]
    congr 1
    cases hn : pnode 20 l with
    | none => rw [show encE 0 1 none = -1 from rfl, beq_eq_false_iff_ne.2 (by omega)]
    | some x =>
      rw [show encE 0 1 (some x) = if 1 + x.2 ≤ 6 then ((0 + x.1 : Nat) : Int) else -1 from rfl]
      dsimp only
      by_cases h2 : 1 + x.2 ≤ 6
      · rw [if_pos h2, decide_eq_true (p := x.2 ≤ 5) (by omega), Bool.and_true, Nat.zero_add]
        by_cases h3 : x.1 = l.length
        · rw [decide_eq_true h3, beq_iff_eq.2 (by omega)]
        · rw [decide_eq_false h3, beq_eq_false_iff_ne.2 (by omega)]
      · rw [if_neg h2, decide_eq_false (p := x.2 ≤ 5) (by omega), Bool.and_false, beq_eq_false_iff_ne.2 (by omega)]
  · rw [if_neg h, decide_eq_false (p := l.length ≤ 20) (by omega)]; rfl
theorem impl_FilterRight_f (l : List Nd) (k : Nat) (hk : 710 ≤ k) : impl_FilterRight.f k l = some (FilterP l) := by
  unfold impl_FilterRight.f FilterP
  by_cases h : (l.length : Int) > 20
  · rw [if_pos h, decide_eq_false (p := l.length ≤ 20) (by omega)]; rfl
  · rw [if_neg h, impl_depth_f 20 k l (by omega) (by omega) (by omega), decide_eq_true (p := l.length ≤ 20) (by omega)]
    simp only [Option.bind_some, Bool.true_and]
    cases hn : pnode 20 l with
    | none => rfl
    | some x =>
      have hx := pnode_le _ _ _ hn
      rw [show encD (some x) = ((x.1 : Int), (x.2 : Int)) from rfl]
      dsimp only
      rw [if_pos (by omega)]
      by_cases h3 : x.1 = l.length
      · rw [if_pos (by omega), decide_eq_true h3, Bool.true_and]
        by_cases h2 : x.2 ≤ 5
        · rw [decide_eq_true h2, decide_eq_true (by omega)]
        · rw [decide_eq_false h2, decide_eq_false (by omega)]
      · rw [if_neg (by omega), decide_eq_false h3]; rfl

/-! FilterText -/
theorem NameP_size {s : ByteArray} (h : NameP s = true) : 1 ≤ s.size ∧ s.size ≤ 20 := by
  unfold NameP at h
  simp only [Bool.and_eq_true, decide_eq_true_eq] at h
  exact ⟨h.1.1.1, h.1.1.2⟩
theorem ValueP_size {s : ByteArray} (h : ValueP s = true) : 1 ≤ s.size ∧ s.size ≤ 40 := by
  unfold ValueP at h
  simp only [Bool.and_eq_true, decide_eq_true_eq] at h
  exact ⟨h.1.1, h.1.2⟩
theorem bt_drop (s : ByteArray) (i : Int) (h0 : 0 ≤ i) (h1 : i < s.size) : (bytesOf s).drop i.toNat = bt s i :: (bytesOf s).drop (i + 1).toNat := by
  have hi : i.toNat < (bytesOf s).length := by rw [bytesOf_length]; omega
  rw [List.drop_eq_getElem_cons hi, show (i + 1).toNat = i.toNat + 1 by omega]
  congr 1
  have h2 := rd_bytesOf s i
  unfold rd at h2
  rw [List.getD_eq_getElem?_getD, List.getElem?_eq_getElem hi] at h2
  exact h2
theorem one_of_bt (b : Int) (h0 : 0 ≤ b) : impl_FilterText.one b = if b = 42 then bytesOf (⟨#[92, 50, 97]⟩ : ByteArray) else if b = 40 then bytesOf (⟨#[92, 50, 56]⟩ : ByteArray) else if b = 41 then bytesOf (⟨#[92, 50, 57]⟩ : ByteArray) else if b = 92 then bytesOf (⟨#[92, 53, 99]⟩ : ByteArray) else [b] := by
  obtain ⟨n, rfl⟩ := Int.eq_ofNat_of_zero_le h0
  unfold impl_FilterText.one impl_FilterText.rpl
  rw [Int.toNat_natCast]
  by_cases h1 : n = 42
  · subst h1; rfl
  · by_cases h2 : n = 40
    · subst h2; rfl
    · by_cases h3 : n = 41
      · subst h3; rfl
      · by_cases h4 : n = 92
        · subst h4; rfl
        · rw [if_neg h1, if_neg h2, if_neg h3, if_neg h4, if_pos rfl, if_neg (by omega), if_neg (by omega), if_neg (by omega), if_neg (by omega)]
theorem l04Escape_l0 (s : ByteArray) (hs : s.size ≤ 1000) : ∀ (d k : Nat) (x : List Int) (i : Int), 0 ≤ i → i + d = s.size → d < k → x.length + 3 * d ≤ 4000 → spec_l04Escape.l0 k s x i = some (strOfNums (x ++ impl_FilterText.escL ((bytesOf s).drop i.toNat)))
  | 0, k, x, i, h0, hi, hk, hx => by
    obtain ⟨k, rfl⟩ : ∃ q, k = q + 1 := ⟨k - 1, by omega⟩
    rw [spec_l04Escape.l0, if_neg (by omega), List.drop_of_length_le (by rw [bytesOf_length]; omega)]
    simp [impl_FilterText.escL]
  | d + 1, k, x, i, h0, hi, hk, hx => by
    obtain ⟨k, rfl⟩ : ∃ q, k = q + 1 := ⟨k - 1, by omega⟩
    have hb := (bt_range s i).1
    have hl : ∀ y : List Int, y.length ≤ 3 → spec_l04Escape.l0 k s (x ++ y) (wrap64 (i + 1)) = some (strOfNums ((x ++ y) ++ impl_FilterText.escL ((bytesOf s).drop (i + 1).toNat))) := fun y hy => by
      rw [w64 (x := i + 1) (by omega) (by omega)]
      exact l04Escape_l0 s hs d k _ (i + 1) (by omega) (by omega) (by omega) (by rw [List.length_append]; omega)
    rw [bt_drop s i h0 (by omega), show bt s i :: (bytesOf s).drop (i + 1).toNat = [bt s i] ++ (bytesOf s).drop (i + 1).toNat from rfl, impl_FilterText.escL_append, show impl_FilterText.escL [bt s i] = impl_FilterText.one (bt s i) from by simp [impl_FilterText.escL], one_of_bt _ hb, spec_l04Escape.l0, if_pos (by omega), if_pos h0, ← List.append_assoc]
    by_cases h1 : bt s i = 42
    · rw [if_pos h1, if_pos h1, if_pos (by omega)]; exact hl _ (by decide)
    · rw [if_neg h1, if_neg h1]
      by_cases h2 : bt s i = 40
      · rw [if_pos h2, if_pos h2, if_pos (by omega)]; exact hl _ (by decide)
      · rw [if_neg h2, if_neg h2]
        by_cases h3 : bt s i = 41
        · rw [if_pos h3, if_pos h3, if_pos (by omega)]; exact hl _ (by decide)
        · rw [if_neg h3, if_neg h3]
          by_cases h4 : bt s i = 92
          · rw [if_pos h4, if_pos h4, if_pos (by omega)]; exact hl _ (by decide)
          · rw [if_neg h4, if_neg h4, if_pos (by omega)]; exact hl _ (by simp)
theorem l04Escape_f (s : ByteArray) (hs : s.size ≤ 1000) (k : Nat) (hk : s.size < k) : spec_l04Escape.f k s = some (impl_FilterText.esc s) := by
  unfold spec_l04Escape.f impl_FilterText.esc
  rw [l04Escape_l0 s hs s.size k [] 0 (by omega) (by omega) hk (by simp; omega)]
  rfl
theorem esc_size (s : ByteArray) : (impl_FilterText.esc s).size ≤ 3 * s.size := by
  unfold impl_FilterText.esc
  rw [strOfNums_size, impl_FilterText.escL_length, bytesOf_length]
  have : impl_FilterText.hits (bytesOf s) ≤ s.size := by rw [← bytesOf_length s]; exact List.length_filter_le _ _
  omega
/-- A filter's text, without the brackets, where it has no others in it. -/
def leafT (n : Nd) : ByteArray := if n.f0 = 4 then n.f1 ++ (⟨#[61]⟩ : ByteArray) ++ impl_FilterText.esc n.f2 else if n.f0 = 5 then n.f1 ++ (⟨#[61, 42]⟩ : ByteArray) else if n.f0 = 6 then n.f1 ++ (⟨#[61]⟩ : ByteArray) ++ impl_FilterText.esc n.f2 ++ (⟨#[42]⟩ : ByteArray) else if n.f0 = 7 then n.f1 ++ (⟨#[62, 61]⟩ : ByteArray) ++ impl_FilterText.esc n.f2 else n.f1 ++ (⟨#[60, 61]⟩ : ByteArray) ++ impl_FilterText.esc n.f2
def tmany (g : List Nd → ByteArray) (p : List Nd → Option (Nat × Nat)) : Nat → List Nd → ByteArray
  | 0, _ => ⟨#[]⟩
  | m + 1, l => match p l with | none => ⟨#[]⟩ | some x => g l ++ tmany g p m (l.drop x.1)
/-- The text of the filter at the beginning of a list. -/
def tnode : Nat → List Nd → ByteArray
  | 0, _ => ⟨#[]⟩
  | _ + 1, [] => ⟨#[]⟩
  | f + 1, n :: rest => (⟨#[40]⟩ : ByteArray) ++ (if innerP n = true then impl_FilterText.opt n.f0 ++ tmany (tnode f) (pnode f) n.f3.toNat rest else leafT n) ++ (⟨#[41]⟩ : ByteArray)
theorem leaf_cases (n : Nd) (h : leafP n = true) : (4 ≤ n.f0 ∧ n.f0 ≤ 8) ∧ n.f1.size ≤ 20 ∧ n.f2.size ≤ 40 ∧ n.f3 = 0 := by
  unfold leafP at h
  simp only [Bool.and_eq_true, Bool.or_eq_true, decide_eq_true_eq, beq_iff_eq] at h
  obtain ⟨⟨h1, h2⟩, h3⟩ := h
  have h4 := NameP_size h1
  rcases h3 with ⟨h5, h6⟩ | ⟨h5, h6⟩
  · have : n.f2.size = 0 := by
      have e := Go.Lib.toList_data n.f2
      rw [h6] at e
      have e2 : n.f2.data.toList.length = 0 := by rw [← e]; rfl
      rw [← data_length]; exact e2
    omega
  · have h7 := ValueP_size h6
    omega
theorem inner_cases (n : Nd) (h : innerP n = true) : (n.f0 = 1 ∨ n.f0 = 2 ∨ n.f0 = 3) ∧ n.f1.size = 0 ∧ n.f2.size = 0 ∧ 1 ≤ n.f3 ∧ n.f3 ≤ 20 := by
  have hz : ∀ s : ByteArray, s.toList = ([] : List UInt8) → s.size = 0 := fun s hs => by
    have e := Go.Lib.toList_data s
    rw [hs] at e
    rw [← data_length, ← e]; rfl
  have h3 := inner_many n h
  unfold innerP at h
  simp only [Bool.and_eq_true, Bool.or_eq_true, decide_eq_true_eq, beq_iff_eq] at h
  obtain ⟨⟨⟨⟨h1, h2⟩, _⟩, _⟩, h5⟩ := h
  refine ⟨?_, hz _ h1, hz _ h2, h3.1, h3.2⟩
  rcases h5 with (h5 | h5) | h5
  · exact .inl h5
  · exact .inr (.inl h5)
  · exact .inr (.inr h5.1)
theorem leafT_size (n : Nd) (h : leafP n = true) : (leafT n).size ≤ 200 := by
  obtain ⟨_, h1, h2, _⟩ := leaf_cases n h
  have h3 := esc_size n.f2
  have k1 : (⟨#[61]⟩ : ByteArray).size = 1 := rfl
  have k2 : (⟨#[61, 42]⟩ : ByteArray).size = 2 := rfl
  have k3 : (⟨#[42]⟩ : ByteArray).size = 1 := rfl
  have k4 : (⟨#[62, 61]⟩ : ByteArray).size = 2 := rfl
  have k5 : (⟨#[60, 61]⟩ : ByteArray).size = 2 := rfl
  unfold leafT
  repeat' split
  all_goals simp only [ByteArray.size_append, k1, k2, k3, k4, k5]
  all_goals omega
theorem opt_size (c : Int) : (impl_FilterText.opt c).size = 1 := by
  unfold impl_FilterText.opt
  repeat' split
  all_goals rfl
theorem tmany_size (fl : Nat) (ih : ∀ l x, pnode fl l = some x → (tnode fl l).size ≤ 300 * x.1) : ∀ (m : Nat) (l : List Nd) (y : Nat × Nat), pmany (pnode fl) m l = some y → (tmany (tnode fl) (pnode fl) m l).size ≤ 300 * y.1
  | 0, l, y, h => by rw [tmany]; exact Nat.zero_le _
  | m + 1, l, y, h => by
    simp only [pmany] at h
    obtain ⟨x, hx, h⟩ := Option.bind_eq_some_iff.1 h
    obtain ⟨z, hz, h⟩ := Option.bind_eq_some_iff.1 h
    obtain rfl := Option.some.inj h
    simp only [tmany, hx, ByteArray.size_append]
    have h1 := ih l x hx
    have h2 := tmany_size fl ih m _ z hz
    omega
theorem tnode_size : ∀ (fl : Nat) (l : List Nd) (x : Nat × Nat), pnode fl l = some x → (tnode fl l).size ≤ 300 * x.1
  | 0, l, x, h => by simp [pnode] at h
  | fl + 1, [], x, h => by simp [pnode] at h
  | fl + 1, n :: rest, x, h => by
    have k1 : (⟨#[40]⟩ : ByteArray).size = 1 := rfl
    have k2 : (⟨#[41]⟩ : ByteArray).size = 1 := rfl
    simp only [pnode] at h
    simp only [tnode, ByteArray.size_append, k1, k2]
    by_cases hin : innerP n = true
    · rw [if_pos hin] at h ⊢
      obtain ⟨y, hy, h⟩ := Option.bind_eq_some_iff.1 h
      obtain rfl := Option.some.inj h
      have h1 := tmany_size fl (tnode_size fl) _ _ y hy
      rw [ByteArray.size_append, opt_size]
      show 1 + _ + 1 ≤ 300 * (y.1 + 1)
      omega
    · rw [if_neg hin] at h ⊢
      by_cases hle : leafP n = true
      · rw [if_pos hle] at h
        obtain rfl := Option.some.inj h
        have h1 := leafT_size n hle
        show 1 + _ + 1 ≤ 300 * 1
        omega
      · rw [if_neg hle] at h; cases h
theorem ba_nil (t : ByteArray) : t ++ (⟨#[]⟩ : ByteArray) = t := by
  apply ba_ext
  rw [ba_data_append]
  simp
theorem ba_assoc (a b c : ByteArray) : a ++ b ++ c = a ++ (b ++ c) := ByteArray.append_assoc
theorem impl_lp (fl k : Nat) (ih : ∀ l x, pnode fl l = some x → x.1 ≤ 20 → impl_FilterText.ft k l = some (tnode fl l, l.drop x.1)) : ∀ (m : Nat) (l : List Nd) (t : ByteArray) (y : Nat × Nat), pmany (pnode fl) m l = some y → y.1 ≤ 20 → t.size + 300 * y.1 ≤ 100000 → impl_FilterText.lp (impl_FilterText.ft k) m l t = some (t ++ tmany (tnode fl) (pnode fl) m l, l.drop y.1)
  | 0, l, t, y, h, hy, hs => by
    simp only [pmany] at h
    obtain rfl := Option.some.inj h
    rw [impl_FilterText.lp, tmany, ba_nil]
    simp
  | m + 1, l, t, y, h, hy, hs => by
    simp only [pmany] at h
    obtain ⟨x, hx, h⟩ := Option.bind_eq_some_iff.1 h
    obtain ⟨z, hz, h⟩ := Option.bind_eq_some_iff.1 h
    obtain rfl := Option.some.inj h
    simp only at hy hs
    have h1 := tnode_size fl l x hx
    rw [impl_FilterText.lp, ih l x hx (by omega), Option.bind_some]
    dsimp only
    rw [if_pos (by omega), impl_lp fl k ih m _ _ z hz (by omega) (by rw [ByteArray.size_append]; omega), List.drop_drop]
    simp only [tmany, hx, ba_assoc]
theorem impl_ft : ∀ (fl k : Nat) (l : List Nd) (x : Nat × Nat), pnode fl l = some x → x.1 ≤ 20 → fl ≤ k → impl_FilterText.ft k l = some (tnode fl l, l.drop x.1)
  | 0, k, l, x, h, _, _ => by simp [pnode] at h
  | fl + 1, k, [], x, h, _, _ => by simp [pnode] at h
  | fl + 1, k, n :: rest, x, h, h20, hk => by
    obtain ⟨k, rfl⟩ : ∃ q, k = q + 1 := ⟨k - 1, by omega⟩
    have hts := tnode_size (fl + 1) (n :: rest) x h
    simp only [pnode] at h
    by_cases hin : innerP n = true
    · rw [if_pos hin] at h
      obtain ⟨y, hy, h⟩ := Option.bind_eq_some_iff.1 h
      obtain rfl := Option.some.inj h
      obtain ⟨hop, hf1, hf2, hm1, hm2⟩ := inner_cases n hin
      have hty := tmany_size fl (tnode_size fl) _ _ y hy
      simp only at h20
      rw [impl_FilterText.ft, if_pos ⟨by omega, by omega, by omega⟩, if_pos hop, impl_lp fl k (fun l x hx h2 => impl_ft fl k l x hx h2 (by omega)) _ rest _ y hy (by omega) (by rw [opt_size]; omega), Option.bind_some]
      dsimp only
      rw [impl_FilterText.wrap, if_pos (by rw [ByteArray.size_append, opt_size]; omega)]
      simp only [tnode, if_pos hin, List.drop_succ_cons]
    · rw [if_neg hin] at h
      by_cases hle : leafP n = true
      · rw [if_pos hle] at h
        obtain rfl := Option.some.inj h
        obtain ⟨hop, hf1, hf2, hf3⟩ := leaf_cases n hle
        have hls := leafT_size n hle
        rw [impl_FilterText.ft, if_pos ⟨by omega, by omega, by omega⟩, if_neg (by omega)]
        simp only [tnode, if_neg hin, List.drop_succ_cons, List.drop_zero]
        unfold leafT at hls ⊢
        have hop2 : n.f0 = 4 ∨ n.f0 = 5 ∨ n.f0 = 6 ∨ n.f0 = 7 ∨ n.f0 = 8 := by omega
        rcases hop2 with h8 | h8 | h8 | h8 | h8 <;> simp only [h8] at hls ⊢ <;> simp only [reduceCtorEq, if_true, if_false, Int.reduceEq, ↓reduceIte] at hls ⊢ <;> rw [impl_FilterText.wrap, if_pos (by omega)]
      · rw [if_neg hle] at h; cases h
theorem spec_Text_l0 (L : List Nd) (hL : L.length ≤ 20) (fl : Nat) (ih : ∀ (k p : Nat) (x : Nat × Nat), pnode fl (L.drop p) = some x → 300 + 100 * fl ≤ k → p ≤ 20 → spec_l04Text.f k L (p : Int) = some (tnode fl (L.drop p), ((p + x.1 : Nat) : Int))) :
    ∀ (m k p : Nat) (t : ByteArray) (y : Nat × Nat), pmany (pnode fl) m (L.drop p) = some y → 301 + 100 * fl + m ≤ k → p ≤ 20 → m ≤ 20 → p + y.1 ≤ 20 → t.size + 300 * y.1 ≤ 100000 →
      spec_l04Text.l0 k L (p : Int) t (m : Int) = some (t ++ tmany (tnode fl) (pnode fl) m (L.drop p) ++ (⟨#[41]⟩ : ByteArray), ((p + y.1 : Nat) : Int))
  | 0, k, p, t, y, h, hk, hp, hm, hy, hs => by
    obtain ⟨k, rfl⟩ : ∃ q, k = q + 1 := ⟨k - 1, by omega⟩
    simp only [pmany] at h
    obtain rfl := Option.some.inj h
    rw [spec_l04Text.l0, if_neg (by omega), if_pos (by omega), tmany, ba_nil]
    simp
  | m + 1, k, p, t, y, h, hk, hp, hm, hy, hs => by
    obtain ⟨k, rfl⟩ : ∃ q, k = q + 1 := ⟨k - 1, by omega⟩
    simp only [pmany] at h
    obtain ⟨x, hx, h⟩ := Option.bind_eq_some_iff.1 h
    obtain ⟨z, hz, h⟩ := Option.bind_eq_some_iff.1 h
    obtain rfl := Option.some.inj h
    simp only at hy hs
    have h1 := tnode_size fl _ x hx
    rw [List.drop_drop] at hz
    rw [spec_l04Text.l0, if_pos (by omega), ih k p x hx (by omega) hp, Option.bind_some]
    dsimp only
    rw [if_pos (by omega), w64 (x := ((m + 1 : Nat) : Int) - 1) (by omega) (by omega), show ((m + 1 : Nat) : Int) - 1 = (m : Int) by omega,
      spec_Text_l0 L hL fl ih m k (p + x.1) _ z hz (by omega) (by omega) (by omega) (by omega) (by rw [ByteArray.size_append]; omega)]
    simp only [tmany, hx, ba_assoc, List.drop_drop, Nat.add_assoc]
theorem ba_lit2 (c : UInt8) (t : ByteArray) : (⟨#[40, c]⟩ : ByteArray) ++ t = (⟨#[40]⟩ : ByteArray) ++ ((⟨#[c]⟩ : ByteArray) ++ t) := by
  rw [← ba_assoc]; rfl
theorem spec_Text_f (L : List Nd) (hL : L.length ≤ 20) : ∀ (fl k p : Nat) (x : Nat × Nat), pnode fl (L.drop p) = some x → 300 + 100 * fl ≤ k → p ≤ 20 → spec_l04Text.f k L (p : Int) = some (tnode fl (L.drop p), ((p + x.1 : Nat) : Int))
  | 0, k, p, x, h, _, _ => by simp [pnode] at h
  | fl + 1, k, p, x, h, hk, hp => by
    obtain ⟨k, rfl⟩ : ∃ q, k = q + 2 := ⟨k - 2, by omega⟩
    have hle2 := pnode_le _ _ _ h
    have hlt : p < L.length := by
      rw [List.length_drop] at hle2
      omega
    rw [List.length_drop] at hle2
    have hts := tnode_size (fl + 1) (L.drop p) x h
    have hdr := nd_drop L (p : Int) (by omega) (by omega)
    rw [show (p : Int).toNat = p from rfl] at hdr
    rw [hdr] at h hts ⊢
    generalize hN : rd_T64 L (p : Int) = n at h hts ⊢
    simp only [pnode] at h
    have hat : wrap64 ((p : Int) + 1) = ((p + 1 : Nat) : Int) := by rw [w64 (x := (p : Int) + 1) (by omega) (by omega)]; omega
    by_cases hin : innerP n = true
    · rw [if_pos hin] at h
      obtain ⟨y, hy, h⟩ := Option.bind_eq_some_iff.1 h
      obtain rfl := Option.some.inj h
      obtain ⟨hop, hf1, hf2, hm1, hm2⟩ := inner_cases n hin
      have hty := tmany_size fl (tnode_size fl) _ _ y hy
      simp only at hle2
      have loop := fun (t : ByteArray) (ht : t.size ≤ 2) => spec_Text_l0 L hL fl (fun k p x hx hk hp => spec_Text_f L hL fl k p x hx hk hp) n.f3.toNat k (p + 1) t y hy (by omega) (by omega) (by omega) (by omega) (by omega)
      rw [spec_l04Text.f, if_pos (by omega), if_pos (by omega)]
      simp only [hN]
      rw [l04Escape_f _ (by omega) _ (by omega), Option.bind_some, hat]
      simp only [tnode, if_pos hin]
      rw [show n.f3.toNat = n.f3.toNat from rfl]
      have hm : ((n.f3.toNat : Nat) : Int) = n.f3 := by omega
      rw [hm] at loop
      rcases hop with h8 | h8 | h8
      · rw [if_pos h8, spec_l04Text.j0, loop _ (by decide), h8, ba_lit2]
        simp only [Option.some.injEq, Prod.mk.injEq]
        exact ⟨rfl, by show ((p + 1 + y.1 : Nat) : Int) = ((p + (y.1 + 1) : Nat) : Int); omega⟩
      · rw [if_neg (by omega), if_pos h8, spec_l04Text.j0, loop _ (by decide), h8, ba_lit2]
        simp only [Option.some.injEq, Prod.mk.injEq]
        exact ⟨rfl, by show ((p + 1 + y.1 : Nat) : Int) = ((p + (y.1 + 1) : Nat) : Int); omega⟩
      · rw [if_neg (by omega), if_neg (by omega), if_pos h8, spec_l04Text.j0, loop _ (by decide), h8, ba_lit2]
        simp only [Option.some.injEq, Prod.mk.injEq]
        exact ⟨rfl, by show ((p + 1 + y.1 : Nat) : Int) = ((p + (y.1 + 1) : Nat) : Int); omega⟩
    · rw [if_neg hin] at h
      by_cases hle : leafP n = true
      · rw [if_pos hle] at h
        obtain rfl := Option.some.inj h
        obtain ⟨hop, hf1, hf2, hf3⟩ := leaf_cases n hle
        have he := esc_size n.f2
        rw [spec_l04Text.f, if_pos (by omega), if_pos (by omega)]
        simp only [hN]
        rw [l04Escape_f _ (by omega) _ (by omega), Option.bind_some, hat]
        simp only [tnode, if_neg hin]
        have k1 : (⟨#[61]⟩ : ByteArray).size = 1 := rfl
        have k2 : (⟨#[40]⟩ : ByteArray).size = 1 := rfl
        have k3 : (⟨#[62, 61]⟩ : ByteArray).size = 2 := rfl
        have k4 : (⟨#[60, 61]⟩ : ByteArray).size = 2 := rfl
        have hop2 : n.f0 = 4 ∨ n.f0 = 5 ∨ n.f0 = 6 ∨ n.f0 = 7 ∨ n.f0 = 8 := by omega
        have e5 : (⟨#[61, 42, 41]⟩ : ByteArray) = (⟨#[61, 42]⟩ : ByteArray) ++ (⟨#[41]⟩ : ByteArray) := rfl
        have e6 : (⟨#[42, 41]⟩ : ByteArray) = (⟨#[42]⟩ : ByteArray) ++ (⟨#[41]⟩ : ByteArray) := rfl
        rcases hop2 with h8 | h8 | h8 | h8 | h8
        · have hlf : leafT n = n.f1 ++ (⟨#[61]⟩ : ByteArray) ++ impl_FilterText.esc n.f2 := by unfold leafT; rw [if_pos h8]
          rw [hlf, if_neg (by omega), if_neg (by omega), if_neg (by omega), if_pos h8, if_pos (by omega), if_pos (by simp only [ByteArray.size_append, k1, k2, k3, k4]; omega), if_pos (by simp only [ByteArray.size_append, k1, k2, k3, k4]; omega), if_pos (by simp only [ByteArray.size_append, k1, k2, k3, k4]; omega)]
          simp only [ba_assoc]
        · have hlf : leafT n = n.f1 ++ (⟨#[61, 42]⟩ : ByteArray) := by unfold leafT; rw [if_neg (by omega), if_pos h8]
          rw [hlf, if_neg (by omega), if_neg (by omega), if_neg (by omega), if_neg (by omega), if_pos h8, if_pos (by omega), if_pos (by simp only [ByteArray.size_append, k1, k2, k3, k4]; omega), e5]
          simp only [ba_assoc]
        · have hlf : leafT n = n.f1 ++ (⟨#[61]⟩ : ByteArray) ++ impl_FilterText.esc n.f2 ++ (⟨#[42]⟩ : ByteArray) := by unfold leafT; rw [if_neg (by omega), if_neg (by omega), if_pos h8]
          rw [hlf, if_neg (by omega), if_neg (by omega), if_neg (by omega), if_neg (by omega), if_neg (by omega), if_pos h8, if_pos (by omega), if_pos (by simp only [ByteArray.size_append, k1, k2, k3, k4]; omega), if_pos (by simp only [ByteArray.size_append, k1, k2, k3, k4]; omega), if_pos (by simp only [ByteArray.size_append, k1, k2, k3, k4]; omega), e6]
          simp only [ba_assoc]
        · have hlf : leafT n = n.f1 ++ (⟨#[62, 61]⟩ : ByteArray) ++ impl_FilterText.esc n.f2 := by unfold leafT; rw [if_neg (by omega), if_neg (by omega), if_neg (by omega), if_pos h8]
          rw [hlf, if_neg (by omega), if_neg (by omega), if_neg (by omega), if_neg (by omega), if_neg (by omega), if_neg (by omega), if_pos h8, if_pos (by omega), if_pos (by simp only [ByteArray.size_append, k1, k2, k3, k4]; omega), if_pos (by simp only [ByteArray.size_append, k1, k2, k3, k4]; omega), if_pos (by simp only [ByteArray.size_append, k1, k2, k3, k4]; omega)]
          simp only [ba_assoc]
        · have hlf : leafT n = n.f1 ++ (⟨#[60, 61]⟩ : ByteArray) ++ impl_FilterText.esc n.f2 := by unfold leafT; rw [if_neg (by omega), if_neg (by omega), if_neg (by omega), if_neg (by omega)]
          rw [hlf, if_neg (by omega), if_neg (by omega), if_neg (by omega), if_neg (by omega), if_neg (by omega), if_neg (by omega), if_neg (by omega), if_pos (by omega), if_pos (by simp only [ByteArray.size_append, k1, k2, k3, k4]; omega), if_pos (by simp only [ByteArray.size_append, k1, k2, k3, k4]; omega), if_pos (by simp only [ByteArray.size_append, k1, k2, k3, k4]; omega)]
          simp only [ba_assoc]
      · rw [if_neg hle] at h; cases h
/-- The text of a filter. -/
def TextP (l : List Nd) : ByteArray := if FilterP l = true then tnode 20 l else ⟨#[]⟩
theorem FilterP_some {l : List Nd} (h : FilterP l = true) : l.length ≤ 20 ∧ ∃ x, pnode 20 l = some x ∧ x.1 = l.length ∧ x.2 ≤ 5 := by
  unfold FilterP at h
  simp only [Bool.and_eq_true, decide_eq_true_eq] at h
  refine ⟨h.1, ?_⟩
  cases hp : pnode 20 l with
  | none => rw [hp] at h; simp at h
  | some x =>
    rw [hp] at h
    simp only [Bool.and_eq_true, decide_eq_true_eq] at h
    exact ⟨x, rfl, h.2.1, h.2.2⟩
theorem spec_FilterText_f (l : List Nd) (k : Nat) (hk : 2400 ≤ k) : spec_FilterText.f k l = some (TextP l) := by
  unfold spec_FilterText.f TextP
  by_cases h4 : (l.length : Int) > 400
  · have hn : ¬ (FilterP l = true) := fun h => by have := (FilterP_some h).1; omega
    rw [if_pos h4, if_neg hn]
  · rw [if_neg h4, spec_FilterRight_f l k (by omega), Option.bind_some]
    by_cases h : FilterP l = true
    · obtain ⟨h1, x, hx, hx1, hx2⟩ := FilterP_some h
      have := spec_Text_f l h1 20 k 0 x (by rw [List.drop_zero]; exact hx) (by omega) (by omega)
      rw [if_pos h, if_pos h, show (0 : Int) = ((0 : Nat) : Int) from rfl, this, List.drop_zero, Option.bind_some]
    · rw [if_neg h, if_neg h]
theorem impl_FilterText_f (l : List Nd) (k : Nat) (hk : 2400 ≤ k) : impl_FilterText.f k l = some (TextP l) := by
  unfold impl_FilterText.f TextP
  rw [impl_FilterRight_f l k (by omega), Option.bind_some]
  by_cases h : FilterP l = true
  · obtain ⟨h1, x, hx, hx1, hx2⟩ := FilterP_some h
    rw [if_pos h, if_pos h, impl_ft 20 k l x hx (by omega) (by omega), Option.bind_some]
  · rw [if_neg h, if_neg h]

theorem FnExactFilterText : laws_FnExactFilterText.Pure := by
  intro l ⟨hl, _⟩
  obtain ⟨K, hK⟩ : ∃ K : Nat, K = 2410 + l.length := ⟨_, rfl⟩
  refine ⟨K, ?_⟩
  unfold laws_FnExactFilterText.f
  obtain ⟨r, e⟩ := laws_szNodeS_f l (by omega) 1048576 K (by omega)
  rw [e, laws_toNodeS_f l (by omega) K (by omega), Option.bind_some]
  split
  · rfl
  · simp only [Option.bind_some]
    rw [spec_FilterText_f _ K (by omega), impl_FilterText_f _ K (by omega), laws_eqNodeS_f _ (by rw [List.length_map]; omega) K (by rw [List.length_map]; omega)]
    simp

end Go.Proofs.YtmkeigielncpjaaGreatDoor.Pure
