/- The law FnExactMayChange answers true at every list of rules, user, entry and list of names: the program's MayChange gives what the reference's gives. No condition. -/
import Derived.Test.YtgkjlfimjnhbbaaGreatDoorQFnExactMayChangex20
import Derived.Laws.Bits64
import Derived.Lib.Strings
namespace Go.Proofs.YtgkjlfimjnhbbaaGreatDoor.Pure
open Go.RowKit Go.Proofs.YtgkjlfimjnhbbaaGreatDoor.PFnExactMayChange Go.Proofs.YtgkjlfimjnhbbaaGreatDoorW.PrintWords Go.Proofs.YtgkjlfimjnhbbaaGreatDoorW.PrintLast
set_option linter.unusedVariables false
set_option linter.unusedSimpArgs false
theorem w64 {x : Int} (h0 : -9223372036854775808 ≤ x) (h1 : x ≤ 9223372036854775807) : wrap64 x = x := by unfold wrap64; omega
theorem ba_append_size (a b : ByteArray) : (a ++ b).size = a.size + b.size := by simp
theorem ba_append_assoc (a b c : ByteArray) : (a ++ b) ++ c = a ++ (b ++ c) := by
 apply ByteArray.ext
 simp
theorem ba_ext {a b : ByteArray} (h : a.data.toList = b.data.toList) : a = b := ByteArray.ext (Array.toList_inj.1 h)
theorem ba_inj {a b : ByteArray} : a.toList = b.toList ↔ a = b :=
 ⟨fun h => ba_ext (by rwa [Go.Lib.toList_data, Go.Lib.toList_data] at h), fun h => by rw [h]⟩
theorem ba_data_append (a b : ByteArray) : (a ++ b).data.toList = a.data.toList ++ b.data.toList := by simp
theorem bytesOf_son (l : List Int) (h : ∀ x ∈ l, 0 ≤ x ∧ x ≤ 255) : bytesOf (strOfNums l) = l := by
 unfold bytesOf
 rw [strOfNums_data, List.map_map]
 conv => rhs; rw [← List.map_id l]
 apply List.map_congr_left
 intro x hx
 have := h x hx
 simp only [Function.comp, id]
 rw [UInt8.toNat_ofNat']
 omega
theorem drop_bt (s : ByteArray) (i : Int) (h0 : 0 ≤ i) (h1 : i < s.size) : (bytesOf s).drop i.toNat = bt s i :: (bytesOf s).drop (i + 1).toNat := by
 have hl : i.toNat < (bytesOf s).length := by rw [bytesOf_length]; omega
 rw [List.drop_eq_getElem_cons hl, ← rd_bytesOf, show (i + 1).toNat = i.toNat + 1 by omega]
 congr 1
 unfold rd
 rw [List.getD_eq_getElem?_getD, List.getElem?_eq_getElem hl]; rfl
theorem some_loop {ρ : Type} (n : Nat) (hn : (n : Int) ≤ 4611686018427387904) (K : Nat) (g : Nat → Int → Int → Option ρ)
  (step : ∀ (k : Nat) (a i : Int), K ≤ k → 0 ≤ i → i < n → (∃ r, g (k + 1) a i = some r) ∨ ∃ a', g (k + 1) a i = g k a' (wrap64 (i + 1)))
  (fin : ∀ (k : Nat) (a i : Int), K ≤ k → 0 ≤ i → (n : Int) ≤ i → ∃ r, g (k + 1) a i = some r) :
  ∀ (d k : Nat) (a i : Int), 0 ≤ i → i + d = n → K + d < k → ∃ r, g k a i = some r
 | 0, k, a, i, h0, hi, hk => by
  obtain ⟨k, rfl⟩ : ∃ q, k = q + 1 := ⟨k - 1, by omega⟩
  exact fin k a i (by omega) h0 (by omega)
 | d + 1, k, a, i, h0, hi, hk => by
  obtain ⟨k, rfl⟩ : ∃ q, k = q + 1 := ⟨k - 1, by omega⟩
  rcases step k a i (by omega) h0 (by omega) with h | ⟨a', e⟩
  ·exact h
  ·rw [e, w64 (x := i + 1) (by omega) (by omega)]
   exact some_loop n hn K g step fin d k a' (i + 1) (by omega) (by omega) (by omega)
theorem skip_loop {ρ : Type} (r : ρ) (n : Nat) (hn : (n : Int) ≤ 4611686018427387904) (K : Nat) (g : Nat → Int → Option ρ)
  (step : ∀ (k : Nat) (i : Int), K ≤ k → 0 ≤ i → i < n → g (k + 1) i = g k (wrap64 (i + 1)))
  (fin : ∀ (k : Nat) (i : Int), K ≤ k → 0 ≤ i → (n : Int) ≤ i → g (k + 1) i = some r) :
  ∀ (d k : Nat) (i : Int), 0 ≤ i → i + d = n → K + d < k → g k i = some r
 | 0, k, i, h0, hi, hk => by
  obtain ⟨k, rfl⟩ : ∃ q, k = q + 1 := ⟨k - 1, by omega⟩
  exact fin k i (by omega) h0 (by omega)
 | d + 1, k, i, h0, hi, hk => by
  obtain ⟨k, rfl⟩ : ∃ q, k = q + 1 := ⟨k - 1, by omega⟩
  rw [step k i (by omega) h0 (by omega), w64 (x := i + 1) (by omega) (by omega)]
  exact skip_loop r n hn K g step fin d k (i + 1) (by omega) (by omega) (by omega)
theorem copy_loop {β : Type} (n : Nat) (hn : (n : Int) ≤ 4611686018427387904) (src : Nat → β) (K : Nat) (g : Nat → List β → Int → Option (List β))
  (step : ∀ (k : Nat) (x : List β) (i : Int), K ≤ k → 0 ≤ i → i < n → x.length = n → g (k + 1) x i = g k (x.set i.toNat (src i.toNat)) (wrap64 (i + 1)))
  (fin : ∀ (k : Nat) (x : List β) (i : Int), (n : Int) ≤ i → g (k + 1) x i = some x) :
  ∀ (d k : Nat) (x : List β) (i : Int), 0 ≤ i → i + d = n → K + d < k → x.length = n → g k x i = some (x.take i.toNat ++ (List.range' i.toNat d).map src)
 | 0, k, x, i, h0, hi, hk, hx => by
  obtain ⟨k, rfl⟩ : ∃ q, k = q + 1 := ⟨k - 1, by omega⟩
  rw [fin k x i (by omega), List.take_of_length_le (by omega)]
  simp
 | d + 1, k, x, i, h0, hi, hk, hx => by
  obtain ⟨k, rfl⟩ : ∃ q, k = q + 1 := ⟨k - 1, by omega⟩
  rw [step k x i (by omega) h0 (by omega) hx, w64 (x := i + 1) (by omega) (by omega),
   copy_loop n hn src K g step fin d k _ (i + 1) (by omega) (by omega) (by omega) (by rw [List.length_set]; exact hx)]
  congr 1
  rw [show (i + 1).toNat = i.toNat + 1 by omega, List.range'_succ, List.map_cons, List.take_succ_eq_append_getElem (by rw [List.length_set]; omega), List.getElem_set_self, List.take_set_of_le (by omega), List.append_assoc]
  rfl
theorem copy_all {β : Type} (n : Nat) (hn : (n : Int) ≤ 4611686018427387904) (src : Nat → β) (K : Nat) (g : Nat → List β → Int → Option (List β)) (z : β)
  (step : ∀ (k : Nat) (x : List β) (i : Int), K ≤ k → 0 ≤ i → i < n → x.length = n → g (k + 1) x i = g k (x.set i.toNat (src i.toNat)) (wrap64 (i + 1)))
  (fin : ∀ (k : Nat) (x : List β) (i : Int), (n : Int) ≤ i → g (k + 1) x i = some x) (k : Nat) (hk : K + n < k) :
  g k (List.replicate n z) 0 = some ((List.range n).map src) := by
 rw [copy_loop n hn src K g step fin n k _ 0 (by omega) (by omega) hk (by simp)]
 simp [List.range_eq_range']
theorem range_map_getD {α β : Type} (l : List α) (z : α) (f : α → β) : (List.range l.length).map (fun j => f (l.getD j z)) = l.map f := by
 apply List.ext_getElem
 ·simp
 ·intro i h1 h2
  simp only [List.getElem_map, List.getElem_range]
  rw [List.getD_eq_getElem?_getD, List.getElem?_eq_getElem (by simpa using h1)]
  rfl
theorem all_loop (fin : Bool) (f : Nat → Bool) (n : Nat) (hn : (n : Int) ≤ 4611686018427387904) (K : Nat) (g : Nat → Int → Option Bool)
  (step : ∀ (k : Nat) (i : Int), K ≤ k → 0 ≤ i → i < n → g (k + 1) i = if f i.toNat = true then g k (wrap64 (i + 1)) else some false)
  (hfin : ∀ (k : Nat) (i : Int), K ≤ k → 0 ≤ i → (n : Int) ≤ i → g (k + 1) i = some fin) :
  ∀ (d k : Nat) (i : Int), 0 ≤ i → i + d = n → K + d < k → g k i = some ((List.range' i.toNat d).all f && fin)
 | 0, k, i, h0, hi, hk => by
  obtain ⟨k, rfl⟩ : ∃ q, k = q + 1 := ⟨k - 1, by omega⟩
  rw [hfin k i (by omega) h0 (by omega)]; simp
 | d + 1, k, i, h0, hi, hk => by
  obtain ⟨k, rfl⟩ : ∃ q, k = q + 1 := ⟨k - 1, by omega⟩
  rw [step k i (by omega) h0 (by omega), w64 (x := i + 1) (by omega) (by omega), List.range'_succ, List.all_cons]
  cases hf : f i.toNat with
  | false => simp
  | true =>
   rw [if_pos rfl, all_loop fin f n hn K g step hfin d k (i + 1) (by omega) (by omega) (by omega), show (i + 1).toNat = i.toNat + 1 by omega]
   simp
def cvRdn (x : S120) : S98 := ⟨x.f0, x.f1⟩
theorem laws_szRdnS_f (l : List S120) (hl : (l.length : Int) ≤ 4611686018427387904) (a : Int) (k : Nat) (hk : l.length < k) : ∃ r, laws_szRdnS.f k l a = some r := by
 unfold laws_szRdnS.f
 split
 ·exact ⟨_, rfl⟩
 ·refine some_loop l.length hl 0 (fun k a i => laws_szRdnS.l0 k l a i) (fun k a i _ h0 hi => ?_) (fun k a i _ h0 hi => ?_) l.length k _ 0 (by omega) (by omega) (by omega)
  ·show (∃ r, laws_szRdnS.l0 (k + 1) l a i = some r) ∨ ∃ a', laws_szRdnS.l0 (k + 1) l a i = laws_szRdnS.l0 k l a' (wrap64 (i + 1))
   rw [laws_szRdnS.l0, if_pos hi, if_pos h0]
   unfold laws_szRdn.f
   repeat' split
   all_goals simp only [Option.bind_some]
   all_goals (try split)
   all_goals first | exact .inl ⟨_, rfl⟩ | exact .inr ⟨_, rfl⟩
  ·show ∃ r, laws_szRdnS.l0 (k + 1) l a i = some r
   rw [laws_szRdnS.l0, if_neg (by omega)]
   exact ⟨_, rfl⟩
theorem laws_toRdnS_f (l : List S120) (hl : l.length ≤ 8796093022208) (k : Nat) (hk : l.length < k) : laws_toRdnS.f k l = some (l.map cvRdn) := by
 unfold laws_toRdnS.f
 rw [if_pos (by omega), if_pos (by omega), show ((l.length : Int)).toNat = l.length from rfl,
  copy_all l.length (by omega) (fun j => cvRdn (l.getD j z120)) 0 (fun k x i => laws_toRdnS.l0 k l x i) z98 (fun k x i _ h0 hi hx => ?_) (fun k x i hi => ?_) k (by omega), range_map_getD]
 ·show laws_toRdnS.l0 (k + 1) l x i = _
  rw [laws_toRdnS.l0, if_pos hi, if_pos h0]
  unfold laws_toRdn.f
  simp only [Option.bind_some]
  rw [if_pos (by omega)]
  rfl
 ·show laws_toRdnS.l0 (k + 1) l x i = _
  rw [laws_toRdnS.l0, if_neg (by omega)]
theorem laws_eqRdnS_f (l : List S98) (hl : (l.length : Int) ≤ 4611686018427387904) (k : Nat) (hk : l.length < k) : laws_eqRdnS.f k l l = some true := by
 unfold laws_eqRdnS.f
 rw [if_pos rfl]
 refine skip_loop true l.length hl 0 (fun k i => laws_eqRdnS.l0 k l l i) (fun k i _ h0 hi => ?_) (fun k i _ h0 hi => ?_) l.length k 0 (by omega) (by omega) (by omega)
 ·show laws_eqRdnS.l0 (k + 1) l l i = laws_eqRdnS.l0 k l l (wrap64 (i + 1))
  rw [laws_eqRdnS.l0, if_pos hi, if_pos h0, if_pos hi]
  unfold laws_eqRdn.f
  rw [if_pos rfl, if_pos rfl]
  simp
 ·show laws_eqRdnS.l0 (k + 1) l l i = _
  rw [laws_eqRdnS.l0, if_neg (by omega)]
theorem laws_szStringS_f (l : List ByteArray) (hl : (l.length : Int) ≤ 4611686018427387904) (a : Int) (k : Nat) (hk : l.length < k) : ∃ r, laws_szStringS.f k l a = some r := by
 unfold laws_szStringS.f
 split
 ·exact ⟨_, rfl⟩
 ·refine some_loop l.length hl 0 (fun k a i => laws_szStringS.l0 k l a i) (fun k a i _ h0 hi => ?_) (fun k a i _ h0 hi => ?_) l.length k _ 0 (by omega) (by omega) (by omega)
  ·show (∃ r, laws_szStringS.l0 (k + 1) l a i = some r) ∨ ∃ a', laws_szStringS.l0 (k + 1) l a i = laws_szStringS.l0 k l a' (wrap64 (i + 1))
   rw [laws_szStringS.l0, if_pos hi, if_pos h0]
   repeat' split
   all_goals first | exact .inl ⟨_, rfl⟩ | exact .inr ⟨_, rfl⟩
  ·show ∃ r, laws_szStringS.l0 (k + 1) l a i = some r
   rw [laws_szStringS.l0, if_neg (by omega)]
   exact ⟨_, rfl⟩
theorem laws_toStringS_f (l : List ByteArray) (hl : l.length ≤ 17592186044416) (k : Nat) (hk : l.length < k) : laws_toStringS.f k l = some l := by
 unfold laws_toStringS.f
 rw [if_pos (by omega), if_pos (by omega), show ((l.length : Int)).toNat = l.length from rfl,
  copy_all l.length (by omega) (fun j => id (l.getD j ByteArray.empty)) 0 (fun k x i => laws_toStringS.l0 k l x i) (⟨#[]⟩ : ByteArray) (fun k x i _ h0 hi hx => ?_) (fun k x i hi => ?_) k (by omega), range_map_getD]
 ·rw [List.map_id]
 ·show laws_toStringS.l0 (k + 1) l x i = _
  rw [laws_toStringS.l0, if_pos hi, if_pos h0, if_pos (by omega)]
  rfl
 ·show laws_toStringS.l0 (k + 1) l x i = _
  rw [laws_toStringS.l0, if_neg (by omega)]
theorem laws_eqStringS_f (l : List ByteArray) (hl : (l.length : Int) ≤ 4611686018427387904) (k : Nat) (hk : l.length < k) : laws_eqStringS.f k l l = some true := by
 unfold laws_eqStringS.f
 rw [if_pos rfl]
 refine skip_loop true l.length hl 0 (fun k i => laws_eqStringS.l0 k l l i) (fun k i _ h0 hi => ?_) (fun k i _ h0 hi => ?_) l.length k 0 (by omega) (by omega) (by omega)
 ·show laws_eqStringS.l0 (k + 1) l l i = laws_eqStringS.l0 k l l (wrap64 (i + 1))
  rw [laws_eqStringS.l0, if_pos hi, if_pos h0, if_pos hi]
  simp
 ·show laws_eqStringS.l0 (k + 1) l l i = _
  rw [laws_eqStringS.l0, if_neg (by omega)]
abbrev At := S127
def cvAttr (x : S123) : At := ⟨x.f0, x.f1⟩
theorem laws_szAttrS_f (l : List S123) (hl : (l.length : Int) ≤ 4611686018427387904) (a : Int) (M : Nat) (hM : ∀ x ∈ l, x.f1.length ≤ M ∧ (x.f1.length : Int) ≤ 4611686018427387904) (k : Nat) (hk : l.length + M + 1 < k) : ∃ r, laws_szAttrS.f k l a = some r := by
 unfold laws_szAttrS.f
 split
 ·exact ⟨_, rfl⟩
 ·refine some_loop l.length hl (M + 1) (fun k a i => laws_szAttrS.l0 k l a i) (fun k a i hk h0 hi => ?_) (fun k a i _ h0 hi => ?_) l.length k _ 0 (by omega) (by omega) (by omega)
  ·show (∃ r, laws_szAttrS.l0 (k + 1) l a i = some r) ∨ ∃ a', laws_szAttrS.l0 (k + 1) l a i = laws_szAttrS.l0 k l a' (wrap64 (i + 1))
   have hmem : rd_T123 l i ∈ l := by
    have hi2 : i.toNat < l.length := by omega
    unfold rd_T123
    rw [List.getD_eq_getElem?_getD, List.getElem?_eq_getElem hi2]
    exact List.getElem_mem hi2
   obtain ⟨m1, m2⟩ := hM _ hmem
   rw [laws_szAttrS.l0, if_pos hi, if_pos h0]
   unfold laws_szAttr.f
   split
   ·simp only [Option.bind_some]
    rw [if_pos (by omega)]
    exact .inl ⟨_, rfl⟩
   ·obtain ⟨r, e⟩ := laws_szStringS_f (rd_T123 l i).f1 m2 (wrap64 (a - ((rd_T123 l i).f0.size : Int))) k (by omega)
    rw [e]
    simp only [Option.bind_some]
    by_cases h : r < 0
    ·rw [if_pos h]
     simp only [Option.bind_some]
     rw [if_pos (by omega)]
     exact .inl ⟨_, rfl⟩
    ·rw [if_neg h]
     simp only [Option.bind_some]
     rw [if_neg h]
     exact .inr ⟨_, rfl⟩
  ·show ∃ r, laws_szAttrS.l0 (k + 1) l a i = some r
   rw [laws_szAttrS.l0, if_neg (by omega)]
   exact ⟨_, rfl⟩
theorem laws_toAttrS_f (l : List S123) (hl : l.length ≤ 7036874417766) (M : Nat) (hM : ∀ x ∈ l, x.f1.length ≤ M ∧ x.f1.length ≤ 17592186044416) (k : Nat) (hk : l.length + M + 1 < k) : laws_toAttrS.f k l = some (l.map cvAttr) := by
 unfold laws_toAttrS.f
 rw [if_pos (by omega), if_pos (by omega), show ((l.length : Int)).toNat = l.length from rfl,
  copy_all l.length (by omega) (fun j => cvAttr (l.getD j z123)) (M + 1) (fun k x i => laws_toAttrS.l0 k l x i) z127 (fun k x i hk h0 hi hx => ?_) (fun k x i hi => ?_) k (by omega), range_map_getD]
 ·show laws_toAttrS.l0 (k + 1) l x i = _
  have hmem : rd_T123 l i ∈ l := by
   have hi2 : i.toNat < l.length := by omega
   unfold rd_T123
   rw [List.getD_eq_getElem?_getD, List.getElem?_eq_getElem hi2]
   exact List.getElem_mem hi2
  obtain ⟨m1, m2⟩ := hM _ hmem
  rw [laws_toAttrS.l0, if_pos hi, if_pos h0]
  unfold laws_toAttr.f
  rw [laws_toStringS_f _ m2 k (by omega)]
  simp only [Option.bind_some]
  rw [if_pos (by omega)]
  rfl
 ·show laws_toAttrS.l0 (k + 1) l x i = _
  rw [laws_toAttrS.l0, if_neg (by omega)]
theorem laws_eqAttrS_f (l : List At) (hl : (l.length : Int) ≤ 4611686018427387904) (M : Nat) (hM : ∀ x ∈ l, x.f1.length ≤ M ∧ (x.f1.length : Int) ≤ 4611686018427387904) (k : Nat) (hk : l.length + M + 1 < k) : laws_eqAttrS.f k l l = some true := by
 unfold laws_eqAttrS.f
 rw [if_pos rfl]
 refine skip_loop true l.length hl (M + 1) (fun k i => laws_eqAttrS.l0 k l l i) (fun k i hk h0 hi => ?_) (fun k i _ h0 hi => ?_) l.length k 0 (by omega) (by omega) (by omega)
 ·show laws_eqAttrS.l0 (k + 1) l l i = laws_eqAttrS.l0 k l l (wrap64 (i + 1))
  have hmem : rd_T127 l i ∈ l := by
   have hi2 : i.toNat < l.length := by omega
   unfold rd_T127
   rw [List.getD_eq_getElem?_getD, List.getElem?_eq_getElem hi2]
   exact List.getElem_mem hi2
  obtain ⟨m1, m2⟩ := hM _ hmem
  rw [laws_eqAttrS.l0, if_pos hi, if_pos h0, if_pos hi]
  unfold laws_eqAttr.f
  rw [if_pos rfl, laws_eqStringS_f _ m2 k (by omega)]
  simp
 ·show laws_eqAttrS.l0 (k + 1) l l i = _
  rw [laws_eqAttrS.l0, if_neg (by omega)]
def up (c : Int) : Int := if 65 ≤ c ∧ c ≤ 90 then c + 32 else c
def nput (l : List Int) (c : Int) : List Int := if c = 32 ∧ (l = [] ∨ rd l ((l.length : Int) - 1) = 32) then l else l ++ [c]
def nfold (l cs : List Int) : List Int := cs.foldl (fun l c => nput l (up c)) l
def ntrim (l : List Int) : List Int := if l ≠ [] ∧ rd l ((l.length : Int) - 1) = 32 then l.take (l.length - 1) else l
def prt (c : Int) : Bool := decide (32 ≤ c) && decide (c ≤ 126)
theorem prt_lo {c : Int} (h : c < 32) : prt c = false := by unfold prt; rw [decide_eq_false (by omega)]; rfl
theorem prt_hi {c : Int} (h : c > 126) : prt c = false := by unfold prt; rw [decide_eq_false (p := c ≤ 126) (by omega)]; simp
def plainP (s : ByteArray) : Bool := (bytesOf s).all prt
def NormL (s : ByteArray) : List Int := if s.size ≤ 100 ∧ plainP s = true then ntrim (nfold [] (bytesOf s)) else []
def NormP (s : ByteArray) : ByteArray := strOfNums (NormL s)
theorem spec_l02Plain_l0 (s : ByteArray) (hs : s.size ≤ 4611686018427387904) : ∀ (d k : Nat) (i : Int), 0 ≤ i → i + d = s.size → d < k →
  spec_l02Plain.l0 k s i = some (((bytesOf s).drop i.toNat).all prt)
 | 0, k, i, h0, hd, hk => by
  obtain ⟨k, rfl⟩ : ∃ m, k = m + 1 := ⟨k - 1, by omega⟩
  simp only [spec_l02Plain.l0]
  rw [if_neg (by omega), List.drop_of_length_le (by rw [bytesOf_length]; omega)]; rfl
 | d + 1, k, i, h0, hd, hk => by
  obtain ⟨k, rfl⟩ : ∃ m, k = m + 1 := ⟨k - 1, by omega⟩
  simp only [spec_l02Plain.l0]
  rw [if_pos (by omega), if_pos h0, drop_bt s i h0 (by omega), List.all_cons]
  by_cases h1 : bt s i < 32
  ·rw [if_pos h1, show prt (bt s i) = false from prt_lo h1]; rfl
  ·rw [if_neg h1]
   by_cases h2 : bt s i > 126
   ·rw [if_pos h2, show prt (bt s i) = false from prt_hi h2]; rfl
   ·rw [if_neg h2, w64 (by omega) (by omega), spec_l02Plain_l0 s hs d k (i + 1) (by omega) (by omega) (by omega)]
    simp [prt, show 32 ≤ bt s i by omega, show bt s i ≤ 126 by omega]
theorem spec_l02Plain_f (s : ByteArray) (hs : s.size ≤ 4611686018427387904) (k : Nat) (hk : s.size < k) : spec_l02Plain.f k s = some (plainP s) := by
 unfold spec_l02Plain.f
 rw [spec_l02Plain_l0 s hs s.size k 0 (by omega) (by omega) hk]; rfl
theorem impl_isPrintable_l0 (s : ByteArray) (hs : s.size ≤ 4611686018427387904) : ∀ (d k : Nat) (i : Int), 0 ≤ i → i + d = s.size → d < k →
  impl_isPrintable.l0 k s (s.size : Int) i = some (((bytesOf s).drop i.toNat).all prt)
 | 0, k, i, h0, hd, hk => by
  obtain ⟨k, rfl⟩ : ∃ m, k = m + 1 := ⟨k - 1, by omega⟩
  simp only [impl_isPrintable.l0]
  rw [if_neg (by omega), List.drop_of_length_le (by rw [bytesOf_length]; omega)]; rfl
 | d + 1, k, i, h0, hd, hk => by
  obtain ⟨k, rfl⟩ : ∃ m, k = m + 1 := ⟨k - 1, by omega⟩
  simp only [impl_isPrintable.l0]
  rw [if_pos (by omega), if_pos h0, if_pos (by omega), drop_bt s i h0 (by omega), List.all_cons]
  by_cases h1 : bt s i < 32
  ·rw [if_pos h1, show prt (bt s i) = false from prt_lo h1]; rfl
  ·rw [if_neg h1]
   by_cases h2 : bt s i > 126
   ·rw [if_pos h2, show prt (bt s i) = false from prt_hi h2]; rfl
   ·rw [if_neg h2, w64 (by omega) (by omega), impl_isPrintable_l0 s hs d k (i + 1) (by omega) (by omega) (by omega)]
    simp [prt, show 32 ≤ bt s i by omega, show bt s i ≤ 126 by omega]
theorem impl_isPrintable_f (s : ByteArray) (hs : s.size ≤ 4611686018427387904) (k : Nat) (hk : s.size < k) : impl_isPrintable.f k s = some (plainP s) := by
 unfold impl_isPrintable.f
 rw [impl_isPrintable_l0 s hs s.size k 0 (by omega) (by omega) hk]; rfl
theorem nput_length (l : List Int) (c : Int) : (nput l c).length ≤ l.length + 1 := by
 unfold nput; split <;> simp
theorem up_of {c : Int} (h0 : 0 ≤ c) (h1 : c ≤ 255) (b : Bool) (hb : b = (decide (c ≥ 65) && decide (c ≤ 90))) : (if b = true then (c + 32) % 256 else c) = up c := by
 unfold up
 subst hb
 by_cases h : 65 ≤ c ∧ c ≤ 90
 ·rw [if_pos h, if_pos (by simp [h.1, h.2])]; omega
 ·rw [if_neg h, if_neg (by simpa using h)]
theorem spec_Norm_j2 (k : Nat) (s : ByteArray) (l : List Int) (i c : Int) (b : Bool) (hl : l.length < 1000) (h0 : 0 ≤ i) (h1 : i < 1000) :
  spec_Norm.j2 (k + 1) s l i c b = spec_Norm.l0 k s (nput l (if b = true then (c + 32) % 256 else c)) (i + 1) := by
 simp only [spec_Norm.j2]
 rw [w64 (x := i + 1) (by omega) (by omega), w64 (x := (l.length : Int) - 1) (by omega) (by omega), if_pos (show l.length < 140737488355328 by omega), if_pos (show l.length < 140737488355328 by omega)]
 have key : ∀ c : Int, (if c = 32 then (if (l.length : Int) = 0 then spec_Norm.l0 k s l (i + 1) else (if 0 ≤ (l.length : Int) - 1 then (if (l.length : Int) - 1 < (l.length : Int) then (if rd l ((l.length : Int) - 1) = 32 then spec_Norm.l0 k s l (i + 1) else spec_Norm.l0 k s (l ++ [c]) (i + 1)) else none) else none)) else spec_Norm.l0 k s (l ++ [c]) (i + 1)) = spec_Norm.l0 k s (nput l c) (i + 1) := by
  intro c
  unfold nput
  by_cases hc : c = 32
  ·rw [if_pos hc]
   by_cases hn : l = []
   ·rw [if_pos (by simp [hn]), if_pos ⟨hc, .inl hn⟩]
   ·have : 0 < l.length := List.length_pos_iff.2 hn
    rw [if_neg (by omega), if_pos (by omega), if_pos (by omega)]
    by_cases hr : rd l ((l.length : Int) - 1) = 32
    ·rw [if_pos hr, if_pos ⟨hc, .inr hr⟩]
    ·rw [if_neg hr, if_neg (fun x => x.2.elim hn hr)]
  ·rw [if_neg hc, if_neg (fun x => hc x.1)]
 cases b
 ·exact key c
 ·exact key _
theorem impl_Norm_j2 (k : Nat) (s : ByteArray) (l : List Int) (n i c : Int) (b : Bool) (hl : l.length < 1000) (h0 : 0 ≤ i) (h1 : i < 1000) :
  impl_Norm.j2 (k + 1) s l c n i b = impl_Norm.l0 k s (nput l (if b = true then (c + 32) % 256 else c)) n (i + 1) := by
 simp only [impl_Norm.j2]
 rw [w64 (x := i + 1) (by omega) (by omega), w64 (x := (l.length : Int) - 1) (by omega) (by omega), if_pos (show l.length < 140737488355328 by omega), if_pos (show l.length < 140737488355328 by omega)]
 have key : ∀ c : Int, (if c = 32 then (if (l.length : Int) > 0 then (if 0 ≤ (l.length : Int) - 1 then (if (l.length : Int) - 1 < (l.length : Int) then (if rd l ((l.length : Int) - 1) = 32 then impl_Norm.l0 k s l n (i + 1) else impl_Norm.l0 k s (l ++ [c]) n (i + 1)) else none) else none) else impl_Norm.l0 k s l n (i + 1)) else impl_Norm.l0 k s (l ++ [c]) n (i + 1)) = impl_Norm.l0 k s (nput l c) n (i + 1) := by
  intro c
  unfold nput
  by_cases hc : c = 32
  ·rw [if_pos hc]
   by_cases hn : l = []
   ·rw [if_neg (by simp [hn]), if_pos ⟨hc, .inl hn⟩]
   ·have : 0 < l.length := List.length_pos_iff.2 hn
    rw [if_pos (by omega), if_pos (by omega), if_pos (by omega)]
    by_cases hr : rd l ((l.length : Int) - 1) = 32
    ·rw [if_pos hr, if_pos ⟨hc, .inr hr⟩]
    ·rw [if_neg hr, if_neg (fun x => x.2.elim hn hr)]
  ·rw [if_neg hc, if_neg (fun x => hc x.1)]
 cases b
 ·exact key c
 ·exact key _
theorem spec_Norm_l0 (s : ByteArray) (hs : s.size ≤ 100) : ∀ (d k : Nat) (i : Int) (l : List Int), 0 ≤ i → i + d = s.size → 2 * d < k → l.length ≤ i →
  spec_Norm.l0 k s l i = some (strOfNums (ntrim (nfold l ((bytesOf s).drop i.toNat))))
 | 0, k, i, l, h0, hd, hk, hl => by
  obtain ⟨k, rfl⟩ : ∃ m, k = m + 1 := ⟨k - 1, by omega⟩
  simp only [spec_Norm.l0]
  rw [if_neg (by omega), List.drop_of_length_le (by rw [bytesOf_length]; omega)]
  rw [show nfold l [] = l from rfl]
  unfold ntrim
  by_cases hn : l = []
  ·subst hn; simp
  ·have : 0 < l.length := List.length_pos_iff.2 hn
   rw [w64 (x := (l.length : Int) - 1) (by omega) (by omega), if_pos (by omega), if_pos (by omega), if_pos (by omega)]
   by_cases hr : rd l ((l.length : Int) - 1) = 32
   ·rw [if_pos hr, if_pos (show (l.length : Int) - 1 ≤ (l.length : Int) by omega), if_pos ⟨hn, hr⟩, show ((l.length : Int) - 1).toNat = l.length - 1 by omega]
   ·rw [if_neg hr, if_neg (fun x => hr x.2)]
 | d + 1, k, i, l, h0, hd, hk, hl => by
  obtain ⟨k, rfl⟩ : ∃ m, k = m + 2 := ⟨k - 2, by omega⟩
  have hb := bt_range s i
  have hj : ∀ b : Bool, b = (decide (bt s i ≥ 65) && decide (bt s i ≤ 90)) → spec_Norm.j2 (k + 1) s l i (bt s i) b = some (strOfNums (ntrim (nfold l ((bytesOf s).drop i.toNat)))) := by
   intro b hbb
   rw [spec_Norm_j2 k s l i _ b (by omega) h0 (by omega), up_of hb.1 hb.2 b hbb]
   have := nput_length l (up (bt s i))
   rw [spec_Norm_l0 s hs d k (i + 1) _ (by omega) (by omega) (by omega) (by omega), drop_bt s i h0 (by omega)]; rfl
  simp only [spec_Norm.l0]
  rw [if_pos (by omega), if_pos h0]
  by_cases h : bt s i ≥ 65
  ·rw [if_pos h]; exact hj _ (by simp [h])
  ·rw [if_neg h]; exact hj _ (by simp [h])
theorem son_take (l : List Int) (n : Nat) : (strOfNums l).extract 0 n = strOfNums (l.take n) := by
 apply ba_ext
 rw [ByteArray.data_extract, Array.toList_extract, strOfNums_data, strOfNums_data]
 simp [List.extract]
theorem son_drop (l : List Int) (n : Nat) : (strOfNums l).extract n (strOfNums l).size = strOfNums (l.drop n) := by
 apply ba_ext
 rw [ByteArray.data_extract, Array.toList_extract, strOfNums_data, strOfNums_data, strOfNums_size]
 simp only [List.extract, List.map_drop]
 exact List.take_of_length_le (by simp)
theorem drop_last (l : List Int) (h : 0 < l.length) : l.drop (l.length - 1) = [rd l ((l.length : Int) - 1)] := by
 rw [List.drop_eq_getElem_cons (by omega), List.drop_of_length_le (by omega)]
 congr 1
 unfold rd
 rw [show ((l.length : Int) - 1).toNat = l.length - 1 by omega, List.getD_eq_getElem?_getD, List.getElem?_eq_getElem (by omega)]; rfl
theorem trim_blank (l : List Int) (hl : l.length < 1000) (hr : ∀ x ∈ l, 0 ≤ x ∧ x ≤ 255) : strings_TrimSuffix.f (strOfNums l) (⟨#[32]⟩ : ByteArray) = some (strOfNums (ntrim l)) := by
 have hz : (⟨#[32]⟩ : ByteArray).size = 1 := rfl
 unfold strings_TrimSuffix.f stringslite_TrimSuffix.f stringslite_HasSuffix.f ntrim
 rw [hz]
 by_cases hn : l = []
 ·subst hn
  rw [if_neg (show ¬ (((strOfNums []).size : Int) ≥ ((1 : Nat) : Int)) by decide)]; rfl
 ·have hp : 0 < l.length := List.length_pos_iff.2 hn
  have hin : rd l ((l.length : Int) - 1) ∈ l := by have h := drop_last l hp; exact List.mem_of_mem_drop (i := l.length - 1) (by rw [h]; simp)
  have hb := hr _ hin
  simp only [strOfNums_size, Int.natCast_one]
  rw [w64 (x := (l.length : Int) - 1) (by omega) (by omega), if_pos (by omega), if_pos (by omega), if_pos (by omega)]
  simp only [Option.bind_some]
  have e1 : (strOfNums l).extract ((l.length : Int) - 1).toNat l.length = strOfNums [rd l ((l.length : Int) - 1)] := by
   rw [← drop_last l hp, ← son_drop, strOfNums_size, show ((l.length : Int) - 1).toNat = l.length - 1 by omega]
  rw [e1]
  have e2 : ((strOfNums [rd l ((l.length : Int) - 1)]).toList == (⟨#[32]⟩ : ByteArray).toList) = decide (rd l ((l.length : Int) - 1) = 32) := by
   rw [Go.Lib.toList_data, Go.Lib.toList_data, strOfNums_data]
   generalize rd l ((l.length : Int) - 1) = x at hb
   have key : ∀ z : Fin 256, (([(z.val : Int)].map fun n => UInt8.ofNat n.toNat) == (⟨#[32]⟩ : ByteArray).data.toList) = decide ((z.val : Int) = 32) := by decide +kernel
   have := key ⟨x.toNat, by omega⟩
   simpa [Int.toNat_of_nonneg hb.1] using this
  rw [e2]
  by_cases h : rd l ((l.length : Int) - 1) = 32
  ·rw [decide_eq_true h]
   simp only [if_true, Option.bind_some]
   rw [if_pos (show l ≠ [] ∧ rd l ((l.length : Int) - 1) = 32 from ⟨hn, h⟩), son_take, show ((l.length : Int) - 1).toNat = l.length - 1 by omega, if_pos (show 0 ≤ (l.length : Int) - 1 by omega), if_pos (show (l.length : Int) - 1 ≤ (l.length : Int) by omega)]; rfl
  ·rw [decide_eq_false h, if_neg (show ¬ (l ≠ [] ∧ rd l ((l.length : Int) - 1) = 32) from fun x => h x.2)]; rfl
theorem nput_range {l : List Int} {c : Int} (hl : ∀ x ∈ l, 0 ≤ x ∧ x ≤ 255) (hc : 0 ≤ c ∧ c ≤ 255) : ∀ x ∈ nput l c, 0 ≤ x ∧ x ≤ 255 := by
 intro x hx
 unfold nput at hx
 split at hx
 ·exact hl x hx
 ·rcases List.mem_append.1 hx with h | h
  ·exact hl x h
  ·rw [List.mem_singleton.1 h]; exact hc
theorem up_range {c : Int} (hc : 0 ≤ c ∧ c ≤ 255) : 0 ≤ up c ∧ up c ≤ 255 := by unfold up; split <;> omega
theorem impl_Norm_l0 (s : ByteArray) (hs : s.size ≤ 100) : ∀ (d k : Nat) (i : Int) (l : List Int), 0 ≤ i → i + d = s.size → 2 * d < k → l.length ≤ i → (∀ x ∈ l, 0 ≤ x ∧ x ≤ 255) →
  impl_Norm.l0 k s l (s.size : Int) i = some (strOfNums (ntrim (nfold l ((bytesOf s).drop i.toNat))))
 | 0, k, i, l, h0, hd, hk, hl, hr => by
  obtain ⟨k, rfl⟩ : ∃ m, k = m + 1 := ⟨k - 1, by omega⟩
  simp only [impl_Norm.l0]
  rw [if_neg (by omega), List.drop_of_length_le (by rw [bytesOf_length]; omega), trim_blank l (by omega) hr]
  rfl
 | d + 1, k, i, l, h0, hd, hk, hl, hr => by
  obtain ⟨k, rfl⟩ : ∃ m, k = m + 2 := ⟨k - 2, by omega⟩
  have hb := bt_range s i
  have hj : ∀ b : Bool, b = (decide (bt s i ≥ 65) && decide (bt s i ≤ 90)) → impl_Norm.j2 (k + 1) s l (bt s i) (s.size : Int) i b = some (strOfNums (ntrim (nfold l ((bytesOf s).drop i.toNat)))) := by
   intro b hbb
   rw [impl_Norm_j2 k s l _ i _ b (by omega) h0 (by omega), up_of hb.1 hb.2 b hbb]
   have := nput_length l (up (bt s i))
   rw [impl_Norm_l0 s hs d k (i + 1) _ (by omega) (by omega) (by omega) (by omega) (nput_range hr (up_range hb)), drop_bt s i h0 (by omega)]; rfl
  simp only [impl_Norm.l0]
  rw [if_pos (by omega), if_pos h0, if_pos (by omega)]
  by_cases h : bt s i ≥ 65
  ·rw [if_pos h]; exact hj _ (by simp [h])
  ·rw [if_neg h]; exact hj _ (by simp [h])
theorem spec_Norm_f (s : ByteArray) (k : Nat) (hk : 2 * s.size + 2 < k) : spec_Norm.f k s = some (NormP s) := by
 obtain ⟨k, rfl⟩ : ∃ m, k = m + 1 := ⟨k - 1, by omega⟩
 unfold spec_Norm.f NormP NormL
 by_cases h : s.size ≤ 100
 ·rw [if_neg (by omega), spec_l02Plain_f s (by omega) _ (by omega)]
  simp only [Option.bind_some, spec_Norm.j0]
  by_cases hp : plainP s = true
  ·rw [if_neg (by simp [hp]), if_pos ⟨h, hp⟩, spec_Norm_l0 s h s.size k 0 [] (by omega) (by omega) (by omega) (by simp)]; rfl
  ·rw [if_pos (by simp [hp]), if_neg (fun x => hp x.2)]; rfl
 ·rw [if_pos (by omega), if_neg (fun x => h x.1)]
  simp only [spec_Norm.j0, if_true]; rfl
theorem impl_Norm_f (s : ByteArray) (k : Nat) (hk : 2 * s.size + 2 < k) : impl_Norm.f k s = some (NormP s) := by
 obtain ⟨k, rfl⟩ : ∃ m, k = m + 1 := ⟨k - 1, by omega⟩
 unfold impl_Norm.f NormP NormL
 by_cases h : s.size ≤ 100
 ·rw [if_neg (by omega), impl_isPrintable_f s (by omega) _ (by omega)]
  simp only [Option.bind_some, impl_Norm.j0]
  by_cases hp : plainP s = true
  ·rw [if_neg (by simp [hp]), if_pos ⟨h, hp⟩, impl_Norm_l0 s h s.size k 0 [] (by omega) (by omega) (by omega) (by simp) (by simp)]; rfl
  ·rw [if_pos (by simp [hp]), if_neg (fun x => hp x.2)]; rfl
 ·rw [if_pos (by omega), if_neg (fun x => h x.1)]
  simp only [impl_Norm.j0, if_true]; rfl
def Good (l : List Int) : Prop := ∀ p c s, l = p ++ c :: s → (prt c = true ∧ ¬ (65 ≤ c ∧ c ≤ 90)) ∧ (c = 32 → p ≠ [] ∧ rd p ((p.length : Int) - 1) ≠ 32)
theorem Good.nil : Good [] := by
 intro p c s h
 simp at h
theorem Good.take {l : List Int} (h : Good l) (n : Nat) : Good (l.take n) := by
 intro p c s e
 have e2 : l = p ++ c :: (s ++ l.drop n) := by
  conv => lhs; rw [← List.take_append_drop n l]
  rw [e]; simp
 exact h p c _ e2
theorem Good.snoc {l : List Int} {c : Int} (h : Good l) (hc : prt c = true ∧ ¬ (65 ≤ c ∧ c ≤ 90)) (h2 : c = 32 → l ≠ [] ∧ rd l ((l.length : Int) - 1) ≠ 32) : Good (l ++ [c]) := by
 intro p d s e
 rcases List.eq_nil_or_concat s with rfl | ⟨s', x, rfl⟩
 ·have := List.append_inj' e rfl
  obtain ⟨e1, e2⟩ := this
  subst e1
  simp only [List.cons.injEq, and_true] at e2
  subst e2
  exact ⟨hc, h2⟩
 ·have e' : l ++ [c] = (p ++ d :: s') ++ [x] := by rw [e]; simp
  have := List.append_inj' e' rfl
  exact h p d s' this.1
theorem Good.put {l : List Int} {c : Int} (h : Good l) (hc : prt c = true ∧ ¬ (65 ≤ c ∧ c ≤ 90)) : Good (nput l c) := by
 unfold nput
 split
 ·exact h
 ·rename_i hn
  refine h.snoc hc (fun hc2 => ⟨fun e => hn ⟨hc2, .inl e⟩, fun e => hn ⟨hc2, .inr e⟩⟩)
theorem prt_iff {c : Int} : prt c = true ↔ 32 ≤ c ∧ c ≤ 126 := by unfold prt; simp
theorem up_good {c : Int} (h : prt c = true) : prt (up c) = true ∧ ¬ (65 ≤ up c ∧ up c ≤ 90) := by
 rw [prt_iff] at h ⊢
 unfold up
 split <;> omega
theorem Good.fold : ∀ (cs l : List Int), Good l → (∀ c ∈ cs, prt c = true) → Good (nfold l cs)
 | [], l, h, _ => h
 | c :: cs, l, h, hc => Good.fold cs _ (h.put (up_good (hc c (by simp)))) (fun x hx => hc x (by simp [hx]))
def Normal (l : List Int) : Prop := Good l ∧ (l ≠ [] → rd l ((l.length : Int) - 1) ≠ 32) ∧ l.length ≤ 100
theorem Normal.nil : Normal [] := ⟨Good.nil, fun h => absurd rfl h, by simp⟩
theorem nfold_length : ∀ (cs l : List Int), (nfold l cs).length ≤ l.length + cs.length
 | [], l => by simp [nfold]
 | c :: cs, l => by
  have h1 := nfold_length cs (nput l (up c))
  have h2 := nput_length l (up c)
  have h3 : nfold l (c :: cs) = nfold (nput l (up c)) cs := rfl
  rw [h3, List.length_cons]; omega
theorem NormL_normal (s : ByteArray) : Normal (NormL s) := by
 unfold NormL
 split
 ·rename_i h
  have hg : Good (nfold [] (bytesOf s)) := Good.fold _ _ Good.nil (by
   have := h.2
   unfold plainP at this
   exact List.all_eq_true.1 this)
  have hl := nfold_length (bytesOf s) []
  rw [bytesOf_length] at hl
  simp only [List.length_nil, Nat.zero_add] at hl
  generalize nfold [] (bytesOf s) = l at hg hl
  unfold ntrim
  split
  ·rename_i h2
   have hp : 0 < l.length := List.length_pos_iff.2 h2.1
   refine ⟨hg.take _, fun hne => ?_, by rw [List.length_take]; omega⟩
   have e : l = l.take (l.length - 1) ++ [32] := by
    have := drop_last l hp
    rw [h2.2] at this
    conv => lhs; rw [← List.take_append_drop (l.length - 1) l]
    rw [this]
   exact ((hg _ _ _ e).2 rfl).2
  ·rename_i h2
   exact ⟨hg, fun hne h3 => h2 ⟨hne, h3⟩, by omega⟩
 ·exact Normal.nil
theorem Good.range {l : List Int} (h : Good l) : ∀ x ∈ l, 0 ≤ x ∧ x ≤ 255 := by
 intro x hx
 obtain ⟨p, s, e⟩ := List.append_of_mem hx
 have := (h p x s e).1.1
 rw [prt_iff] at this
 omega
def lowc (c : Int) : Bool := decide (97 ≤ c) && decide (c ≤ 122)
def nch (c : Int) : Bool := lowc c || (decide (48 ≤ c) && decide (c ≤ 57)) || decide (c = 95)
def NameP (s : ByteArray) : Bool := decide (1 ≤ s.size) && decide (s.size ≤ 20) && lowc (bt s 0) && (bytesOf s).all nch
theorem spec_NameRight_l0 (s : ByteArray) (hs : s.size ≤ 20) : ∀ (d k : Nat) (i : Int), 0 ≤ i → i + d = s.size → d < k →
  spec_NameRight.l0 k s i = some ((decide (i ≠ 0) || decide (s.size = 0) || lowc (bt s 0)) && ((bytesOf s).drop i.toNat).all nch)
 | 0, k, i, h0, hi, hk => by
  obtain ⟨k, rfl⟩ : ∃ q, k = q + 1 := ⟨k - 1, by omega⟩
  rw [spec_NameRight.l0, if_neg (by omega), List.drop_of_length_le (by rw [bytesOf_length]; omega), List.all_nil, Bool.and_true]
  by_cases hz : i = 0
  ·rw [decide_eq_true (p := s.size = 0) (by omega)]; simp
  ·rw [decide_eq_true (p := i ≠ 0) hz]; rfl
 | d + 1, k, i, h0, hi, hk => by
  obtain ⟨k, rfl⟩ : ∃ q, k = q + 1 := ⟨k - 1, by omega⟩
  have ih := spec_NameRight_l0 s hs d k (i + 1) (by omega) (by omega) (by omega)
  rw [decide_eq_true (p := i + 1 ≠ 0) (by omega), Bool.true_or, Bool.true_or, Bool.true_and] at ih
  rw [spec_NameRight.l0, if_pos (by omega), if_pos h0, drop_bt s i h0 (by omega), List.all_cons, w64 (x := i + 1) (by omega) (by omega), ih, decide_eq_false (p := s.size = 0) (by omega), Bool.or_false]
  have hc := bt_range s i
  generalize hcg : bt s i = c at hc ⊢
  have h00 : i = 0 → lowc (bt s 0) = lowc c := fun e => by rw [← hcg, e]
  unfold nch lowc at *
  by_cases c1 : c ≥ 97
  ·rw [if_pos c1, decide_eq_true (p := 97 ≤ c) c1]
   by_cases c2 : c ≤ 122
   ·rw [if_pos c2, decide_eq_true c2]
    by_cases hz : i = 0
    ·rw [h00 hz, decide_eq_true (p := 97 ≤ c) c1, decide_eq_true c2]; simp
    ·rw [decide_eq_true (p := i ≠ 0) hz]; simp
   ·rw [if_neg c2, decide_eq_false c2, decide_eq_false (p := c ≤ 57) (by omega), decide_eq_false (p := c = 95) (by omega)]
    by_cases hz : i = 0
    ·rw [if_pos hz, h00 hz, decide_eq_false c2, decide_eq_false (p := i ≠ 0) (by omega)]; simp
    ·rw [if_neg hz, if_pos (by omega), if_neg (by omega), if_neg (by omega)]; simp
  ·rw [if_neg c1, decide_eq_false (p := 97 ≤ c) c1]
   by_cases hz : i = 0
   ·rw [if_pos hz, h00 hz, decide_eq_false (p := 97 ≤ c) c1, decide_eq_false (p := i ≠ 0) (by omega)]; simp
   ·rw [if_neg hz, decide_eq_true (p := i ≠ 0) hz]
    by_cases c3 : c ≥ 48
    ·rw [if_pos c3, decide_eq_true (p := 48 ≤ c) c3]
     by_cases c4 : c ≤ 57
     ·rw [if_pos c4, decide_eq_true c4]; simp
     ·rw [if_neg c4, decide_eq_false c4]
      by_cases c5 : c = 95
      ·rw [if_pos c5, decide_eq_true c5]; simp
      ·rw [if_neg c5, decide_eq_false c5]; simp
    ·rw [if_neg c3, decide_eq_false (p := 48 ≤ c) c3, if_neg (by omega), decide_eq_false (p := c = 95) (by omega)]; simp
theorem spec_NameRight_f (s : ByteArray) (k : Nat) (hk : 30 ≤ k) : spec_NameRight.f k s = some (NameP s) := by
 obtain ⟨k, rfl⟩ : ∃ q, k = q + 1 := ⟨k - 1, by omega⟩
 unfold spec_NameRight.f NameP
 by_cases h1 : (s.size : Int) < 1
 ·rw [if_pos h1, spec_NameRight.j0, if_pos rfl, decide_eq_false (p := 1 ≤ s.size) (by omega)]; rfl
 ·rw [if_neg h1, decide_eq_true (p := 1 ≤ s.size) (by omega)]
  by_cases h2 : (s.size : Int) > 20
  ·rw [decide_eq_true h2, spec_NameRight.j0, if_pos rfl, decide_eq_false (p := s.size ≤ 20) (by omega)]; rfl
  ·rw [decide_eq_false h2, spec_NameRight.j0, if_neg (by simp), decide_eq_true (p := s.size ≤ 20) (by omega), spec_NameRight_l0 s (by omega) s.size k 0 (by omega) (by omega) (by omega), decide_eq_false (p := s.size = 0) (by omega)]
   simp
theorem dw_nil {α : Type} (p : α → Bool) : ∀ l : List α, (∀ x ∈ l, p x = true) → l.dropWhile p = []
 | [], _ => rfl
 | a :: l, h => by
  rw [List.dropWhile_cons, if_pos (h a (by simp))]
  exact dw_nil p l (fun x hx => h x (List.mem_cons_of_mem _ hx))
theorem dw_all {α : Type} (p : α → Bool) : ∀ l : List α, (∀ x ∈ l.dropWhile p, p x = true) → ∀ x ∈ l, p x = true
 | [], _, x, hx => by cases hx
 | a :: l, h, x, hx => by
  rw [List.dropWhile_cons] at h
  by_cases ha : p a = true
  ·rw [if_pos ha] at h
   rcases List.mem_cons.1 hx with e | e
   ·rw [e]; exact ha
   ·exact dw_all p l h x e
  ·rw [if_neg ha] at h
   exact absurd (h a (by simp)) ha
theorem trim_nil (l cs : List UInt8) : (Lib.trimS l cs == ([] : List UInt8)) = l.all (cs.contains ·) := by
 have key : Lib.trimS l cs = [] ↔ ∀ x ∈ l, cs.contains x = true := by
  unfold Lib.trimS Lib.trimLeftS Lib.trimRightS
  constructor
  ·intro h x hx
   refine dw_all (cs.contains ·) l.reverse (fun y hy => ?_) x (List.mem_reverse.2 hx)
   refine dw_all (cs.contains ·) (l.reverse.dropWhile (cs.contains ·)).reverse (fun z hz => ?_) y (List.mem_reverse.2 hy)
   rw [h] at hz; cases hz
  ·intro h
   rw [dw_nil (cs.contains ·) l.reverse (fun x hx => h x (List.mem_reverse.1 hx))]; rfl
 by_cases h : Lib.trimS l cs = []
 ·rw [h, List.all_eq_true.2 (key.1 h)]; rfl
 ·rw [beq_eq_false_iff_ne.2 h]
  symm
  rw [Bool.eq_false_iff]
  exact fun h2 => h (key.2 (List.all_eq_true.1 h2))
theorem nch_contains (b : UInt8) : ([97, 98, 99, 100, 101, 102, 103, 104, 105, 106, 107, 108, 109, 110, 111, 112, 113, 114, 115, 116, 117, 118, 119, 120, 121, 122, 48, 49, 50, 51, 52, 53, 54, 55, 56, 57, 95] : List UInt8).contains b = nch b.toNat := by
 have key : ∀ z : Fin 256, ([97, 98, 99, 100, 101, 102, 103, 104, 105, 106, 107, 108, 109, 110, 111, 112, 113, 114, 115, 116, 117, 118, 119, 120, 121, 122, 48, 49, 50, 51, 52, 53, 54, 55, 56, 57, 95] : List UInt8).contains (UInt8.ofNat z.val) = nch (z.val : Nat) := by decide +kernel
 have := key ⟨b.toNat, b.toNat_lt⟩
 simpa using this
theorem impl_NameRight_f (s : ByteArray) : impl_NameRight.f s = some (NameP s) := by
 unfold impl_NameRight.f NameP
 by_cases h1 : (s.size : Int) ≥ 1
 ·rw [if_pos h1, decide_eq_true (p := 1 ≤ s.size) (by omega)]
  by_cases h2 : (s.size : Int) ≤ 20
  ·rw [if_pos h2, decide_eq_true (p := s.size ≤ 20) (by omega), if_pos (by omega)]
   unfold lowc
   by_cases h3 : bt s 0 ≥ 97
   ·rw [if_pos h3, decide_eq_true (p := 97 ≤ bt s 0) h3]
    by_cases h4 : bt s 0 ≤ 122
    ·rw [if_pos h4, decide_eq_true h4]
     unfold strings_Trim.f
     rw [if_pos ⟨by omega, by decide, by decide⟩]
     simp only [Option.bind_some, Bool.true_and]
     congr 1
     rw [Go.Lib.toList_data]
     show (Lib.trimS s.data.toList _ == []) = _
     rw [trim_nil]
     unfold bytesOf
     rw [List.all_map]
     congr 1
     funext b
     exact nch_contains b
    ·rw [if_neg h4, decide_eq_false h4]; rfl
   ·rw [if_neg h3, decide_eq_false (p := 97 ≤ bt s 0) h3]; rfl
  ·rw [if_neg h2, decide_eq_false (p := s.size ≤ 20) (by omega)]; rfl
 ·rw [if_neg h1, decide_eq_false (p := 1 ≤ s.size) (by omega)]; rfl
def ValueP (s : ByteArray) : Bool := decide (1 ≤ s.size) && decide (s.size ≤ 40) && ((NormP s).toList != ([] : List UInt8))
theorem spec_l02Value_f (s : ByteArray) (k : Nat) (hk : 100 ≤ k) : spec_l02Value.f k s = some (ValueP s) := by
 unfold spec_l02Value.f ValueP
 by_cases h1 : (s.size : Int) ≥ 1
 ·by_cases h2 : (s.size : Int) ≤ 40
  ·rw [if_pos h1, if_pos h2, spec_Norm_f s k (by omega), decide_eq_true (p := 1 ≤ s.size) (by omega), decide_eq_true (p := s.size ≤ 40) (by omega)]
   simp
  ·rw [if_pos h1, if_neg h2, decide_eq_false (p := s.size ≤ 40) (by omega)]; simp
 ·rw [if_neg h1, decide_eq_false (p := 1 ≤ s.size) (by omega)]; simp
theorem impl_isProper_f (s : ByteArray) (k : Nat) (hk : 100 ≤ k) : impl_isProper.f k s = some (ValueP s) := by
 unfold impl_isProper.f ValueP
 by_cases h1 : (s.size : Int) ≥ 1
 ·by_cases h2 : (s.size : Int) ≤ 40
  ·rw [if_pos h1, if_pos h2, impl_Norm_f s k (by omega), decide_eq_true (p := 1 ≤ s.size) (by omega), decide_eq_true (p := s.size ≤ 40) (by omega)]
   simp
  ·rw [if_pos h1, if_neg h2, decide_eq_false (p := s.size ≤ 40) (by omega)]; simp
 ·rw [if_neg h1, decide_eq_false (p := 1 ≤ s.size) (by omega)]; simp
abbrev Rd := S98
def RdnP (x : Rd) : Bool := NameP x.f0 && ValueP x.f1
def DnP (l : List Rd) : Bool := decide (l.length ≤ 6) && l.all RdnP
theorem rd_drop (l : List Rd) (i : Int) (h0 : 0 ≤ i) (h1 : i < l.length) : l.drop i.toNat = rd_T98 l i :: l.drop (i + 1).toNat := by
 have hi : i.toNat < l.length := by omega
 rw [List.drop_eq_getElem_cons hi, show (i + 1).toNat = i.toNat + 1 by omega]
 congr 1
 unfold rd_T98
 rw [List.getD_eq_getElem?_getD, List.getElem?_eq_getElem hi]; rfl
theorem spec_DnRight_l0 (l : List Rd) (hl : (l.length : Int) ≤ 4611686018427387904) : ∀ (d k : Nat) (i : Int), 0 ≤ i → i + d = l.length → 100 + d < k →
  spec_DnRight.l0 k l i = some ((l.drop i.toNat).all RdnP && decide (l.length ≤ 6))
 | 0, k, i, h0, hi, hk => by
  obtain ⟨k, rfl⟩ : ∃ q, k = q + 1 := ⟨k - 1, by omega⟩
  rw [spec_DnRight.l0, if_neg (by omega), List.drop_of_length_le (by omega), List.all_nil, Bool.true_and]
  congr 1
  by_cases h6 : l.length ≤ 6
  ·rw [decide_eq_true h6, decide_eq_true (by omega)]
  ·rw [decide_eq_false h6, decide_eq_false (by omega)]
 | d + 1, k, i, h0, hi, hk => by
  obtain ⟨k, rfl⟩ : ∃ q, k = q + 1 := ⟨k - 1, by omega⟩
  rw [spec_DnRight.l0, if_pos (by omega), if_pos h0, rd_drop l i h0 (by omega), List.all_cons, spec_NameRight_f _ k (by omega), spec_l02Value_f _ k (by omega),
   w64 (x := i + 1) (by omega) (by omega), spec_DnRight_l0 l hl d k (i + 1) (by omega) (by omega) (by omega)]
  unfold RdnP
  cases NameP (rd_T98 l i).f0 <;> cases ValueP (rd_T98 l i).f1 <;> simp
theorem spec_DnRight_f (l : List Rd) (hl : (l.length : Int) ≤ 4611686018427387904) (k : Nat) (hk : 101 + l.length ≤ k) : spec_DnRight.f k l = some (DnP l) := by
 unfold spec_DnRight.f DnP
 rw [spec_DnRight_l0 l hl l.length k 0 (by omega) (by omega) (by omega)]
 simp [Bool.and_comm]
theorem impl_DnRight_1_f (a b : ByteArray) (k : Nat) (hk : 100 ≤ k) : impl_DnRight_1.f k a b = some (!(NameP a && ValueP b)) := by
 unfold impl_DnRight_1.f impl_isRdn.f
 rw [impl_NameRight_f, impl_isProper_f _ k hk]
 cases NameP a <;> cases ValueP b <;> rfl
theorem impl_DnRight_ix (k : Nat) (hk : 100 ≤ k) : ∀ (l : List Rd) (i : Int), 0 ≤ i → ∃ r, impl_DnRight.ix k l i = some r ∧ (!(decide (r ≥ 0))) = l.all RdnP
 | [], i, h0 => ⟨-1, rfl, rfl⟩
 | x :: xs, i, h0 => by
  simp only [impl_DnRight.ix]
  rw [impl_DnRight_1_f _ _ k hk, List.all_cons, Option.bind_some]
  unfold RdnP
  cases NameP x.f0 && ValueP x.f1 with
  | true => exact impl_DnRight_ix k hk xs (i + 1) (by omega)
  | false => exact ⟨i, rfl, by rw [decide_eq_true (p := i ≥ 0) h0]; rfl⟩
theorem impl_DnRight_f (l : List Rd) (k : Nat) (hk : 100 ≤ k) : impl_DnRight.f k l = some (DnP l) := by
 unfold impl_DnRight.f DnP
 by_cases h : (l.length : Int) ≤ 6
 ·obtain ⟨r, e, h2⟩ := impl_DnRight_ix k hk l 0 (by omega)
  rw [if_pos h, e, Option.bind_some, h2, decide_eq_true (p := l.length ≤ 6) (by omega)]; rfl
 ·rw [if_neg h, decide_eq_false (p := l.length ≤ 6) (by omega)]; rfl
theorem DnP_mem {l : List Rd} (h : DnP l = true) : l.length ≤ 6 ∧ ∀ x ∈ l, RdnP x = true := by
 unfold DnP at h
 simp only [Bool.and_eq_true, decide_eq_true_eq, List.all_eq_true] at h
 exact h
theorem ValueP_size {s : ByteArray} (h : ValueP s = true) : 1 ≤ s.size ∧ s.size ≤ 40 := by
 unfold ValueP at h
 simp only [Bool.and_eq_true, decide_eq_true_eq] at h
 omega
theorem NameP_size {s : ByteArray} (h : NameP s = true) : 1 ≤ s.size ∧ s.size ≤ 20 := by
 unfold NameP at h
 simp only [Bool.and_eq_true, decide_eq_true_eq] at h
 omega
theorem RdnP_size {x : Rd} (h : RdnP x = true) : x.f0.size ≤ 20 ∧ x.f1.size ≤ 40 := by
 unfold RdnP at h
 simp only [Bool.and_eq_true] at h
 exact ⟨(NameP_size h.1).2, (ValueP_size h.2).2⟩
theorem rd_mem (l : List Rd) (i : Int) (h0 : 0 ≤ i) (h1 : i < l.length) : rd_T98 l i ∈ l := by
 have hi : i.toNat < l.length := by omega
 unfold rd_T98
 rw [List.getD_eq_getElem?_getD, List.getElem?_eq_getElem hi]
 exact List.getElem_mem hi
def KeyP (l : List Rd) : ByteArray := l.reverse.foldl (fun x y => impl_dnKey.keyStep x y.f0 (NormP y.f1)) (⟨#[]⟩ : ByteArray)
theorem NormP_size (s : ByteArray) : (NormP s).size ≤ 100 := by
 unfold NormP
 rw [strOfNums_size]
 exact (NormL_normal s).2.2
theorem impl_dnKey_go (k : Nat) (hk : 100 ≤ k) : ∀ (l : List Rd) (x : ByteArray), (∀ y ∈ l, RdnP y = true) → impl_dnKey.go k l x = some (l.foldl (fun x y => impl_dnKey.keyStep x y.f0 (NormP y.f1)) x)
 | [], x, h => rfl
 | y :: ys, x, h => by
  have h1 := RdnP_size (h y (by simp))
  have h2 := NormP_size y.f1
  rw [impl_dnKey.go, impl_Norm_f _ _ (by omega), Option.bind_some, if_pos (by omega), impl_dnKey_go k hk ys _ (fun z hz => h z (List.mem_cons_of_mem _ hz))]
  rfl
theorem impl_dnKey_f (l : List Rd) (h : DnP l = true) (k : Nat) (hk : 100 ≤ k) : impl_dnKey.f k l = some (KeyP l) := by
 obtain ⟨hl, hr⟩ := DnP_mem h
 unfold impl_dnKey.f KeyP
 rw [if_pos (by omega), impl_dnKey_go k hk _ _ (fun y hy => hr y (List.mem_reverse.1 hy))]
def ones (s : ByteArray) : Nat := (bytesOf s).count 1
theorem bytesOf_append (a b : ByteArray) : bytesOf (a ++ b) = bytesOf a ++ bytesOf b := by
 unfold bytesOf
 rw [ba_data_append, List.map_append]
theorem ones_append (a b : ByteArray) : ones (a ++ b) = ones a + ones b := by
 unfold ones
 rw [bytesOf_append, List.count_append]
theorem ones_name {s : ByteArray} (h : NameP s = true) : ones s = 0 := by
 unfold ones
 rw [List.count_eq_zero]
 intro hm
 unfold NameP at h
 simp only [Bool.and_eq_true, List.all_eq_true] at h
 have := h.2 1 hm
 exact absurd this (by decide)
theorem ones_norm (s : ByteArray) : ones (NormP s) = 0 := by
 have hg := (NormL_normal s).1
 unfold ones NormP
 rw [bytesOf_son _ hg.range, List.count_eq_zero]
 intro hm
 obtain ⟨p, q, e⟩ := List.append_of_mem hm
 have := (hg p 1 q e).1.1
 exact absurd this (by decide)
theorem ones_step (x : ByteArray) (y : Rd) (h : RdnP y = true) : ones (impl_dnKey.keyStep x y.f0 (NormP y.f1)) = ones x + 1 := by
 unfold RdnP at h
 simp only [Bool.and_eq_true] at h
 unfold impl_dnKey.keyStep
 simp only [ones_append, ones_name h.1, ones_norm]
 rfl
theorem ones_fold : ∀ (l : List Rd) (x : ByteArray), (∀ y ∈ l, RdnP y = true) → ones (l.foldl (fun x y => impl_dnKey.keyStep x y.f0 (NormP y.f1)) x) = ones x + l.length
 | [], x, h => rfl
 | y :: ys, x, h => by
  rw [List.foldl_cons, ones_fold ys _ (fun z hz => h z (List.mem_cons_of_mem _ hz)), ones_step x y (h y (by simp)), List.length_cons]
  omega
theorem KeyP_ones {l : List Rd} (h : DnP l = true) : ones (KeyP l) = l.length := by
 unfold KeyP
 rw [ones_fold _ _ (fun y hy => (DnP_mem h).2 y (List.mem_reverse.1 hy)), List.length_reverse]
 show 0 + l.length = _
 omega
theorem KeyP_len {a b : List Rd} (ha : DnP a = true) (hb : DnP b = true) (h : (KeyP a).toList = (KeyP b).toList) : a.length = b.length := by
 rw [← KeyP_ones ha, ← KeyP_ones hb, ba_inj.1 h]
def sameP (a b : List Rd) : Bool := (KeyP a).toList == (KeyP b).toList
def underP (a b : List Rd) : Bool := decide (b.length ≤ a.length) && sameP (a.drop (a.length - b.length)) b
def UnderP (a b : List Rd) : Bool := DnP a && DnP b && underP a b
theorem DnP_drop {l : List Rd} (h : DnP l = true) (n : Nat) : DnP (l.drop n) = true := by
 obtain ⟨h1, h2⟩ := DnP_mem h
 unfold DnP
 rw [Bool.and_eq_true, decide_eq_true_eq, List.all_eq_true, List.length_drop]
 exact ⟨by omega, fun x hx => h2 x (List.mem_of_mem_drop hx)⟩
theorem impl_dnSame_f (a b : List Rd) (ha : DnP a = true) (hb : DnP b = true) (k : Nat) (hk : 100 ≤ k) : impl_dnSame.f k a b = some (sameP a b) := by
 unfold impl_dnSame.f sameP
 by_cases h : (a.length : Int) = (b.length : Int)
 ·rw [if_pos h, impl_dnKey_f a ha k hk, Option.bind_some, impl_dnKey_f b hb k hk]; rfl
 ·rw [if_neg h, beq_eq_false_iff_ne.2 (fun e => h (by rw [KeyP_len ha hb e]))]
theorem impl_dnUnder_f (a b : List Rd) (ha : DnP a = true) (hb : DnP b = true) (k : Nat) (hk : 100 ≤ k) : impl_dnUnder.f k a b = some (underP a b) := by
 have h1 := (DnP_mem ha).1
 have h2 := (DnP_mem hb).1
 unfold impl_dnUnder.f underP
 by_cases h : b.length ≤ a.length
 ·rw [if_pos (by omega), w64 (by omega) (by omega), if_pos (by omega), if_pos (by omega), show ((a.length : Int) - (b.length : Int)).toNat = a.length - b.length by omega, impl_dnSame_f _ b (DnP_drop ha _) hb k hk, decide_eq_true h]; rfl
 ·rw [if_neg (by omega), decide_eq_false h]; rfl
theorem spec_l02Key_l0 (l : List Rd) (hl : l.length ≤ 6) (hr : ∀ x ∈ l, RdnP x = true) : ∀ (d k : Nat) (x : ByteArray) (i : Int), i + 1 = d → d ≤ l.length → 100 + d < k → x.size + 1000 * d ≤ 100000 →
  spec_l02Key.l0 k l x i = some ((l.take d).reverse.foldl (fun x y => impl_dnKey.keyStep x y.f0 (NormP y.f1)) x)
 | 0, k, x, i, hi, hd, hk, hx => by
  obtain ⟨k, rfl⟩ : ∃ q, k = q + 1 := ⟨k - 1, by omega⟩
  rw [spec_l02Key.l0, if_neg (by omega)]; rfl
 | d + 1, k, x, i, hi, hd, hk, hx => by
  obtain ⟨k, rfl⟩ : ∃ q, k = q + 1 := ⟨k - 1, by omega⟩
  have hm := rd_mem l i (by omega) (by omega)
  obtain ⟨s0, s1⟩ := RdnP_size (hr _ hm)
  have s2 := NormP_size (rd_T98 l i).f1
  have z1 : (⟨#[1]⟩ : ByteArray).size = 1 := rfl
  have z2 : (⟨#[61]⟩ : ByteArray).size = 1 := rfl
  have e : l.take (d + 1) = l.take d ++ [rd_T98 l i] := by
   rw [List.take_add_one]
   congr 1
   unfold rd_T98
   rw [show i.toNat = d by omega, List.getD_eq_getElem?_getD, List.getElem?_eq_getElem (by omega)]; rfl
  have hz := impl_dnKey.keyStep_size x (rd_T98 l i).f0 (NormP (rd_T98 l i).f1)
  rw [spec_l02Key.l0, if_pos (by omega), if_pos (by omega), if_pos (by omega), if_pos (by omega), if_pos (by simp only [ba_append_size, z1]; omega), if_pos (by simp only [ba_append_size, z1]; omega), spec_Norm_f _ _ (by omega), Option.bind_some,
   if_pos (by simp only [ba_append_size, z1, z2]; omega), w64 (x := i - 1) (by omega) (by omega)]
  have e2 : (((x ++ (⟨#[1]⟩ : ByteArray)) ++ (rd_T98 l i).f0) ++ (⟨#[61]⟩ : ByteArray)) ++ NormP (rd_T98 l i).f1 = impl_dnKey.keyStep x (rd_T98 l i).f0 (NormP (rd_T98 l i).f1) := by
   unfold impl_dnKey.keyStep
   simp only [ba_append_assoc]
  rw [e2, spec_l02Key_l0 l hl hr d k _ (i - 1) (by omega) (by omega) (by omega) (by omega), e, List.reverse_append]
  rfl
theorem spec_l02Key_f (l : List Rd) (h : DnP l = true) (k : Nat) (hk : 110 ≤ k) : spec_l02Key.f k l = some (KeyP l) := by
 obtain ⟨hl, hr⟩ := DnP_mem h
 unfold spec_l02Key.f KeyP
 rw [w64 (by omega) (by omega), spec_l02Key_l0 l hl hr l.length k _ ((l.length : Int) - 1) (by omega) (by omega) (by omega) (by rw [show (⟨#[]⟩ : ByteArray).size = 0 from rfl]; omega), List.take_length]
theorem spec_DnUnder_f (a b : List Rd) (hA : a.length ≤ 4611686018427387904) (hB : b.length ≤ 4611686018427387904) (k : Nat) (hk : 600 + a.length + b.length ≤ k) : spec_DnUnder.f k a b = some (UnderP a b) := by
 obtain ⟨k, rfl⟩ : ∃ q, k = q + 1 := ⟨k - 1, by omega⟩
 have hl : ∀ l : List Rd, (l.length : Int) > 400 → DnP l = false := fun l h => Bool.eq_false_iff.2 (fun e => by have := (DnP_mem e).1; omega)
 unfold spec_DnUnder.f UnderP
 by_cases h1 : (a.length : Int) > 400
 ·rw [if_pos h1, hl a h1, spec_DnUnder.j0, if_pos rfl]; simp
 ·rw [if_neg h1]
  by_cases h2 : (b.length : Int) > 400
  ·rw [if_pos h2, hl b h2, spec_DnUnder.j0, if_pos rfl]; simp
  ·rw [if_neg h2, spec_DnRight_f _ (by omega) _ (by omega), Option.bind_some]
   by_cases ha : DnP a = true
   ·rw [if_pos ha, spec_DnRight_f _ (by omega) _ (by omega), Option.bind_some]
    by_cases hb : DnP b = true
    ·rw [if_pos hb, hb, ha, spec_DnUnder.j0]
     unfold underP
     by_cases h3 : b.length ≤ a.length
     ·rw [decide_eq_false (by omega), if_neg (by simp), w64 (by omega) (by omega), if_pos (by omega), if_pos (by omega), show ((a.length : Int) - (b.length : Int)).toNat = a.length - b.length by omega,
       spec_l02Key_f _ (DnP_drop ha _) k (by omega), Option.bind_some, spec_l02Key_f b hb k (by omega), decide_eq_true h3]; rfl
     ·rw [decide_eq_true (by omega), if_pos rfl, decide_eq_false h3]; rfl
    ·rw [if_neg hb, Bool.eq_false_iff.2 hb, spec_DnUnder.j0, if_pos rfl]; simp
   ·rw [if_neg ha, Bool.eq_false_iff.2 ha, spec_DnUnder.j0, if_pos rfl]; simp
theorem laws_szEntry_f (d : List S120) (l : List S123) (hd : d.length ≤ 140737488351232) (hl : l.length ≤ 140737488351232) (hM : ∀ x ∈ l, x.f1.length ≤ 140737488351232) (a : Int) (k : Nat) (hk : 1125899906842624 < k) : ∃ r, laws_szEntry.f k d l a = some r := by
 unfold laws_szEntry.f
 obtain ⟨r, e⟩ := laws_szRdnS_f d (by omega) a k (by omega)
 rw [e, Option.bind_some]
 split
 ·exact ⟨_, rfl⟩
 ·obtain ⟨r2, e2⟩ := laws_szAttrS_f l (by omega) r 140737488351232 (fun x hx => by have := hM x hx; omega) k (by omega)
  rw [e2, Option.bind_some]
  split <;> exact ⟨_, rfl⟩
theorem laws_toEntry_f (d : List S120) (l : List S123) (hd : d.length ≤ 8796093022208) (hl : l.length ≤ 7036874417766) (hM : ∀ x ∈ l, x.f1.length ≤ 17592186044416) (k : Nat) (hk : 1125899906842624 < k) : laws_toEntry.f k d l = some (d.map cvRdn, l.map cvAttr) := by
 unfold laws_toEntry.f
 rw [laws_toRdnS_f d hd k (by omega), laws_toAttrS_f l hl 17592186044416 (fun x hx => by have := hM x hx; omega) k (by omega)]
 rfl
theorem laws_eqEntry_f (d : List Rd) (l : List At) (hd : d.length ≤ 140737488351232) (hl : l.length ≤ 140737488351232) (hM : ∀ x ∈ l, x.f1.length ≤ 140737488351232) (k : Nat) (hk : 1125899906842624 < k) : laws_eqEntry.f k d l d l = some true := by
 unfold laws_eqEntry.f
 rw [laws_eqRdnS_f d (by omega) k (by omega), laws_eqAttrS_f l (by omega) 140737488351232 (fun x hx => by have := hM x hx; omega) k (by omega)]
 simp
def sAt (l : List ByteArray) (j : Nat) : ByteArray := l.getD j ByteArray.empty
theorem sAt_size (l : List ByteArray) (hs : ∀ x ∈ l, x.size ≤ 140737488351232) (j : Nat) : (sAt l j).size ≤ 140737488351232 := by
 unfold sAt
 rw [List.getD_eq_getElem?_getD]
 by_cases h : j < l.length
 ·rw [List.getElem?_eq_getElem h]; exact hs _ (List.getElem_mem h)
 ·rw [List.getElem?_eq_none (by omega)]; decide
theorem rdOf_sAt (l : List ByteArray) (i : Int) : rdOf ByteArray.empty l i = sAt l i.toNat := rfl
theorem sAt_drop (l : List ByteArray) (i : Int) (h0 : 0 ≤ i) (h1 : i < l.length) : l.drop i.toNat = sAt l i.toNat :: l.drop (i + 1).toNat := by
 have hi : i.toNat < l.length := by omega
 rw [List.drop_eq_getElem_cons hi, show (i + 1).toNat = i.toNat + 1 by omega]
 unfold sAt
 rw [List.getD_eq_getElem?_getD, List.getElem?_eq_getElem hi]; rfl
theorem cmp_iff : ∀ (a b : List UInt8), Lib.compareBytes a b ≥ 0 ↔ Op.bytesLess a b = false
 | [], [] => by simp [Lib.compareBytes, Op.bytesLess]
 | [], _ :: _ => by simp [Lib.compareBytes, Op.bytesLess]
 | _ :: _, [] => by simp [Lib.compareBytes, Op.bytesLess]
 | a :: p, b :: q => by
  rw [Lib.compareBytes, Op.bytesLess]
  by_cases h1 : a < b
  ·simp [h1]
  ·by_cases h2 : b < a
   ·have hne : ¬ (a = b) := fun e => by subst e; exact h1 h2
    simp [h1, h2, hne]
   ·have he : a = b := UInt8.le_antisymm (UInt8.not_lt.1 h2) (UInt8.not_lt.1 h1)
    subst he
    rw [if_neg h1, if_neg h1, cmp_iff p q]
    simp
theorem cmp_less (a b : List UInt8) : decide (Lib.compareBytes a b ≥ 0) = !(Op.bytesLess a b) := by
 cases h : Op.bytesLess a b with
 | false => rw [decide_eq_true ((cmp_iff a b).2 h)]; rfl
 | true => rw [decide_eq_false (fun h2 => by rw [(cmp_iff a b).1 h2] at h; cases h)]; rfl
def valF (l : List ByteArray) (j : Nat) : Bool := ValueP (sAt l j) && (decide (j = 0) || Op.bytesLess (NormP (sAt l (j - 1))).toList (NormP (sAt l j)).toList)
def ValsP (l : List ByteArray) : Bool := (List.range l.length).all (valF l) && (decide (1 ≤ l.length) && decide (l.length ≤ 4))
theorem spec_l03Values_f (l : List ByteArray) (hl : l.length ≤ 140737488351232) (hs : ∀ x ∈ l, x.size ≤ 140737488351232) (k : Nat) (hk : 1125899906842624 + l.length < k) : spec_l03Values.f k l = some (ValsP l) := by
 unfold spec_l03Values.f ValsP
 rw [all_loop (decide (1 ≤ l.length) && decide (l.length ≤ 4)) (valF l) l.length (by omega) 1125899906842624 (fun k i => spec_l03Values.l0 k l i) (fun k i hk h0 hi => ?_) (fun k i hk h0 hi => ?_) l.length k 0 (by omega) (by omega) (by omega)]
 ·rw [List.range_eq_range']; rfl
 ·show spec_l03Values.l0 (k + 1) l i = if valF l i.toNat = true then spec_l03Values.l0 k l (wrap64 (i + 1)) else some false
  have h1 := sAt_size l hs i.toNat
  have h2 := sAt_size l hs (i.toNat - 1)
  rw [spec_l03Values.l0, if_pos hi, if_pos h0, rdOf_sAt, spec_l02Value_f _ k (by omega)]
  simp only [Option.bind_some]
  unfold valF
  cases hv : ValueP (sAt l i.toNat) with
  | false => simp
  | true =>
   rw [if_pos rfl]
   by_cases hz : i > 0
   ·rw [if_pos hz, w64 (x := i - 1) (by omega) (by omega), if_pos (by omega), if_pos (by omega), rdOf_sAt, show (i - 1).toNat = i.toNat - 1 by omega, spec_Norm_f _ k (by omega), spec_Norm_f _ k (by omega), decide_eq_false (p := i.toNat = 0) (by omega)]
    simp only [Option.bind_some, Bool.true_and, Bool.false_or]
   ·rw [if_neg hz, decide_eq_true (p := i.toNat = 0) (by omega)]
    simp
 ·show spec_l03Values.l0 (k + 1) l i = _
  rw [spec_l03Values.l0, if_neg (by omega)]
  by_cases h1 : (l.length : Int) ≥ 1
  ·rw [if_pos h1, decide_eq_true (p := 1 ≤ l.length) (by omega), Bool.true_and]
   congr 1
   by_cases h4 : l.length ≤ 4
   ·rw [decide_eq_true h4, decide_eq_true (by omega)]
   ·rw [decide_eq_false h4, decide_eq_false (by omega)]
  ·rw [if_neg h1, decide_eq_false (p := 1 ≤ l.length) (by omega)]; rfl
def AttrP (n : ByteArray) (l : List ByteArray) : Bool := NameP n && ValsP l
theorem impl_byNorm_f (a b : ByteArray) (k : Nat) (ha : 2 * a.size + 2 < k) (hb : 2 * b.size + 2 < k) : impl_byNorm.f k a b = some (Lib.compareBytes (NormP a).toList (NormP b).toList) := by
 unfold impl_byNorm.f strings_Compare.f
 rw [impl_Norm_f a k ha, impl_Norm_f b k hb, Go.Lib.toList_data, Go.Lib.toList_data]; rfl
theorem impl_isAttr_f (n : ByteArray) (l : List ByteArray) (hl : l.length ≤ 140737488351232) (hs : ∀ x ∈ l, x.size ≤ 140737488351232) (k : Nat) (hk : 1125899906842624 + 1 + l.length < k) : impl_isAttr.f k n l = some (AttrP n l) := by
 obtain ⟨k, rfl⟩ : ∃ q, k = q + 1 := ⟨k - 1, by omega⟩
 unfold impl_isAttr.f AttrP
 rw [impl_NameRight_f, Option.bind_some]
 cases NameP n with
 | false => rw [if_neg (by simp), impl_isAttr.j0, if_pos rfl]; rfl
 | true =>
  have hb : impl_between.f (l.length : Int) 1 4 = some (decide (1 ≤ l.length) && decide (l.length ≤ 4)) := by
   unfold impl_between.f
   by_cases h1 : (l.length : Int) ≥ 1
   ·rw [if_pos h1, decide_eq_true (p := 1 ≤ l.length) (by omega), Bool.true_and]
    congr 1
    by_cases h4 : l.length ≤ 4
    ·rw [decide_eq_true h4, decide_eq_true (by omega)]
    ·rw [decide_eq_false h4, decide_eq_false (by omega)]
   ·rw [if_neg h1, decide_eq_false (p := 1 ≤ l.length) (by omega)]; rfl
  unfold impl_size_string.f
  rw [if_pos rfl]
  simp only [Option.bind_some]
  rw [hb]
  simp only [Option.bind_some, Bool.true_and]
  unfold ValsP
  cases hc : (decide (1 ≤ l.length) && decide (l.length ≤ 4)) with
  | false => rw [impl_isAttr.j0, Bool.not_false, if_pos rfl, Bool.and_false]
  | true =>
   rw [impl_isAttr.j0, if_neg (by simp), all_loop true (valF l) l.length (by omega) 1125899906842624 (fun k i => impl_isAttr.l0 k l (l.length : Int) i n l) (fun k i hk h0 hi => ?_) (fun k i hk h0 hi => ?_) l.length k 0 (by omega) (by omega) (by omega)]
   ·rw [List.range_eq_range']; rfl
   ·show impl_isAttr.l0 (k + 1) l (l.length : Int) i n l = if valF l i.toNat = true then impl_isAttr.l0 k l (l.length : Int) (wrap64 (i + 1)) n l else some false
    have h1 := sAt_size l hs i.toNat
    have h2 := sAt_size l hs (i.toNat - 1)
    rw [impl_isAttr.l0, if_pos hi, if_pos h0, if_pos hi, rdOf_sAt, impl_isProper_f _ k (by omega)]
    simp only [Option.bind_some]
    unfold valF
    cases hv : ValueP (sAt l i.toNat) with
    | false => simp
    | true =>
     rw [if_pos rfl]
     by_cases hz : i > 0
     ·rw [if_pos hz, w64 (x := i - 1) (by omega) (by omega), if_pos (by omega), if_pos (by omega), rdOf_sAt, show (i - 1).toNat = i.toNat - 1 by omega, impl_byNorm_f _ _ k (by omega) (by omega), decide_eq_false (p := i.toNat = 0) (by omega)]
      simp only [Option.bind_some, Bool.true_and, Bool.false_or]
      have hcl := cmp_less (NormP (sAt l (i.toNat - 1))).toList (NormP (sAt l i.toNat)).toList
      cases hbl : Op.bytesLess (NormP (sAt l (i.toNat - 1))).toList (NormP (sAt l i.toNat)).toList with
      | true =>
       rw [hbl, Bool.not_true] at hcl
       rw [if_neg (of_decide_eq_false hcl), if_pos rfl]
      | false =>
       rw [hbl, Bool.not_false] at hcl
       rw [if_pos (of_decide_eq_true hcl), if_neg (by simp)]
     ·rw [if_neg hz, decide_eq_true (p := i.toNat = 0) (by omega)]
      simp
   ·show impl_isAttr.l0 (k + 1) l (l.length : Int) i n l = _
    rw [impl_isAttr.l0, if_neg (by omega)]
def aAt (l : List At) (j : Nat) : At := l.getD j z127
def attrF (l : List At) (j : Nat) : Bool := AttrP (aAt l j).f0 (aAt l j).f1 && (decide (j = 0) || Op.bytesLess (aAt l (j - 1)).f0.toList (aAt l j).f0.toList)
def AttrsP (l : List At) : Bool := (List.range l.length).all (attrF l) && decide (l.length ≤ 8)
def EntryP (dn : List Rd) (l : List At) : Bool := decide (0 < dn.length) && DnP dn && AttrsP l
def AtOK (l : List At) : Prop := l.length ≤ 140737488351232 ∧ ∀ x ∈ l, x.f1.length ≤ 140737488351232 ∧ ∀ s ∈ x.f1, s.size ≤ 140737488351232
theorem aAt_ok {l : List At} (h : AtOK l) (j : Nat) : (aAt l j).f1.length ≤ 140737488351232 ∧ ∀ s ∈ (aAt l j).f1, s.size ≤ 140737488351232 := by
 unfold aAt
 rw [List.getD_eq_getElem?_getD]
 by_cases hj : j < l.length
 ·rw [List.getElem?_eq_getElem hj]; exact h.2 _ (List.getElem_mem hj)
 ·rw [List.getElem?_eq_none (by omega)]
  exact ⟨by decide, fun s hs => by cases hs⟩
theorem rd_aAt (l : List At) (i : Int) : rd_T127 l i = aAt l i.toNat := rfl
theorem spec_l03Attrs_f (l : List At) (h : AtOK l) (k : Nat) (hk : 2251799813685248 + l.length < k) : spec_l03Attrs.f k l = some (AttrsP l) := by
 have hl := h.1
 unfold spec_l03Attrs.f AttrsP
 rw [all_loop (decide (l.length ≤ 8)) (attrF l) l.length (by omega) 2251799813685248 (fun k i => spec_l03Attrs.l0 k l i) (fun k i hk h0 hi => ?_) (fun k i hk h0 hi => ?_) l.length k 0 (by omega) (by omega) (by omega)]
 ·rw [List.range_eq_range']; rfl
 ·show spec_l03Attrs.l0 (k + 1) l i = if attrF l i.toNat = true then spec_l03Attrs.l0 k l (wrap64 (i + 1)) else some false
  obtain ⟨h1, h2⟩ := aAt_ok h i.toNat
  rw [spec_l03Attrs.l0, if_pos hi, if_pos h0, rd_aAt, spec_NameRight_f _ k (by omega), spec_l03Values_f _ h1 h2 k (by omega)]
  simp only [Option.bind_some]
  unfold attrF AttrP
  cases NameP (aAt l i.toNat).f0 with
  | false => simp
  | true =>
   rw [if_pos rfl]
   by_cases hz : i > 0
   ·rw [if_pos hz, w64 (x := i - 1) (by omega) (by omega), if_pos (by omega), if_pos (by omega), rd_aAt, show (i - 1).toNat = i.toNat - 1 by omega, decide_eq_false (p := i.toNat = 0) (by omega)]
    cases Op.bytesLess (aAt l (i.toNat - 1)).f0.toList (aAt l i.toNat).f0.toList <;> cases ValsP (aAt l i.toNat).f1 <;> simp
   ·rw [if_neg hz, decide_eq_true (p := i.toNat = 0) (by omega)]
    cases ValsP (aAt l i.toNat).f1 <;> simp
 ·show spec_l03Attrs.l0 (k + 1) l i = _
  rw [spec_l03Attrs.l0, if_neg (by omega)]
  congr 1
  by_cases h4 : l.length ≤ 8
  ·rw [decide_eq_true h4, decide_eq_true (by omega)]
  ·rw [decide_eq_false h4, decide_eq_false (by omega)]
theorem spec_EntryRight_f (dn : List Rd) (hd : dn.length ≤ 140737488351232) (l : List At) (h : AtOK l) (k : Nat) (hk : 4503599627370496 < k) : spec_EntryRight.f k dn l = some (EntryP dn l) := by
 have hl := h.1
 unfold spec_EntryRight.f EntryP
 by_cases h0 : (dn.length : Int) > 0
 ·rw [if_pos h0, spec_DnRight_f dn (by omega) k (by omega), spec_l03Attrs_f l h k (by omega), decide_eq_true (p := 0 < dn.length) (by omega)]
  cases DnP dn <;> simp
 ·rw [if_neg h0, decide_eq_false (p := 0 < dn.length) (by omega)]; rfl
theorem impl_EntryRight_f (dn : List Rd) (l : List At) (h : AtOK l) (k : Nat) (hk : 4503599627370496 < k) : impl_EntryRight.f k dn l = some (EntryP dn l) := by
 obtain ⟨k, rfl⟩ : ∃ q, k = q + 1 := ⟨k - 1, by omega⟩
 have hl := h.1
 unfold impl_EntryRight.f EntryP
 have hj : ∀ b, impl_EntryRight.j0 (k + 1) b dn l = some (!b && (List.range l.length).all (attrF l)) := by
  intro b
  rw [impl_EntryRight.j0]
  cases b with
  | true => rw [if_pos rfl]; rfl
  | false =>
   rw [if_neg (by simp), all_loop true (attrF l) l.length (by omega) 2251799813685248 (fun k i => impl_EntryRight.l0 k l (l.length : Int) i dn l) (fun k i hk h0 hi => ?_) (fun k i hk h0 hi => ?_) l.length k 0 (by omega) (by omega) (by omega)]
   ·rw [List.range_eq_range']; simp
   ·show impl_EntryRight.l0 (k + 1) l (l.length : Int) i dn l = if attrF l i.toNat = true then impl_EntryRight.l0 k l (l.length : Int) (wrap64 (i + 1)) dn l else some false
    obtain ⟨h1, h2⟩ := aAt_ok h i.toNat
    rw [impl_EntryRight.l0, if_pos hi, if_pos h0, if_pos hi, rd_aAt, impl_isAttr_f _ _ h1 h2 k (by omega)]
    simp only [Option.bind_some]
    unfold attrF
    cases AttrP (aAt l i.toNat).f0 (aAt l i.toNat).f1 with
    | false => simp
    | true =>
     rw [if_pos rfl]
     by_cases hz : i > 0
     ·rw [if_pos hz, w64 (x := i - 1) (by omega) (by omega), if_pos (by omega), if_pos (by omega), rd_aAt, show (i - 1).toNat = i.toNat - 1 by omega, decide_eq_false (p := i.toNat = 0) (by omega)]
      simp
     ·rw [if_neg hz, decide_eq_true (p := i.toNat = 0) (by omega)]
      simp
   ·show impl_EntryRight.l0 (k + 1) l (l.length : Int) i dn l = _
    rw [impl_EntryRight.l0, if_neg (by omega)]
 unfold AttrsP
 by_cases h0 : (dn.length : Int) = 0
 ·rw [if_pos h0, hj, decide_eq_false (p := 0 < dn.length) (by omega)]; rfl
 ·rw [if_neg h0, impl_DnRight_f dn _ (by omega), decide_eq_true (p := 0 < dn.length) (by omega), Option.bind_some, hj, hj]
  cases DnP dn with
  | false => rfl
  | true =>
   rw [if_pos rfl]
   by_cases h8 : l.length ≤ 8
   ·rw [decide_eq_true h8, decide_eq_false (by omega)]; simp
   ·rw [decide_eq_false h8, decide_eq_true (by omega)]; simp
def nameF (l : List ByteArray) (j : Nat) : Bool := NameP (sAt l j) && (decide (j = 0) || Op.bytesLess (sAt l (j - 1)).toList (sAt l j).toList)
def NamesP (l : List ByteArray) : Bool := (List.range l.length).all (nameF l)
theorem spec_l04Names_f (l : List ByteArray) (hl : l.length ≤ 140737488351232) (k : Nat) (hk : 30 + l.length < k) : spec_l04Names.f k l = some (NamesP l) := by
 unfold spec_l04Names.f NamesP
 have := all_loop true (nameF l) l.length (by omega) 30 (fun k i => spec_l04Names.l0 k l i) (fun k i hk h0 hi => ?_) (fun k i hk h0 hi => ?_) l.length k 0 (by omega) (by omega) (by omega)
 ·rw [show (0 : Int).toNat = 0 from rfl, ← List.range_eq_range', Bool.and_true] at this
  exact this
 ·show spec_l04Names.l0 (k + 1) l i = if nameF l i.toNat = true then spec_l04Names.l0 k l (wrap64 (i + 1)) else some false
  rw [spec_l04Names.l0, if_pos hi, if_pos h0, rdOf_sAt, spec_NameRight_f _ _ hk, Option.bind_some]
  unfold nameF
  cases hn : NameP (sAt l i.toNat) with
  | false => simp
  | true =>
   rw [if_pos rfl, Bool.true_and]
   by_cases hz : i > 0
   ·rw [if_pos hz, w64 (x := i - 1) (by omega) (by omega), if_pos (by omega), if_pos (by omega), rdOf_sAt, show (i - 1).toNat = i.toNat - 1 by omega, decide_eq_false (by omega), Bool.false_or]
   ·rw [if_neg hz, decide_eq_true (by omega), Bool.true_or, if_pos rfl]
 ·show spec_l04Names.l0 (k + 1) l i = some true
  rw [spec_l04Names.l0, if_neg (by omega)]
theorem impl_areNames_f (l : List ByteArray) (hl : l.length ≤ 140737488351232) (k : Nat) (hk : l.length < k) : impl_areNames.f k l = some (NamesP l) := by
 unfold impl_areNames.f NamesP
 have := all_loop true (nameF l) l.length (by omega) 0 (fun k i => impl_areNames.l0 k l l (l.length : Int) i) (fun k i hk h0 hi => ?_) (fun k i hk h0 hi => ?_) l.length k 0 (by omega) (by omega) (by omega)
 ·rw [show (0 : Int).toNat = 0 from rfl, ← List.range_eq_range', Bool.and_true] at this
  exact this
 ·show impl_areNames.l0 (k + 1) l l (l.length : Int) i = if nameF l i.toNat = true then impl_areNames.l0 k l l (l.length : Int) (wrap64 (i + 1)) else some false
  rw [impl_areNames.l0, if_pos hi, if_pos h0, if_pos hi, rdOf_sAt, impl_NameRight_f, Option.bind_some]
  unfold nameF
  cases hn : NameP (sAt l i.toNat) with
  | false => simp
  | true =>
   rw [if_pos rfl, Bool.true_and]
   by_cases hz : i > 0
   ·rw [if_pos hz, w64 (x := i - 1) (by omega) (by omega), if_pos (by omega), if_pos (by omega), rdOf_sAt, show (i - 1).toNat = i.toNat - 1 by omega, decide_eq_false (by omega), Bool.false_or]
   ·rw [if_neg hz, decide_eq_true (by omega), Bool.true_or, if_pos rfl]
 ·show impl_areNames.l0 (k + 1) l l (l.length : Int) i = some true
  rw [impl_areNames.l0, if_neg (by omega)]
abbrev Ru := S53
def cvRule (x : S73) : Ru := ⟨x.f0, x.f1.map cvRdn, x.f2, x.f3, x.f4⟩
def LRuOK (l : List S73) : Prop := l.length ≤ 1759218604390 ∧ ∀ x ∈ l, x.f1.length ≤ 4398046511104 ∧ x.f2.length ≤ 8796093022208
def RuOK (l : List Ru) : Prop := l.length ≤ 1759218604390 ∧ ∀ x ∈ l, x.f1.length ≤ 4398046511104 ∧ x.f2.length ≤ 8796093022208
theorem lrd_mem (l : List S73) (i : Int) (h0 : 0 ≤ i) (hi : i < l.length) : rd_T73 l i ∈ l := by
 have hi2 : i.toNat < l.length := by omega
 unfold rd_T73
 rw [List.getD_eq_getElem?_getD, List.getElem?_eq_getElem hi2]
 exact List.getElem_mem hi2
theorem ru_mem (l : List Ru) (i : Int) (h0 : 0 ≤ i) (hi : i < l.length) : rd_T53 l i ∈ l := by
 have hi2 : i.toNat < l.length := by omega
 unfold rd_T53
 rw [List.getD_eq_getElem?_getD, List.getElem?_eq_getElem hi2]
 exact List.getElem_mem hi2
theorem RuOK_map {l : List S73} (h : LRuOK l) : RuOK (l.map cvRule) := by
 refine ⟨by rw [List.length_map]; exact h.1, fun x hx => ?_⟩
 obtain ⟨y, hy, rfl⟩ := List.mem_map.1 hx
 have := h.2 y hy
 exact ⟨by show (y.f1.map cvRdn).length ≤ _; rw [List.length_map]; exact this.1, this.2⟩
theorem laws_szRuleS_f (l : List S73) (h : LRuOK l) (a : Int) (k : Nat) (hk : 17592186044416 + l.length < k) : ∃ r, laws_szRuleS.f k l a = some r := by
 unfold laws_szRuleS.f
 have hl := h.1
 split
 ·exact ⟨_, rfl⟩
 ·refine some_loop l.length (by omega) 17592186044416 (fun k a i => laws_szRuleS.l0 k l a i) (fun k a i hk h0 hi => ?_) (fun k a i _ h0 hi => ?_) l.length k _ 0 (by omega) (by omega) (by omega)
  ·show (∃ r, laws_szRuleS.l0 (k + 1) l a i = some r) ∨ ∃ a', laws_szRuleS.l0 (k + 1) l a i = laws_szRuleS.l0 k l a' (wrap64 (i + 1))
   obtain ⟨m1, m2⟩ := h.2 _ (lrd_mem l i h0 hi)
   rw [laws_szRuleS.l0, if_pos hi, if_pos h0]
   unfold laws_szRule.f
   split
   ·simp only [Option.bind_some]
    rw [if_pos (by omega)]
    exact .inl ⟨_, rfl⟩
   ·obtain ⟨r, e⟩ := laws_szRdnS_f (rd_T73 l i).f1 (by omega) (wrap64 (a - ((rd_T73 l i).f0.size : Int))) k (by omega)
    rw [e]
    simp only [Option.bind_some]
    by_cases h1 : r < 0
    ·rw [if_pos h1]
     simp only [Option.bind_some]
     rw [if_pos (by omega)]
     exact .inl ⟨_, rfl⟩
    ·rw [if_neg h1]
     obtain ⟨r2, e2⟩ := laws_szStringS_f (rd_T73 l i).f2 (by omega) r k (by omega)
     rw [e2]
     simp only [Option.bind_some]
     by_cases h2 : r2 < 0
     ·rw [if_pos h2]
      simp only [Option.bind_some]
      rw [if_pos (by omega)]
      exact .inl ⟨_, rfl⟩
     ·rw [if_neg h2]
      simp only [Option.bind_some]
      rw [if_neg h2]
      exact .inr ⟨_, rfl⟩
  ·show ∃ r, laws_szRuleS.l0 (k + 1) l a i = some r
   rw [laws_szRuleS.l0, if_neg (by omega)]
   exact ⟨_, rfl⟩
theorem laws_toRuleS_f (l : List S73) (h : LRuOK l) (k : Nat) (hk : 17592186044416 + l.length < k) : laws_toRuleS.f k l = some (l.map cvRule) := by
 have hl := h.1
 unfold laws_toRuleS.f
 rw [if_pos (by omega), if_pos (by omega), show ((l.length : Int)).toNat = l.length from rfl,
  copy_all l.length (by omega) (fun j => cvRule (l.getD j z73)) 17592186044416 (fun k x i => laws_toRuleS.l0 k l x i) z53 (fun k x i hk h0 hi hx => ?_) (fun k x i hi => ?_) k (by omega), range_map_getD]
 ·show laws_toRuleS.l0 (k + 1) l x i = _
  obtain ⟨m1, m2⟩ := h.2 _ (lrd_mem l i h0 hi)
  rw [laws_toRuleS.l0, if_pos hi, if_pos h0]
  unfold laws_toRule.f
  rw [laws_toRdnS_f _ (by omega) k (by omega), Option.bind_some, laws_toStringS_f _ (by omega) k (by omega)]
  simp only [Option.bind_some]
  rw [if_pos (by omega)]
  rfl
 ·show laws_toRuleS.l0 (k + 1) l x i = _
  rw [laws_toRuleS.l0, if_neg (by omega)]
theorem laws_eqRuleS_f (l : List Ru) (h : RuOK l) (k : Nat) (hk : 17592186044416 + l.length < k) : laws_eqRuleS.f k l l = some true := by
 have hl := h.1
 unfold laws_eqRuleS.f
 rw [if_pos rfl]
 refine skip_loop true l.length (by omega) 17592186044416 (fun k i => laws_eqRuleS.l0 k l l i) (fun k i hk h0 hi => ?_) (fun k i _ h0 hi => ?_) l.length k 0 (by omega) (by omega) (by omega)
 ·show laws_eqRuleS.l0 (k + 1) l l i = laws_eqRuleS.l0 k l l (wrap64 (i + 1))
  obtain ⟨m1, m2⟩ := h.2 _ (ru_mem l i h0 hi)
  rw [laws_eqRuleS.l0, if_pos hi, if_pos h0, if_pos hi]
  unfold laws_eqRule.f
  rw [if_pos rfl, laws_eqRdnS_f _ (by omega) k (by omega), Option.bind_some, if_pos rfl, laws_eqStringS_f _ (by omega) k (by omega)]
  simp
 ·show laws_eqRuleS.l0 (k + 1) l l i = _
  rw [laws_eqRuleS.l0, if_neg (by omega)]
def RuleP (r : Ru) : Bool := (decide (r.f0.toList = ([42] : List UInt8)) || NameP r.f0) && (DnP r.f1 && (decide (r.f2.length ≤ 8) && (NamesP r.f2 && (decide (r.f3 ≥ 1) && decide (r.f3 ≤ 4)))))
def AclP (l : List Ru) : Bool := l.all RuleP && decide (l.length ≤ 10)
theorem spec_l06Rule_f (r : Ru) (h1 : r.f1.length ≤ 4398046511104) (k : Nat) (hk : 4398046511300 ≤ k) : spec_l06Rule.f k r.f0 r.f1 r.f2 r.f3 r.f4 = some (RuleP r) := by
 unfold spec_l06Rule.f RuleP spec_l02Is.f
 have tail : ((spec_DnRight.f k r.f1).bind fun t142 => (if t142 = true then (if (r.f2.length : Int) ≤ 8 then ((spec_l04Names.f k r.f2).bind fun t143 => (if t143 = true then ((if r.f3 ≥ 1 then (some (decide (r.f3 ≤ 4))) else (some false)).bind fun t144 => (some t144)) else (some false))) else (some false)) else (some false))) = some (DnP r.f1 && (decide (r.f2.length ≤ 8) && (NamesP r.f2 && (decide (r.f3 ≥ 1) && decide (r.f3 ≤ 4))))) := by
  rw [spec_DnRight_f _ (by omega) _ (by omega), Option.bind_some]
  cases DnP r.f1 with
  | false => rw [if_neg (by simp)]; rfl
  | true =>
   rw [if_pos rfl, Bool.true_and]
   by_cases h2 : (r.f2.length : Int) ≤ 8
   ·rw [if_pos h2, decide_eq_true (p := r.f2.length ≤ 8) (by omega), spec_l04Names_f _ (by omega) _ (by omega), Option.bind_some, Bool.true_and]
    cases NamesP r.f2 with
    | false => rw [if_neg (by simp)]; rfl
    | true =>
     rw [if_pos rfl, Bool.true_and]
     by_cases h3 : r.f3 ≥ 1
     ·rw [if_pos h3, decide_eq_true h3]; rfl
     ·rw [if_neg h3, decide_eq_false h3]; rfl
   ·rw [if_neg h2, decide_eq_false (p := r.f2.length ≤ 8) (by omega), Bool.false_and]
 by_cases h : r.f0.toList = ([42] : List UInt8)
 ·rw [if_pos h, decide_eq_true h, Bool.true_or, Bool.true_and]
  exact tail
 ·rw [if_neg h, decide_eq_false h, Bool.false_or, spec_NameRight_f _ _ (by omega), Option.bind_some]
  cases NameP r.f0 with
  | false => rw [if_neg (by simp)]; rfl
  | true => rw [if_pos rfl, Bool.true_and]; exact tail
theorem impl_isRule_f (r : Ru) (k : Nat) (hk : 100 ≤ k) : impl_isRule.f k r.f0 r.f1 r.f2 r.f3 r.f4 = some (RuleP r) := by
 unfold impl_isRule.f RuleP impl_isRight.f impl_between.f
 have tail : ((impl_DnRight.f k r.f1).bind fun t222 => (if t222 = true then (if (r.f2.length : Int) ≤ 8 then ((impl_areNames.f k r.f2).bind fun t223 => (if t223 = true then (((if r.f3 ≥ 1 then (some (decide (r.f3 ≤ 4))) else (some false)).bind fun t217 => (some t217)).bind fun t224 => (some t224)) else (some false))) else (some false)) else (some false))) = some (DnP r.f1 && (decide (r.f2.length ≤ 8) && (NamesP r.f2 && (decide (r.f3 ≥ 1) && decide (r.f3 ≤ 4))))) := by
  rw [impl_DnRight_f _ _ hk, Option.bind_some]
  cases DnP r.f1 with
  | false => rw [if_neg (by simp)]; rfl
  | true =>
   rw [if_pos rfl, Bool.true_and]
   by_cases h2 : (r.f2.length : Int) ≤ 8
   ·rw [if_pos h2, decide_eq_true (p := r.f2.length ≤ 8) (by omega), impl_areNames_f _ (by omega) _ (by omega), Option.bind_some, Bool.true_and]
    cases NamesP r.f2 with
    | false => rw [if_neg (by simp)]; rfl
    | true =>
     rw [if_pos rfl, Bool.true_and]
     by_cases h3 : r.f3 ≥ 1
     ·rw [if_pos h3, decide_eq_true h3]; rfl
     ·rw [if_neg h3, decide_eq_false h3]; rfl
   ·rw [if_neg h2, decide_eq_false (p := r.f2.length ≤ 8) (by omega), Bool.false_and]
 by_cases h : r.f0.toList = ([42] : List UInt8)
 ·rw [if_pos h, decide_eq_true h, Bool.true_or, Bool.true_and]
  exact tail
 ·rw [if_neg h, decide_eq_false h, Bool.false_or, impl_NameRight_f, Option.bind_some]
  cases NameP r.f0 with
  | false => rw [if_neg (by simp)]; rfl
  | true => rw [if_pos rfl, Bool.true_and]; exact tail
theorem rules_all (l : List Ru) : (List.range l.length).all (fun j => RuleP (l.getD j z53)) = l.all RuleP := by
 have := range_map_getD l z53 RuleP
 rw [show (List.range l.length).all (fun j => RuleP (l.getD j z53)) = ((List.range l.length).map (fun j => RuleP (l.getD j z53))).all id by rw [List.all_map]; rfl, this, List.all_map]
 rfl
theorem spec_AclRight_f (l : List Ru) (h : RuOK l) (k : Nat) (hk : 17592186044416 + l.length < k) : spec_AclRight.f k l = some (AclP l) := by
 have hl := h.1
 unfold spec_AclRight.f AclP
 have := all_loop (decide (l.length ≤ 10)) (fun j => RuleP (l.getD j z53)) l.length (by omega) 17592186044416 (fun k i => spec_AclRight.l0 k l i) (fun k i hk h0 hi => ?_) (fun k i hk h0 hi => ?_) l.length k 0 (by omega) (by omega) (by omega)
 ·rw [show (0 : Int).toNat = 0 from rfl, ← List.range_eq_range', rules_all] at this
  exact this
 ·show spec_AclRight.l0 (k + 1) l i = if RuleP (l.getD i.toNat z53) = true then spec_AclRight.l0 k l (wrap64 (i + 1)) else some false
  rw [spec_AclRight.l0, if_pos hi, if_pos h0, spec_l06Rule_f _ (h.2 _ (ru_mem l i h0 hi)).1 k (by omega), Option.bind_some]
  rfl
 ·show spec_AclRight.l0 (k + 1) l i = some (decide (l.length ≤ 10))
  rw [spec_AclRight.l0, if_neg (by omega)]
  congr 1
  rw [Bool.eq_iff_iff, decide_eq_true_eq, decide_eq_true_eq]
  omega
theorem impl_AclRight_ix (k : Nat) (hk : 100 ≤ k) : ∀ (l : List Ru) (i : Int), 0 ≤ i → ∃ r, impl_AclRight.ix k l i = some r ∧ (!(decide (r ≥ 0))) = l.all RuleP
 | [], i, h0 => ⟨-1, rfl, rfl⟩
 | x :: xs, i, h0 => by
  rw [impl_AclRight.ix]
  unfold impl_AclRight_1.f
  rw [impl_isRule_f x k hk, Option.bind_some, Option.bind_some, List.all_cons]
  cases hx : RuleP x with
  | true =>
   rw [Bool.not_true, if_neg (by simp), Bool.true_and]
   exact impl_AclRight_ix k hk xs (i + 1) (by omega)
  | false =>
   rw [Bool.not_false, if_pos rfl]
   exact ⟨i, rfl, by rw [decide_eq_true h0]; rfl⟩
theorem impl_AclRight_f (l : List Ru) (k : Nat) (hk : 100 ≤ k) : impl_AclRight.f k l = some (AclP l) := by
 unfold impl_AclRight.f AclP
 by_cases h : (l.length : Int) ≤ 10
 ·obtain ⟨r, e, h2⟩ := impl_AclRight_ix k hk l 0 (by omega)
  rw [if_pos h, e, Option.bind_some, h2, decide_eq_true (p := l.length ≤ 10) (by omega), Bool.and_true]
 ·rw [if_neg h, decide_eq_false (p := l.length ≤ 10) (by omega), Bool.and_false]
def hasP (l : List ByteArray) (t : ByteArray) : Bool := l.any fun y => decide (y.toList = t.toList)
theorem spec_l04Has_l0 (l : List ByteArray) (t : ByteArray) (hl : l.length ≤ 4611686018427387904) : ∀ (d k : Nat) (i : Int), 0 ≤ i → i + d = l.length → d < k → spec_l04Has.l0 k l t i = some (hasP (l.drop i.toNat) t)
 | 0, k, i, h0, hi, hk => by
  obtain ⟨k, rfl⟩ : ∃ q, k = q + 1 := ⟨k - 1, by omega⟩
  rw [spec_l04Has.l0, if_neg (by omega), List.drop_of_length_le (by omega)]; rfl
 | d + 1, k, i, h0, hi, hk => by
  obtain ⟨k, rfl⟩ : ∃ q, k = q + 1 := ⟨k - 1, by omega⟩
  rw [spec_l04Has.l0, if_pos (by omega), if_pos h0, rdOf_sAt, sAt_drop l i h0 (by omega)]
  unfold hasP
  rw [List.any_cons]
  by_cases h : (sAt l i.toNat).toList = t.toList
  ·rw [if_pos h, decide_eq_true h, Bool.true_or]
  ·rw [if_neg h, decide_eq_false h, Bool.false_or, w64 (x := i + 1) (by omega) (by omega), spec_l04Has_l0 l t hl d k (i + 1) (by omega) (by omega) (by omega)]
   rfl
theorem spec_l04Has_f (l : List ByteArray) (t : ByteArray) (hl : l.length ≤ 4611686018427387904) (k : Nat) (hk : l.length < k) : spec_l04Has.f k l t = some (hasP l t) := by
 unfold spec_l04Has.f
 rw [spec_l04Has_l0 l t hl l.length k 0 (by omega) (by omega) hk]
 rfl
theorem slices_Index_l0 (l : List ByteArray) (t : ByteArray) (hl : l.length ≤ 4611686018427387904) : ∀ (d k : Nat) (i : Int), 0 ≤ i → i + d = l.length → d < k → ∃ r, slices_Index_string_string.l0 k l t (l.length : Int) i = some r ∧ decide (r ≥ 0) = hasP (l.drop i.toNat) t
 | 0, k, i, h0, hi, hk => by
  obtain ⟨k, rfl⟩ : ∃ q, k = q + 1 := ⟨k - 1, by omega⟩
  rw [slices_Index_string_string.l0, if_neg (by omega), List.drop_of_length_le (by omega)]
  exact ⟨-1, rfl, rfl⟩
 | d + 1, k, i, h0, hi, hk => by
  obtain ⟨k, rfl⟩ : ∃ q, k = q + 1 := ⟨k - 1, by omega⟩
  rw [slices_Index_string_string.l0, if_pos (by omega), if_pos h0, if_pos (by omega), rdOf_sAt, sAt_drop l i h0 (by omega)]
  unfold hasP
  rw [List.any_cons]
  by_cases h : t.toList = (sAt l i.toNat).toList
  ·rw [if_pos h, decide_eq_true h.symm, Bool.true_or]
   exact ⟨i, rfl, decide_eq_true h0⟩
  ·rw [if_neg h, decide_eq_false (fun e => h e.symm), Bool.false_or, w64 (x := i + 1) (by omega) (by omega)]
   exact slices_Index_l0 l t hl d k (i + 1) (by omega) (by omega) (by omega)
theorem slices_Contains_f (l : List ByteArray) (t : ByteArray) (hl : l.length ≤ 4611686018427387904) (k : Nat) (hk : l.length < k) : slices_Contains_string_string.f k l t = some (hasP l t) := by
 unfold slices_Contains_string_string.f slices_Index_string_string.f
 obtain ⟨r, e, h⟩ := slices_Index_l0 l t hl l.length k 0 (by omega) (by omega) hk
 rw [e, Option.bind_some, h]
 rfl
def applies (who : ByteArray) (dn : List Rd) (attr : ByteArray) (right : Int) (r : Ru) : Bool :=
 (decide (r.f0.toList = ([42] : List UInt8)) || decide (r.f0.toList = who.toList)) && (decide (r.f3 = right) && (underP dn r.f1 && (decide (r.f2.length = 0) || hasP r.f2 attr)))
def allowedP (l : List Ru) (who : ByteArray) (dn : List Rd) (attr : ByteArray) (right : Int) : Bool := match l.find? (applies who dn attr right) with | some r => r.f4 | none => false
theorem RuleP_parts {r : Ru} (h : RuleP r = true) : DnP r.f1 = true ∧ r.f2.length ≤ 8 := by
 unfold RuleP at h
 simp only [Bool.and_eq_true, decide_eq_true_eq] at h
 exact ⟨h.2.1, h.2.2.1⟩
theorem AclP_mem {l : List Ru} (h : AclP l = true) : l.length ≤ 10 ∧ ∀ r ∈ l, RuleP r = true := by
 unfold AclP at h
 simp only [Bool.and_eq_true, decide_eq_true_eq, List.all_eq_true] at h
 exact ⟨h.2, h.1⟩
theorem ru_drop (l : List Ru) (i : Int) (h0 : 0 ≤ i) (h1 : i < l.length) : l.drop i.toNat = rd_T53 l i :: l.drop (i + 1).toNat := by
 have hi : i.toNat < l.length := by omega
 rw [List.drop_eq_getElem_cons hi, show (i + 1).toNat = i.toNat + 1 by omega]
 unfold rd_T53
 rw [List.getD_eq_getElem?_getD, List.getElem?_eq_getElem hi]; rfl
theorem spec_l06Allowed_l0 (l : List Ru) (who : ByteArray) (dn : List Rd) (attr : ByteArray) (right : Int) (hl : l.length ≤ 10) (hr : ∀ r ∈ l, RuleP r = true) (hd : DnP dn = true) : ∀ (d k : Nat) (i : Int), 0 ≤ i → i + d = l.length → 1000 + d < k →
  spec_l06Allowed.l0 k l who dn attr right i = some (allowedP (l.drop i.toNat) who dn attr right)
 | 0, k, i, h0, hi, hk => by
  obtain ⟨k, rfl⟩ : ∃ q, k = q + 1 := ⟨k - 1, by omega⟩
  rw [spec_l06Allowed.l0, if_neg (by omega), List.drop_of_length_le (by omega)]; rfl
 | d + 1, k, i, h0, hi, hk => by
  obtain ⟨k, rfl⟩ : ∃ q, k = q + 1 := ⟨k - 1, by omega⟩
  have ih := spec_l06Allowed_l0 l who dn attr right hl hr hd d k (i + 1) (by omega) (by omega) (by omega)
  obtain ⟨hb, h8⟩ := RuleP_parts (hr _ (ru_mem l i h0 (by omega)))
  have hdl := (DnP_mem hd).1
  have hbl := (DnP_mem hb).1
  rw [spec_l06Allowed.l0, if_pos (by omega), if_pos h0, w64 (x := i + 1) (by omega) (by omega), ih, ru_drop l i h0 (by omega)]
  generalize rd_T53 l i = r at hb h8 hbl ⊢
  have hu : UnderP dn r.f1 = underP dn r.f1 := by unfold UnderP; rw [hd, hb]; rfl
  have tail : (if r.f3 = right then ((spec_DnUnder.f k dn r.f1).bind fun t217 => (if t217 = true then (if (r.f2.length : Int) = 0 then (some r.f4) else ((spec_l04Has.f k r.f2 attr).bind fun t218 => (if t218 = true then (some r.f4) else some (allowedP (l.drop (i + 1).toNat) who dn attr right)))) else some (allowedP (l.drop (i + 1).toNat) who dn attr right))) else some (allowedP (l.drop (i + 1).toNat) who dn attr right)) =
    some (if (decide (r.f3 = right) && (underP dn r.f1 && (decide (r.f2.length = 0) || hasP r.f2 attr))) = true then r.f4 else allowedP (l.drop (i + 1).toNat) who dn attr right) := by
   by_cases h3 : r.f3 = right
   ·rw [if_pos h3, decide_eq_true h3, Bool.true_and, spec_DnUnder_f _ _ (by omega) (by omega) _ (by omega), hu, Option.bind_some]
    cases underP dn r.f1 with
    | false => rw [if_neg (by simp), Bool.false_and, if_neg (by simp)]
    | true =>
     rw [if_pos rfl, Bool.true_and]
     by_cases h2 : r.f2.length = 0
     ·rw [if_pos (by omega), decide_eq_true h2, Bool.true_or, if_pos rfl]
     ·rw [if_neg (by omega), decide_eq_false h2, Bool.false_or, spec_l04Has_f _ _ (by omega) _ (by omega), Option.bind_some]
      cases hasP r.f2 attr <;> rfl
   ·rw [if_neg h3, decide_eq_false h3, Bool.false_and, if_neg (by simp)]
  rw [tail]
  unfold allowedP
  rw [List.find?_cons]
  unfold applies
  by_cases h1 : r.f0.toList = ([42] : List UInt8)
  ·rw [if_pos h1, decide_eq_true h1, Bool.true_or, Bool.true_and]
   cases (decide (r.f3 = right) && (underP dn r.f1 && (decide (r.f2.length = 0) || hasP r.f2 attr))) <;> rfl
  ·rw [if_neg h1, decide_eq_false h1, Bool.false_or]
   by_cases h2 : r.f0.toList = who.toList
   ·rw [if_pos h2, decide_eq_true h2, Bool.true_and]
    cases (decide (r.f3 = right) && (underP dn r.f1 && (decide (r.f2.length = 0) || hasP r.f2 attr))) <;> rfl
   ·rw [if_neg h2, decide_eq_false h2, Bool.false_and]
theorem spec_l06Allowed_f (l : List Ru) (who : ByteArray) (dn : List Rd) (attr : ByteArray) (right : Int) (h : AclP l = true) (hd : DnP dn = true) (k : Nat) (hk : 1100 ≤ k) : spec_l06Allowed.f k l who dn attr right = some (allowedP l who dn attr right) := by
 obtain ⟨h1, h2⟩ := AclP_mem h
 unfold spec_l06Allowed.f
 rw [spec_l06Allowed_l0 l who dn attr right h1 h2 hd l.length k 0 (by omega) (by omega) (by omega)]
 rfl
theorem impl_allowed_clo (who : ByteArray) (dn : List Rd) (attr : ByteArray) (right : Int) (hd : DnP dn = true) (r : Ru) (hr : RuleP r = true) (k : Nat) (hk : 100 ≤ k) : impl_allowed.clo k who attr right dn r.f0 r.f1 r.f2 r.f3 = some (applies who dn attr right r) := by
 obtain ⟨hb, h8⟩ := RuleP_parts hr
 have tail : impl_allowed.clo2 k attr right dn r.f1 r.f2 r.f3 = some (decide (r.f3 = right) && (underP dn r.f1 && (decide (r.f2.length = 0) || hasP r.f2 attr))) := by
  unfold impl_allowed.clo2
  rw [impl_dnUnder_f _ _ hd hb _ hk, Option.bind_some]
  cases underP dn r.f1 with
  | false => rw [if_neg (by simp), Bool.false_and, Bool.and_false]
  | true =>
   rw [if_pos rfl, Bool.true_and]
   by_cases h3 : r.f3 = right
   ·rw [if_pos h3, decide_eq_true h3, Bool.true_and]
    by_cases h2 : r.f2.length = 0
    ·rw [if_pos (by omega), decide_eq_true h2, Bool.true_or]
    ·rw [if_neg (by omega), decide_eq_false h2, Bool.false_or, slices_Contains_f _ _ (by omega) _ (by omega)]
   ·rw [if_neg h3, decide_eq_false h3, Bool.false_and]
 unfold impl_allowed.clo applies
 rw [tail]
 by_cases h1 : r.f0.toList = ([42] : List UInt8)
 ·rw [if_pos h1, decide_eq_true h1, Bool.true_or, Bool.true_and]
 ·rw [if_neg h1, decide_eq_false h1, Bool.false_or]
  by_cases h2 : r.f0.toList = who.toList
  ·rw [if_pos h2, decide_eq_true h2, Bool.true_and]
  ·rw [if_neg h2, decide_eq_false h2, Bool.false_and]
theorem impl_allowed_ix (who : ByteArray) (dn : List Rd) (attr : ByteArray) (right : Int) (hd : DnP dn = true) (k : Nat) (hk : 100 ≤ k) : ∀ (l : List Ru) (i : Int), (∀ r ∈ l, RuleP r = true) → 0 ≤ i →
  ∃ r, impl_allowed.ix k who attr right dn l i = some r ∧ ((l.find? (applies who dn attr right) = none ∧ r = -1) ∨ ∃ j : Nat, j < l.length ∧ r = i + (j : Int) ∧ l.find? (applies who dn attr right) = l[j]?)
 | [], i, hr, h0 => ⟨-1, rfl, .inl ⟨rfl, rfl⟩⟩
 | x :: xs, i, hr, h0 => by
  rw [impl_allowed.ix, impl_allowed_clo who dn attr right hd x (hr x (by simp)) k hk, Option.bind_some, List.find?_cons]
  cases applies who dn attr right x with
  | true =>
   rw [if_pos rfl]
   exact ⟨i, rfl, .inr ⟨0, by simp, by omega, rfl⟩⟩
  | false =>
   rw [if_neg (by simp)]
   obtain ⟨r, e, h⟩ := impl_allowed_ix who dn attr right hd k hk xs (i + 1) (fun y hy => hr y (List.mem_cons_of_mem _ hy)) (by omega)
   refine ⟨r, e, ?_⟩
   rcases h with h | ⟨j, h1, h2, h3⟩
   ·exact .inl h
   ·exact .inr ⟨j + 1, by simp; omega, by omega, by simpa using h3⟩
theorem impl_allowed_f (l : List Ru) (who : ByteArray) (dn : List Rd) (attr : ByteArray) (right : Int) (h : AclP l = true) (hd : DnP dn = true) (k : Nat) (hk : 100 ≤ k) : impl_allowed.f k l who dn attr right = some (allowedP l who dn attr right) := by
 unfold impl_allowed.f allowedP
 obtain ⟨r, e, h1⟩ := impl_allowed_ix who dn attr right hd k hk l 0 (AclP_mem h).2 (by omega)
 rw [e, Option.bind_some]
 rcases h1 with ⟨h2, h3⟩ | ⟨j, h2, h3, h4⟩
 ·rw [h2, if_neg (by omega)]
 ·rw [h4, if_pos (by omega), List.getElem?_eq_getElem h2]
  unfold rd_T53
  rw [h3, show (0 + (j : Int)).toNat = j by omega, List.getD_eq_getElem?_getD, List.getElem?_eq_getElem h2]
  rfl
def MayChangeP (l : List Ru) (who : ByteArray) (d : List Rd) (m : List At) (xs : List ByteArray) : Bool :=
 decide (xs.length ≤ 400) && (AclP l && (EntryP d m && (NameP who && (xs.all NameP && xs.all (fun t => allowedP l who d t 2)))))
theorem EntryP_dn2 {d : List Rd} {l : List At} (h : EntryP d l = true) : DnP d = true := by
 unfold EntryP at h
 rw [Bool.and_eq_true, Bool.and_eq_true] at h
 exact h.1.2
theorem impl_may_ix1 : ∀ (xs : List ByteArray) (i : Int), 0 ≤ i → ∃ r, impl_MayChange.ix1 xs i = some r ∧ decide (0 ≤ r) = !(xs.all NameP)
 | [], i, h => ⟨-1, rfl, by simp⟩
 | x :: xs, i, h => by
  rw [impl_MayChange.ix1, impl_MayChange_1.f, impl_NameRight_f, Option.bind_some, Option.bind_some, List.all_cons]
  cases NameP x with
  | false => exact ⟨i, rfl, by simp [h]⟩
  | true =>
   obtain ⟨r, e, hr⟩ := impl_may_ix1 xs (i + 1) (by omega)
   exact ⟨r, by rw [Bool.not_true, if_neg (by simp), e], by rw [hr, Bool.true_and]⟩
theorem impl_may_ix2 (l : List Ru) (who : ByteArray) (d : List Rd) (hA : AclP l = true) (hd : DnP d = true) (k : Nat) (hk : 100 ≤ k) : ∀ (xs : List ByteArray) (i : Int), 0 ≤ i → ∃ r, impl_MayChange.ix2 k l who d xs i = some r ∧ decide (0 ≤ r) = !(xs.all (fun t => allowedP l who d t 2))
 | [], i, h => ⟨-1, rfl, by simp⟩
 | x :: xs, i, h => by
  rw [impl_MayChange.ix2, impl_MayChange.clo2, impl_allowed_f l who d x 2 hA hd k hk, Option.bind_some, Option.bind_some, List.all_cons]
  cases allowedP l who d x 2 with
  | false => exact ⟨i, rfl, by simp [h]⟩
  | true =>
   obtain ⟨r, e, hr⟩ := impl_may_ix2 l who d hA hd k hk xs (i + 1) (by omega)
   exact ⟨r, by rw [Bool.not_true, if_neg (by simp), e], by rw [hr, Bool.true_and]⟩
theorem impl_MayChange_f (l : List Ru) (who : ByteArray) (d : List Rd) (m : List At) (xs : List ByteArray) (hm : AtOK m) (k : Nat) (hk : 4503599627370496 < k) : impl_MayChange.f k l who d m xs = some (MayChangeP l who d m xs) := by
 unfold impl_MayChange.f impl_isMany_string.f MayChangeP
 rw [Option.bind_some]
 by_cases c : (xs.length : Int) > 400
 ·rw [decide_eq_true c, if_pos rfl, decide_eq_false (p := xs.length ≤ 400) (by omega), Bool.false_and]
 ·rw [decide_eq_false c, if_neg (by simp), decide_eq_true (p := xs.length ≤ 400) (by omega), Bool.true_and, impl_AclRight_f l k (by omega), Option.bind_some]
  cases hA : AclP l with
  | false => rw [if_neg (by simp), Bool.false_and]
  | true =>
   rw [if_pos rfl, Bool.true_and, impl_EntryRight_f d m hm k hk, Option.bind_some]
   cases hE : EntryP d m with
   | false => rw [if_neg (by simp), Bool.false_and]
   | true =>
    rw [if_pos rfl, Bool.true_and, impl_NameRight_f, Option.bind_some]
    cases NameP who with
    | false => rw [if_neg (by simp), Bool.false_and]
    | true =>
     obtain ⟨r, e, hr⟩ := impl_may_ix1 xs 0 (by omega)
     rw [if_pos rfl, Bool.true_and, e, Option.bind_some]
     cases hn : xs.all NameP with
     | false =>
      rw [hn, Bool.not_false] at hr
      rw [if_pos (of_decide_eq_true hr), Bool.false_and]
     | true =>
      rw [hn, Bool.not_true] at hr
      obtain ⟨q, e2, hq⟩ := impl_may_ix2 l who d hA (EntryP_dn2 hE) k (by omega) xs 0 (by omega)
      rw [if_neg (of_decide_eq_false hr), e2, Option.bind_some, hq, Bool.not_not, Bool.true_and]
theorem spec_may_l0 (l : List Ru) (who : ByteArray) (d : List Rd) (m : List At) (xs : List ByteArray) (hA : AclP l = true) (hd : DnP d = true) (hx : xs.length ≤ 400) :
  ∀ (n k : Nat) (ok : Bool) (i : Int), 0 ≤ i → i + n = xs.length → 2000 + n < k → spec_MayChange.l0 k l who xs ok i d m = some ((xs.drop i.toNat).all NameP && (ok && (xs.drop i.toNat).all (fun t => allowedP l who d t 2)))
 | 0, k, ok, i, h0, hi, hk => by
  obtain ⟨k, rfl⟩ : ∃ q, k = q + 1 := ⟨k - 1, by omega⟩
  rw [spec_MayChange.l0, if_neg (by omega), List.drop_of_length_le (by omega)]
  simp
 | n + 1, k, ok, i, h0, hi, hk => by
  obtain ⟨k, rfl⟩ : ∃ q, k = q + 1 := ⟨k - 1, by omega⟩
  have ih := fun b => spec_may_l0 l who d m xs hA hd hx n k b (i + 1) (by omega) (by omega) (by omega)
  rw [spec_MayChange.l0, if_pos (by omega), if_pos h0, rdOf_sAt, spec_NameRight_f _ k (by omega), Option.bind_some, sAt_drop xs i h0 (by omega), List.all_cons, List.all_cons, w64 (x := i + 1) (by omega) (by omega)]
  cases NameP (sAt xs i.toNat) with
  | false => rw [if_neg (by simp), Bool.false_and, Bool.false_and]
  | true =>
   rw [if_pos rfl]
   cases ok with
   | false => rw [if_neg (by simp), ih]; simp
   | true => rw [if_pos rfl, spec_l06Allowed_f l who d _ 2 hA hd k (by omega), Option.bind_some, ih]; simp
theorem spec_MayChange_f (l : List Ru) (who : ByteArray) (d : List Rd) (m : List At) (xs : List ByteArray) (hl : RuOK l) (hd : d.length ≤ 140737488351232) (hm : AtOK m) (k : Nat) (hk : 18014398509481984 < k) : spec_MayChange.f k l who d m xs = some (MayChangeP l who d m xs) := by
 obtain ⟨k, rfl⟩ : ∃ q, k = q + 1 := ⟨k - 1, by omega⟩
 have hll := hl.1
 have no : ∀ b, MayChangeP l who d m xs = false → spec_MayChange.j0 (k + 1) l who xs true d m = b → b = some (MayChangeP l who d m xs) := by
  intro b e1 e2
  rw [e1, ← e2, spec_MayChange.j0, if_pos rfl]
 unfold spec_MayChange.f
 by_cases c1 : (l.length : Int) > 400
 ·rw [if_pos c1]
  refine no _ ?_ rfl
  have : AclP l = false := Bool.eq_false_iff.2 (fun h => by have := (AclP_mem h).1; omega)
  unfold MayChangeP
  rw [this]; simp
 ·rw [if_neg c1]
  by_cases c2 : (who.size : Int) > 8000
  ·rw [if_pos c2]
   refine no _ ?_ rfl
   have : NameP who = false := Bool.eq_false_iff.2 (fun h => by have := (NameP_size h).2; omega)
   unfold MayChangeP
   rw [this]; simp
  ·rw [if_neg c2]
   by_cases c3 : (xs.length : Int) > 400
   ·rw [if_pos c3]
    refine no _ ?_ rfl
    unfold MayChangeP
    rw [decide_eq_false (p := xs.length ≤ 400) (by omega), Bool.false_and]
   ·rw [if_neg c3, spec_AclRight_f l hl _ (by omega), Option.bind_some]
    cases hA : AclP l with
    | false =>
     rw [if_neg (by simp)]
     refine no _ ?_ rfl
     unfold MayChangeP
     rw [hA]; simp
    | true =>
     rw [if_pos rfl, spec_NameRight_f _ _ (by omega), Option.bind_some]
     cases hW : NameP who with
     | false =>
      rw [if_neg (by simp)]
      refine no _ ?_ rfl
      unfold MayChangeP
      rw [hW]; simp
     | true =>
      rw [if_pos rfl, spec_EntryRight_f d hd m hm _ (by omega), Option.bind_some]
      cases hE : EntryP d m with
      | false =>
       rw [Bool.not_false]
       refine no _ ?_ rfl
       unfold MayChangeP
       rw [hE]; simp
      | true =>
       rw [Bool.not_true, spec_MayChange.j0, if_neg (by simp), spec_may_l0 l who d m xs hA (EntryP_dn2 hE) (by omega) xs.length k true 0 (by omega) (by omega) (by omega)]
       unfold MayChangeP
       rw [decide_eq_true (p := xs.length ≤ 400) (by omega), hA, hE, hW]
       simp
theorem FnExactMayChange : laws_FnExactMayChange.Pure := by
 intro l who d m xs ⟨hl, hx⟩ _ ⟨hd, _⟩ ⟨hm, hy⟩ ⟨hs, _⟩
 have h : LRuOK l := ⟨by omega, fun x hx2 => by
  have h1 := (hx x hx2).2.1.1
  have h2 := (hx x hx2).2.2.1.1
  omega⟩
 have hM : ∀ x ∈ m, x.f1.length ≤ 17592186044416 ∧ ∀ s ∈ x.f1, s.size ≤ 140737488351232 := fun x hx2 => by
  have := (hy x hx2).2
  refine ⟨?_, this.2⟩
  have := this.1
  omega
 have hA : AtOK (m.map cvAttr) := by
  refine ⟨by rw [List.length_map]; omega, fun x hx => ?_⟩
  obtain ⟨y, hy, rfl⟩ := List.mem_map.1 hx
  have := hM y hy
  exact ⟨by show y.f1.length ≤ _; omega, this.2⟩
 obtain ⟨K, hK⟩ : ∃ K : Nat, K = 1152921504606846976 := ⟨_, rfl⟩
 refine ⟨K, ?_⟩
 unfold laws_FnExactMayChange.f
 split
 ·rfl
 ·obtain ⟨r, e⟩ := laws_szRuleS_f l h 1048576 K (by omega)
  rw [e, Option.bind_some]
  split
  ·rfl
  ·obtain ⟨r2, e2⟩ := laws_szEntry_f d m (by omega) (by omega) (fun x hx => by have := (hM x hx).1; omega) r K (by omega)
   rw [e2, Option.bind_some]
   split
   ·rfl
   ·obtain ⟨r3, e3⟩ := laws_szStringS_f xs (by omega) r2 K (by omega)
    rw [e3, Option.bind_some]
    split
    ·rfl
    ·have hr := RuOK_map h
     have hd2 : (d.map cvRdn).length ≤ 140737488351232 := by rw [List.length_map]; omega
     rw [laws_toRuleS_f l h K (by omega), laws_toEntry_f d m (by omega) (by omega) (fun x hx => (hM x hx).1) K (by omega), laws_toStringS_f xs (by omega) K (by omega)]
     generalize l.map cvRule = a at hr ⊢
     generalize d.map cvRdn = b at hd2 ⊢
     generalize m.map cvAttr = c at hA ⊢
     have hrl := hr.1
     simp only [Option.bind_some]
     rw [spec_MayChange_f a who b c xs hr hd2 hA K (by omega), impl_MayChange_f a who b c xs hA K (by omega), laws_eqRuleS_f a hr K (by omega), laws_eqEntry_f b c hd2 hA.1 (fun x hx => (hA.2 x hx).1) K (by omega), laws_eqStringS_f xs (by omega) K (by omega)]
     simp
end Go.Proofs.YtgkjlfimjnhbbaaGreatDoor.Pure
